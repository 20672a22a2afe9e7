import PyProof.Rows.All
import Wide.All
import OpenK.AllK
import Wide.FinOn
import HandS.ForMost
import HandS.IsInst
import HandS.TupAny
import HandS.Deep
import HandS.Zip
import HandS.Style
import HandS.TupSets
import HandS.Conv
import KE.GoesEnum
import KE.KSortTupG
import KE.KDictCopyH
import PyProof.DictCompW
import HandS.DictComp
import PySem.Challenge.RW_rootfirst_k37_whole_closed_under_exchang
set_option Elab.async false
set_option linter.all false
set_option maxRecDepth 100000
set_option maxHeartbeats 4000000
-- PLa
/-! PLa: a small program logic over the hand layer: data, states, expressions. -/
namespace PL
open PySem PySem.Spec PyProof.Rows L2

/-! ### immutable data in the abstract heap -/
mutual
inductive Im (H : Hp) : PyData → V → Prop
  | non : Im H .none .non
  | bl (b : Bool) : Im H (.bool b) (.bl b)
  | int (i : Int) : Im H (.int i) (.int i)
  | str (x : Str) : Im H (.str x) (.str x)
  | tup {a : Addr} {xs : List V} {ds : List PyData} : H a = some (.tup xs) → Ims H ds xs → Im H (.tuple ds) (.ref a)
inductive Ims (H : Hp) : List PyData → List V → Prop
  | nil : Ims H [] []
  | cons {d : PyData} {ds : List PyData} {x : V} {xs : List V} : Im H d x → Ims H ds xs → Ims H (d :: ds) (x :: xs)
end
section
variable {H H' : Hp}
mutual
theorem Im.mono (t : ∀ a xs, H a = some (.tup xs) → H' a = some (.tup xs)) : ∀ {d : PyData} {v : V}, Im H d v → Im H' d v
  | _, _, .non => .non
  | _, _, .bl b => .bl b
  | _, _, .int i => .int i
  | _, _, .str x => .str x
  | _, _, .tup h r => .tup (t _ _ h) (Ims.mono t r)
theorem Ims.mono (t : ∀ a xs, H a = some (.tup xs) → H' a = some (.tup xs)) : ∀ {ds : List PyData} {xs : List V}, Ims H ds xs → Ims H' ds xs
  | _, _, .nil => .nil
  | _, _, .cons h r => .cons (Im.mono t h) (Ims.mono t r)
end
theorem Ims.len : ∀ {ds : List PyData} {xs : List V}, Ims H ds xs → xs.length = ds.length
  | _, _, .nil => rfl
  | _, _, .cons _ r => congrArg (· + 1) (Ims.len r)
theorem Ims.at : ∀ {ds : List PyData} {xs : List V} {i : Nat} {d : PyData}, Ims H ds xs → ds[i]? = some d → ∃ x, xs[i]? = some x ∧ Im H d x
  | _, _, _, _, .nil, e => by simp at e
  | _, _, 0, _, .cons h _, e => by simp at e; subst e; exact ⟨_, rfl, h⟩
  | _, _, i + 1, d, .cons _ r, e => by
    obtain ⟨x, h1, h2⟩ := Ims.at (i := i) (d := d) r (by simpa using e)
    exact ⟨x, by simpa using h1, h2⟩
theorem Ims.app : ∀ {ds es : List PyData} {xs ys : List V}, Ims H ds xs → Ims H es ys → Ims H (ds ++ es) (xs ++ ys)
  | _, _, _, _, .nil, s => s
  | _, _, _, _, .cons h r, s => .cons h (Ims.app r s)
theorem Ims.take : ∀ {ds : List PyData} {xs : List V} (n : Nat), Ims H ds xs → Ims H (ds.take n) (xs.take n)
  | _, _, 0, _ => by simp; exact .nil
  | _, _, _ + 1, .nil => by simp; exact .nil
  | _, _, n + 1, .cons h r => .cons h (Ims.take n r)
theorem Ims.drop : ∀ {ds : List PyData} {xs : List V} (n : Nat), Ims H ds xs → Ims H (ds.drop n) (xs.drop n)
  | _, _, 0, r => r
  | _, _, _ + 1, .nil => by simp; exact .nil
  | _, _, n + 1, .cons _ r => Ims.drop n r
theorem Ims.one {d : PyData} {x : V} (h : Im H d x) : Ims H [d] [x] := .cons h .nil
theorem Ims.dropLast {ds : List PyData} {xs : List V} (h : Ims H ds xs) : Ims H ds.dropLast xs.dropLast := by
  rw [List.dropLast_eq_take, List.dropLast_eq_take, h.len]
  exact h.take _
theorem Im.int_inv {i : Int} {v : V} (h : Im H (.int i) v) : v = .int i := by cases h; rfl
theorem Im.bl_inv {b : Bool} {v : V} (h : Im H (.bool b) v) : v = .bl b := by cases h; rfl
theorem Im.non_inv {v : V} (h : Im H .none v) : v = .non := by cases h; rfl
theorem Im.tup_inv {ds : List PyData} {v : V} (h : Im H (.tuple ds) v) : ∃ a xs, v = .ref a ∧ H a = some (.tup xs) ∧ Ims H ds xs := by
  cases h with
  | tup a b => exact ⟨_, _, rfl, a, b⟩
theorem Ims.ints : ∀ {ns : List Int} {xs : List V}, Ims H (ns.map PyData.int) xs → xs = ns.map V.int
  | [], _, h => by cases h; rfl
  | n :: r, _, h => by
    cases h with
    | cons a b => cases a; rw [List.map_cons, Ims.ints b]
theorem Ims.of_ints : ∀ (ns : List Int), Ims H (ns.map PyData.int) (ns.map V.int)
  | [] => .nil
  | n :: r => .cons (.int n) (Ims.of_ints r)
theorem Ims.bls : ∀ {bs : List Bool} {xs : List V}, Ims H (bs.map PyData.bool) xs → xs = bs.map V.bl
  | [], _, h => by cases h; rfl
  | n :: r, _, h => by
    cases h with
    | cons a b => cases a; rw [List.map_cons, Ims.bls b]
mutual
theorem Im.dp {K : PySem.W.Frag} : ∀ {d : PyData} {v : V}, Im H d v → Dp K H v d
  | _, _, .non => .non
  | _, _, .bl b => .bl b
  | _, _, .int i => .int i
  | _, _, .str x => .str x
  | _, _, .tup h r => .tup (SqT.of h) (Ims.dp r)
theorem Ims.dp {K : PySem.W.Frag} : ∀ {ds : List PyData} {xs : List V}, Ims H ds xs → DpAll K H xs ds
  | _, _, .nil => .nil
  | _, _, .cons h r => .cons (Im.dp h) (Ims.dp r)
end
end

/-! ### the ghost: what stood at the entry (and may not change), the stream that may move -/
structure Gh where
  H0 : Hp
  so : Option (Addr × Addr)
  B : Hp
def isS (G : Gh) (a : Addr) : Prop := ∃ sl, G.so = some (a, sl)
def SOk (G : Gh) (H : Hp) : Prop := ∀ l sl, G.so = some (l, sl) → sl ≠ l ∧ (∃ ns : List Int, H sl = some (.lst (ns.map V.int))) ∧
  ∃ cell k : Int, H l = some (.lst [.ref sl, .int cell, .int k]) ∧ 0 ≤ cell ∧ 0 ≤ k
structure Ext (G : Gh) (H H' : Hp) : Prop where
  keep : ∀ a u, H a = some u → ¬ isS G a → H' a = some u
  strm : SOk G H'
  tups : ∀ a xs, H a = some (.tup xs) → H' a = some (.tup xs)
theorem Ext.refl {G : Gh} {H : Hp} (h : SOk G H) : Ext G H H := ⟨fun _ _ e _ => e, h, fun _ _ e => e⟩
theorem Ext.trans {G : Gh} {H H1 H2 : Hp} (a : Ext G H H1) (b : Ext G H1 H2) : Ext G H H2 :=
  ⟨fun c u e n => b.keep c u (a.keep c u e n) n, b.strm, fun c xs e => b.tups c xs (a.tups c xs e)⟩
theorem SOk.same {G : Gh} {H H' : Hp} (h : SOk G H) (s : Same H H') : SOk G H' := fun l sl e => by
  obtain ⟨h1, ⟨ns, h2⟩, c, k, h3, h4⟩ := h l sl e
  exact ⟨h1, ⟨ns, s _ _ h2⟩, c, k, s _ _ h3, h4⟩
theorem Ext.same {G : Gh} {H H' : Hp} (h : SOk G H) (s : Same H H') : Ext G H H' := ⟨fun a u e _ => s a u e, h.same s, fun a xs e => s a _ e⟩
theorem same_new {H : Hp} {p : Addr} {o : HO} (h : H p = none) : Same H (upd H p o) := fun b u q => by rw [upd_ne (ne_of_none q h)]; exact q
theorem Ext.new {G : Gh} {H : Hp} {p : Addr} {o : HO} (h : SOk G H) (n : H p = none) : Ext G H (upd H p o) := Ext.same h (same_new n)
theorem Ext.fresh {G : Gh} {H H' : Hp} {p : Addr} (s : SOk G H) (e : Ext G H H') (h : H' p = none) : H p = none := by
  cases q : H p with
  | none => rfl
  | some u =>
    by_cases hs : isS G p
    · obtain ⟨sl, hs⟩ := hs
      obtain ⟨_, _, c, k, h3, _⟩ := e.strm p sl hs
      rw [h] at h3; cases h3
    · rw [e.keep p u q hs] at h; cases h

/-! ### states as data -/
inductive SD where
  | no
  | d (x : PyData)
  | l (ds : List PyData)
  | ol (a : Addr) (ds : List PyData)
  | ok (a : Addr) (ks : List Int)
  | ot (a : Addr) (ks : List (List Int))
  | st (ns : List Int)
  | rf (a : Addr)
  | l2 (qs : List (List PyData))
  | o2 (a : Addr) (qs : List (List PyData))
def SD.own : SD → Option Addr
  | .ol a _ => some a
  | .ok a _ => some a
  | .ot a _ => some a
  | .o2 a _ => some a
  | _ => none
abbrev dKof (ks : List Int) : HO := .dK (ks.map fun k => (Sum.inl k, V.bl true))
abbrev dTof (ks : List (List Int)) : HO := .dT (ks.map fun k => (k.map Sum.inl, V.bl true))
/-- lists that stand under the ghost, in a row -/
def Fz (G : Gh) (H : Hp) (rs : List Addr) (qs : List (List PyData)) : Prop := rs.length = qs.length ∧ ∀ (i : Nat) q, qs[i]? = some q → ∃ r xs, rs[i]? = some r ∧ G.H0 r = some (.lst xs) ∧ ¬ isS G r ∧ Ims H q xs
/-- lists, in a row -/
def FzR (G : Gh) (H : Hp) (rs : List Addr) (qs : List (List PyData)) : Prop := rs.length = qs.length ∧ ∀ (i : Nat) q, qs[i]? = some q → ∃ r xs, rs[i]? = some r ∧ H r = some (.lst xs) ∧ ¬ isS G r ∧ Ims H q xs
theorem Fz.mono {G : Gh} {H H' : Hp} (t : ∀ a xs, H a = some (.tup xs) → H' a = some (.tup xs)) {rs : List Addr} {qs : List (List PyData)} (h : Fz G H rs qs) : Fz G H' rs qs := ⟨h.1, fun i q e => let ⟨r, xs, e1, e2, e3, e4⟩ := h.2 i q e; ⟨r, xs, e1, e2, e3, e4.mono t⟩⟩
theorem FzR.mono {G : Gh} {H H' : Hp} (e : Ext G H H') {rs : List Addr} {qs : List (List PyData)} (h : FzR G H rs qs) : FzR G H' rs qs := ⟨h.1, fun i q eq => let ⟨r, xs, e1, e2, e3, e4⟩ := h.2 i q eq; ⟨r, xs, e1, e.keep _ _ e2 e3, e3, e4.mono e.tups⟩⟩
def SlotOk (G : Gh) (H : Hp) (o : Option V) : SD → Prop
  | .no => True
  | .d x => ∃ v, o = some v ∧ Im H x v
  | .l ds => ∃ a xs, o = some (.ref a) ∧ G.H0 a = some (.lst xs) ∧ ¬ isS G a ∧ Ims H ds xs
  | .ol a ds => o = some (.ref a) ∧ G.H0 a = none ∧ ∃ xs, H a = some (.lst xs) ∧ Ims H ds xs
  | .ok a ks => o = some (.ref a) ∧ G.H0 a = none ∧ H a = some (dKof ks)
  | .ot a ks => o = some (.ref a) ∧ G.H0 a = none ∧ H a = some (dTof ks)
  | .st ns => ∃ l sl, G.so = some (l, sl) ∧ o = some (.ref l) ∧ G.H0 sl = some (.lst (ns.map V.int)) ∧ sl ≠ l
  | .rf a => o = some (.ref a)
  | .l2 qs => ∃ a rs, o = some (.ref a) ∧ G.H0 a = some (.lst (rs.map V.ref)) ∧ ¬ isS G a ∧ Fz G H rs qs
  | .o2 a qs => o = some (.ref a) ∧ G.H0 a = none ∧ ∃ rs : List Addr, H a = some (.lst (rs.map V.ref)) ∧ Fz G H rs qs ∧ ∀ r ∈ rs, G.B r = none
def ownAt (ρ : List SD) (i : Nat) : Option Addr := ρ[i]?.bind SD.own
structure StOk (G : Gh) (H : Hp) (σ : L2.St) (ρ : List SD) : Prop where
  len : σ.length = ρ.length
  base : ∀ a u, G.H0 a = some u → ¬ isS G a → H a = some u
  strm : SOk G H
  sin : ∀ l sl, G.so = some (l, sl) → G.H0 l ≠ none ∧ G.H0 sl ≠ none
  slot : ∀ (i : Nat) (r : SD), ρ[i]? = some r → SlotOk G H (σ[i]?.join) r
  apart : ∀ (i j : Nat) (a : Addr), i ≠ j → ownAt ρ i = some a → ownAt ρ j ≠ some a
  bsub : ∀ a, G.H0 a = none → G.B a = none

theorem join_some {o : Option (Option V)} {v : V} : o.join = some v ↔ o = some (some v) := by
  cases o with
  | none => simp
  | some x => cases x <;> simp

section
variable {G : Gh} {H H' : Hp} {σ : L2.St} {ρ : List SD}
/-- an owned thing stands, is no stream, is not of the entry -/
theorem StOk.owned (S : StOk G H σ ρ) {i : Nat} {a : Addr} (h : ownAt ρ i = some a) : G.H0 a = none ∧ ¬ isS G a ∧ ∃ u, H a = some u ∧ Mut (some u) := by
  unfold ownAt at h
  cases q : ρ[i]? with
  | none => rw [q] at h; cases h
  | some r =>
    rw [q] at h
    have s := S.slot i r q
    have ns : G.H0 a = none → ¬ isS G a := fun n ⟨sl, e⟩ => (S.sin a sl e).1 n
    cases r with
    | ol b ds =>
      have e : b = a := Option.some.inj h
      subst e
      obtain ⟨_, n, xs, e, _⟩ := s
      exact ⟨n, ns n, _, e, True.intro⟩
    | ok b ks =>
      have e : b = a := Option.some.inj h
      subst e
      obtain ⟨_, n, e⟩ := s
      exact ⟨n, ns n, _, e, True.intro⟩
    | ot b ks =>
      have e : b = a := Option.some.inj h
      subst e
      obtain ⟨_, n, e⟩ := s
      exact ⟨n, ns n, _, e, True.intro⟩
    | o2 b qs =>
      have e : b = a := Option.some.inj h
      subst e
      obtain ⟨_, n, rs, e, _⟩ := s
      exact ⟨n, ns n, _, e, True.intro⟩
    | _ => cases h
theorem SlotOk.mono (sin : ∀ l sl, G.so = some (l, sl) → G.H0 l ≠ none ∧ G.H0 sl ≠ none) (e : Ext G H H') {o : Option V} {r : SD} (h : SlotOk G H o r) : SlotOk G H' o r := by
  have ns : ∀ {a}, G.H0 a = none → ¬ isS G a := fun n ⟨sl, e⟩ => (sin _ sl e).1 n
  cases r with
  | no => trivial
  | d x => obtain ⟨v, e1, h1⟩ := h; exact ⟨v, e1, h1.mono e.tups⟩
  | l ds => obtain ⟨a, xs, e1, e2, e3, h1⟩ := h; exact ⟨a, xs, e1, e2, e3, h1.mono e.tups⟩
  | ol a ds => obtain ⟨e1, n, xs, e2, h1⟩ := h; exact ⟨e1, n, xs, e.keep _ _ e2 (ns n), h1.mono e.tups⟩
  | ok a ks => obtain ⟨e1, n, e2⟩ := h; exact ⟨e1, n, e.keep _ _ e2 (ns n)⟩
  | ot a ks => obtain ⟨e1, n, e2⟩ := h; exact ⟨e1, n, e.keep _ _ e2 (ns n)⟩
  | st => exact h
  | rf a => exact h
  | l2 qs => obtain ⟨a, rs, e1, e2, e3, h1⟩ := h; exact ⟨a, rs, e1, e2, e3, h1.mono e.tups⟩
  | o2 a qs => obtain ⟨e1, n, rs, e2, h1⟩ := h; exact ⟨e1, n, rs, e.keep _ _ e2 (ns n), h1.1.mono e.tups, h1.2⟩
theorem StOk.mono (S : StOk G H σ ρ) (e : Ext G H H') : StOk G H' σ ρ :=
  ⟨S.len, fun a u h n => e.keep a u (S.base a u h n) n, e.strm, S.sin, fun i r h => (S.slot i r h).mono S.sin e, S.apart, S.bsub⟩
theorem StOk.fresh0 (S : StOk G H σ ρ) {a : Addr} (h : H a = none) : G.H0 a = none := by
  cases q : G.H0 a with
  | none => rfl
  | some u =>
    by_cases hs : isS G a
    · obtain ⟨sl, hs⟩ := hs
      obtain ⟨_, _, c, k, h3, _⟩ := S.strm a sl hs
      rw [h] at h3; cases h3
    · rw [S.base a u q hs] at h; cases h
end

theorem notS {G : Gh} {l sl : Addr} (e : G.so = some (l, sl)) (h : sl ≠ l) : ¬ isS G sl := fun ⟨x, q⟩ => by rw [e] at q; cases q; exact h rfl
/-! ### results of expressions -/
def Res (G : Gh) (H : Hp) (v : V) : SD → Prop
  | .d x => Im H x v
  | .l ds => ∃ a xs, v = .ref a ∧ ¬ isS G a ∧ H a = some (.lst xs) ∧ Ims H ds xs
  | .ok a ks => v = .ref a ∧ ¬ isS G a ∧ H a = some (dKof ks)
  | .ot a ks => v = .ref a ∧ ¬ isS G a ∧ H a = some (dTof ks)
  | .st ns => ∃ l sl, G.so = some (l, sl) ∧ v = .ref l ∧ H sl = some (.lst (ns.map V.int)) ∧ sl ≠ l
  | .rf a => v = .ref a
  | .l2 qs => ∃ a rs, v = .ref a ∧ ¬ isS G a ∧ H a = some (.lst (rs.map V.ref)) ∧ FzR G H rs qs
  | _ => False
theorem Res.mono {G : Gh} {H H' : Hp} (e : Ext G H H') {v : V} {r : SD} (h : Res G H v r) : Res G H' v r := by
  cases r with
  | no => exact h
  | d x => exact Im.mono e.tups h
  | l ds => obtain ⟨a, xs, e1, e2, e3, h1⟩ := h; exact ⟨a, xs, e1, e2, e.keep _ _ e3 e2, h1.mono e.tups⟩
  | ol a ds => exact h
  | ok a ks => obtain ⟨e1, e2, e3⟩ := h; exact ⟨e1, e2, e.keep _ _ e3 e2⟩
  | ot a ks => obtain ⟨e1, e2, e3⟩ := h; exact ⟨e1, e2, e.keep _ _ e3 e2⟩
  | st ns => obtain ⟨l, sl, e1, e2, e3, e4⟩ := h; exact ⟨l, sl, e1, e2, e.keep _ _ e3 (notS e1 e4), e4⟩
  | rf a => exact h
  | l2 qs => obtain ⟨a, rs, e1, e2, e3, h1⟩ := h; exact ⟨a, rs, e1, e2, e.keep _ _ e3 e2, h1.mono e⟩
  | o2 a qs => exact h
inductive Ress (G : Gh) (H : Hp) : List V → List SD → Prop
  | nil : Ress G H [] []
  | cons {v : V} {vs : List V} {r : SD} {rs : List SD} : Res G H v r → Ress G H vs rs → Ress G H (v :: vs) (r :: rs)
theorem Ress.mono {G : Gh} {H H' : Hp} (e : Ext G H H') : ∀ {vs : List V} {rs : List SD}, Ress G H vs rs → Ress G H' vs rs
  | _, _, .nil => .nil
  | _, _, .cons h r => .cons (Res.mono e h) (Ress.mono e r)
theorem Ress.ims {G : Gh} {H : Hp} : ∀ {vs : List V} {ds : List PyData}, Ress G H vs (ds.map SD.d) → Ims H ds vs
  | _, [], .nil => .nil
  | _, _ :: _, .cons h r => .cons h (Ress.ims r)

/-! ### judgements of expressions -/
def tE (ρ : List SD) (Φ : SD → Prop) : TE := fun σ H Q => ∃ G, StOk G H σ ρ ∧ ∀ v H' r, Ext G H H' → Res G H' v r → Φ r → Q v H'
def tF (ρ : List SD) (Ψ : List PyData → Prop) : TE := fun σ H Q => ∃ G, StOk G H σ ρ ∧ ∀ a xs H' ds, H a = none → Ext G H H' → H' a = some (.lst xs) → Ims H' ds xs → Ψ ds → Q (.ref a) H'
def tT (ρ : List SD) (Φ : Bool → Prop) : TT := fun σ H Q => ∃ G, StOk G H σ ρ ∧ ∀ b H', Ext G H H' → Φ b → Q b H'
def tA (ρ : List SD) (Φ : List SD → Prop) : TA := fun σ H Q => ∃ G, StOk G H σ ρ ∧ ∀ vs H' rs, Ext G H H' → Ress G H' vs rs → Φ rs → Q vs H'
def XE (X : Cx) (ρ : List SD) (e : Expr) (Φ : SD → Prop) : Prop := PE X e (tE ρ Φ)
def XF (X : Cx) (ρ : List SD) (e : Expr) (Ψ : List PyData → Prop) : Prop := PE X e (tF ρ Ψ)
def XT (X : Cx) (ρ : List SD) (e : Expr) (Φ : Bool → Prop) : Prop := PT X e (tT ρ Φ)
def XW (X : Cx) (ρ : List SD) (e : Expr) (Φ : Bool → Prop) : Prop := PW X e (tT ρ Φ)
def XA (X : Cx) (ρ : List SD) (es : List Expr) (Φ : List SD → Prop) : Prop := PA X es (tA ρ Φ)
abbrev XD (X : Cx) (ρ : List SD) (e : Expr) (x : PyData) : Prop := XE X ρ e (fun r => r = .d x)
abbrev XB (X : Cx) (ρ : List SD) (e : Expr) (b : Bool) : Prop := XT X ρ e (fun r => r = b)

section
variable {X : Cx} {e : Expr} {es : List Expr}
theorem PE.imp {t t' : TE} (h : PE X e t) (w : ∀ σ H Q, t' σ H Q → t σ H Q) : PE X e t' := ⟨fun pins s σ H Q I q => h.run pins s σ H Q I (w σ H Q q)⟩
theorem PT.imp {t t' : TT} (h : PT X e t) (w : ∀ σ H Q, t' σ H Q → t σ H Q) : PT X e t' := ⟨fun pins s σ H Q I q => h.run pins s σ H Q I (w σ H Q q)⟩
theorem PW.imp {t t' : TT} (h : PW X e t) (w : ∀ σ H Q, t' σ H Q → t σ H Q) : PW X e t' := ⟨fun wh pins s σ H Q I q => h.run wh pins s σ H Q I (w σ H Q q)⟩
theorem PA.imp {t t' : TA} (h : PA X es t) (w : ∀ σ H Q, t' σ H Q → t σ H Q) : PA X es t' := ⟨fun pos pins s σ H Q I q => h.run pos pins s σ H Q I (w σ H Q q)⟩
theorem PE.uni {ι : Type} {t : ι → TE} {P : ι → Prop} (h : ∀ i, P i → PE X e (t i)) : PE X e (fun σ H Q => ∃ i, P i ∧ t i σ H Q) := ⟨fun pins s σ H Q I ⟨i, p, q⟩ => (h i p).run pins s σ H Q I q⟩
theorem PT.uni {ι : Type} {t : ι → TT} {P : ι → Prop} (h : ∀ i, P i → PT X e (t i)) : PT X e (fun σ H Q => ∃ i, P i ∧ t i σ H Q) := ⟨fun pins s σ H Q I ⟨i, p, q⟩ => (h i p).run pins s σ H Q I q⟩
theorem PA.uni {ι : Type} {t : ι → TA} {P : ι → Prop} (h : ∀ i, P i → PA X es (t i)) : PA X es (fun σ H Q => ∃ i, P i ∧ t i σ H Q) := ⟨fun pos pins s σ H Q I ⟨i, p, q⟩ => (h i p).run pos pins s σ H Q I q⟩
theorem PSs.uni {ι : Type} {sts : List Stmt} {t : ι → TS} {P : ι → Prop} (h : ∀ i, P i → PSs X sts (t i)) : PSs X sts (fun D σ H => ∃ i, P i ∧ t i D σ H) := ⟨fun pins s σ H D I ⟨i, p, q⟩ => (h i p).run pins s σ H D I q⟩
theorem PS.imp {st : Stmt} {t t' : TS} (h : PS X st t) (w : ∀ D σ H, t' D σ H → t D σ H) : PS X st t' := ⟨fun pins s σ H D I q => h.run pins s σ H D I (w D σ H q)⟩
theorem PSs.imp {sts : List Stmt} {t t' : TS} (h : PSs X sts t) (w : ∀ D σ H, t' D σ H → t D σ H) : PSs X sts t' := ⟨fun pins s σ H D I q => h.run pins s σ H D I (w D σ H q)⟩

variable {ρ : List SD} {Φ Ψ Θ : SD → Prop} {pos : Pos} {a b c : Expr}
theorem XE.weak (h : XE X ρ e Φ) (w : ∀ r, Φ r → Ψ r) : XE X ρ e Ψ := PE.imp h fun σ H Q ⟨G, S, q⟩ => ⟨G, S, fun v H' r e1 hr p => q v H' r e1 hr (w r p)⟩
theorem XF.weak {Φ Ψ : List PyData → Prop} (h : XF X ρ e Φ) (w : ∀ r, Φ r → Ψ r) : XF X ρ e Ψ := PE.imp h fun σ H Q ⟨G, S, q⟩ => ⟨G, S, fun a xs H' r n e1 e2 hr p => q a xs H' r n e1 e2 hr (w r p)⟩
theorem XT.weak {Φ Ψ : Bool → Prop} (h : XT X ρ e Φ) (w : ∀ r, Φ r → Ψ r) : XT X ρ e Ψ := PT.imp h fun σ H Q ⟨G, S, q⟩ => ⟨G, S, fun v H' e1 p => q v H' e1 (w v p)⟩
theorem XA.weak {Φ Ψ : List SD → Prop} (h : XA X ρ es Φ) (w : ∀ r, Φ r → Ψ r) : XA X ρ es Ψ := PA.imp h fun σ H Q ⟨G, S, q⟩ => ⟨G, S, fun v H' r e1 hr p => q v H' r e1 hr (w r p)⟩
theorem XF.toE {Ψ : List PyData → Prop} (h : XF X ρ e Ψ) : XE X ρ e (fun r => ∃ ds, r = .l ds ∧ Ψ ds) :=
  PE.imp h fun σ H Q ⟨G, S, q⟩ => ⟨G, S, fun a xs H' ds n e1 h1 h2 p => q _ H' (.l ds) e1 ⟨a, xs, rfl, (fun ⟨sl, es⟩ => by
    obtain ⟨_, _, c, k, h3, _⟩ := S.strm a sl es
    rw [n] at h3; cases h3), h1, h2⟩ ⟨ds, rfl, p⟩⟩

/-! ### names and constants -/
theorem xe_varR (i : Nat) {a : Addr} {nm : Str} (h : ρ[i]? = some (.rf a)) (hp : PE X (.Name nm pos) (tVar i)) : XE X ρ (.Name nm pos) (fun r => r = .rf a) :=
  PE.imp hp fun σ H Q ⟨G, S, q⟩ => ⟨_, join_some.mp (S.slot i _ h), q _ H (.rf a) (Ext.refl S.strm) rfl rfl⟩
theorem xe_varL2 (i : Nat) {qs : List (List PyData)} {nm : Str} (h : ρ[i]? = some (.l2 qs)) (hp : PE X (.Name nm pos) (tVar i)) : XE X ρ (.Name nm pos) (fun r => r = .l2 qs) :=
  PE.imp hp fun σ H Q ⟨G, S, q⟩ => by
    obtain ⟨a, rs, e, e0, ns, r⟩ := S.slot i _ h
    exact ⟨_, join_some.mp e, q _ H (.l2 qs) (Ext.refl S.strm) ⟨a, rs, rfl, ns, S.base a _ e0 ns, r.1, fun i q eq => let ⟨b, xs, e1, e2, e3, e4⟩ := r.2 i q eq; ⟨b, xs, e1, S.base b _ e2 e3, e3, e4⟩⟩ rfl⟩
theorem xe_varO2 (i : Nat) {a : Addr} {qs : List (List PyData)} {nm : Str} (h : ρ[i]? = some (.o2 a qs)) (hp : PE X (.Name nm pos) (tVar i)) : XE X ρ (.Name nm pos) (fun r => r = .l2 qs) :=
  PE.imp hp fun σ H Q ⟨G, S, q⟩ => by
    obtain ⟨e, n, rs, e0, r, _⟩ := S.slot i _ h
    exact ⟨_, join_some.mp e, q _ H (.l2 qs) (Ext.refl S.strm) ⟨a, rs, rfl, (S.owned (i := i) (by unfold ownAt; rw [h]; rfl)).2.1, e0, r.1, fun i q eq => let ⟨b, xs, e1, e2, e3, e4⟩ := r.2 i q eq; ⟨b, xs, e1, S.base b _ e2 e3, e3, e4⟩⟩ rfl⟩
theorem xe_var (i : Nat) {x : PyData} {nm : Str} (h : ρ[i]? = some (.d x)) (hp : PE X (.Name nm pos) (tVar i)) : XD X ρ (.Name nm pos) x :=
  PE.imp hp fun σ H Q ⟨G, S, q⟩ => by
    obtain ⟨v, e, r⟩ := S.slot i _ h
    exact ⟨v, join_some.mp e, q v H (.d x) (Ext.refl S.strm) r rfl⟩
theorem xe_varL (i : Nat) {ds : List PyData} {nm : Str} (h : ρ[i]? = some (.l ds)) (hp : PE X (.Name nm pos) (tVar i)) : XE X ρ (.Name nm pos) (fun r => r = .l ds) :=
  PE.imp hp fun σ H Q ⟨G, S, q⟩ => by
    obtain ⟨a, xs, e, e0, ns, r⟩ := S.slot i _ h
    exact ⟨_, join_some.mp e, q _ H (.l ds) (Ext.refl S.strm) ⟨a, xs, rfl, ns, S.base a _ e0 ns, r⟩ rfl⟩
theorem xe_varO (i : Nat) {a : Addr} {ds : List PyData} {nm : Str} (h : ρ[i]? = some (.ol a ds)) (hp : PE X (.Name nm pos) (tVar i)) : XE X ρ (.Name nm pos) (fun r => r = .l ds) :=
  PE.imp hp fun σ H Q ⟨G, S, q⟩ => by
    obtain ⟨e, n, xs, e0, r⟩ := S.slot i _ h
    exact ⟨_, join_some.mp e, q _ H (.l ds) (Ext.refl S.strm) ⟨a, xs, rfl, (S.owned (i := i) (by unfold ownAt; rw [h]; rfl)).2.1, e0, r⟩ rfl⟩
theorem xe_varK (i : Nat) {a : Addr} {ks : List Int} {nm : Str} (h : ρ[i]? = some (.ok a ks)) (hp : PE X (.Name nm pos) (tVar i)) : XE X ρ (.Name nm pos) (fun r => r = .ok a ks) :=
  PE.imp hp fun σ H Q ⟨G, S, q⟩ => by
    obtain ⟨e, n, e0⟩ := S.slot i _ h
    exact ⟨_, join_some.mp e, q _ H (.ok a ks) (Ext.refl S.strm) ⟨rfl, (S.owned (i := i) (by unfold ownAt; rw [h]; rfl)).2.1, e0⟩ rfl⟩
theorem xe_varT (i : Nat) {a : Addr} {ks : List (List Int)} {nm : Str} (h : ρ[i]? = some (.ot a ks)) (hp : PE X (.Name nm pos) (tVar i)) : XE X ρ (.Name nm pos) (fun r => r = .ot a ks) :=
  PE.imp hp fun σ H Q ⟨G, S, q⟩ => by
    obtain ⟨e, n, e0⟩ := S.slot i _ h
    exact ⟨_, join_some.mp e, q _ H (.ot a ks) (Ext.refl S.strm) ⟨rfl, (S.owned (i := i) (by unfold ownAt; rw [h]; rfl)).2.1, e0⟩ rfl⟩
theorem xe_varS (i : Nat) {nm : Str} {ns : List Int} (h : ρ[i]? = some (.st ns)) (hp : PE X (.Name nm pos) (tVar i)) : XE X ρ (.Name nm pos) (fun r => r = .st ns) :=
  PE.imp hp fun σ H Q ⟨G, S, q⟩ => by
    obtain ⟨l, sl, e, e1, e2, e3⟩ := S.slot i _ h
    exact ⟨_, join_some.mp e1, q _ H (.st ns) (Ext.refl S.strm) ⟨l, sl, e, rfl, S.base sl _ e2 (notS e e3), e3⟩ rfl⟩
theorem xe_const {x : PyData} {v : V} (h : ∀ H, Im H x v) (hp : PE X e (tC v)) : XD X ρ e x :=
  PE.imp hp fun σ H Q ⟨G, S, q⟩ => q v H (.d x) (Ext.refl S.strm) (h H) rfl
theorem xe_int {i j} : XD X ρ (.Constant (.int i) j pos) (.int i) := xe_const (fun _ => .int i) pe_int
theorem xe_bl {b j} : XD X ρ (.Constant (.bool b) j pos) (.bool b) := xe_const (fun _ => .bl b) pe_bl
theorem xe_str {x j} : XD X ρ (.Constant (.str x) j pos) (.str x) := xe_const (fun _ => .str x) pe_str
theorem xe_non {j} : XD X ρ (.Constant .none j pos) .none := xe_const (fun _ => .non) pe_non
theorem xe_glob {x : Str} {i : Int} (hg : Gl X x) (hm : ∃ t, X.mg x = some (.int i t)) (hd : (x == ("__debug__" : Str)) = false := by decide) : XD X ρ (.Name x pos) (.int i) := by
  obtain ⟨t, hm⟩ := hm
  exact xe_const (fun _ => .int i) (pe_glob hg hm ⟨t, rfl⟩ hd)

/-! ### two operands, by values -/
/-- what an operation on values gives -/
def Op2 (r : R2) (Φ Ψ Θ : SD → Prop) : Prop := ∀ x y G H v w, Φ x → Ψ y → SOk G H → Res G H v x → Res G H w y → ∀ Q : VK, (∀ u H' z, Ext G H H' → Res G H' u z → Θ z → Q u H') → r v w H Q
theorem xe_tOp {r : R2} (hp : PE X e (tOp r (tE ρ Φ) (tE ρ Ψ))) (h : Op2 r Φ Ψ Θ) : XE X ρ e Θ :=
  PE.imp hp fun σ H Q ⟨G, S, q⟩ => ⟨G, S, fun v H1 x e1 r1 p1 => ⟨G, S.mono e1, fun w H2 y e2 r2 p2 =>
    h x y G H2 v w p1 p2 e2.strm (r1.mono e2) r2 Q fun u H3 z e3 r3 p3 => q u H3 z ((e1.trans e2).trans e3) r3 p3⟩⟩
theorem xe_bin {op : Operator} {r : R2} (ho : OpR X (binaryOp op) r) (ha : XE X ρ a Φ) (hb : XE X ρ b Ψ) (h : Op2 r Φ Ψ Θ) : XE X ρ (.BinOp a op b pos) Θ := xe_tOp (pe_op ho ha hb) h
theorem xe_cmp {op : CmpOp} {r : R2} (ho : OpR X (compareOp op) r) (hm : behindInMarks op b = false) (ha : XE X ρ a Φ) (hb : XE X ρ b Ψ) (h : Op2 r Φ Ψ Θ) : XE X ρ (.Compare a [op] [b] pos) Θ := xe_tOp (pe_cmpR ho ha hb hm) h
/-- a comparison as a test -/
theorem xt_cmp {op : CmpOp} {r : R2} {B : Bool → Prop} (ho : OpR X (compareOp op) r) (hm : behindInMarks op b = false) (ha : XE X ρ a Φ) (hb : XE X ρ b Ψ) (h : Op2 r Φ Ψ (fun z => ∃ k, z = .d (.bool k) ∧ B k)) : XT X ρ (.Compare a [op] [b] pos) B :=
  PT.imp (pt_cmpR ho ha hb hm) fun σ H Q ⟨G, S, q⟩ => ⟨G, S, fun v H1 x e1 r1 p1 => ⟨G, S.mono e1, fun w H2 y e2 r2 p2 =>
    h x y G H2 v w p1 p2 e2.strm (r1.mono e2) r2 _ fun u H3 z e3 r3 p3 => by
      obtain ⟨k, rfl, hk⟩ := p3
      exact ⟨k, Im.bl_inv r3, q k H3 ((e1.trans e2).trans e3) hk⟩⟩⟩
theorem xt_of {B : Bool → Prop} (h : XE X ρ e (fun z => ∃ k, z = .d (.bool k) ∧ B k)) (he : ∀ whole, isTrue e X.env whole = (do let v ← whole; standAt e.pos; holding [v] (truthy v))) : XT X ρ e B :=
  PT.imp (pt_val h he) fun σ H Q ⟨G, S, q⟩ => ⟨G, S, fun v H1 x e1 r1 p1 => by
      obtain ⟨k, rfl, hk⟩ := p1
      exact ⟨k, Im.bl_inv r1, q k H1 e1 hk⟩⟩
end
end PL

-- PLb
/-! PLb: rules for expressions. -/
namespace PL
open PySem PySem.Spec PyProof.Rows L2
section
variable {X : Cx} {ρ : List SD} {Φ Ψ Θ : SD → Prop} {pos : Pos} {a b c e : Expr} {es : List Expr} {i j : Int} {x y : PyData}

/-! ### ints -/
theorem o2_I {C : Int → Int → Prop} {g : Int → Int → Int} (h : ∀ x y, Φ x → Ψ y → ∃ i j, x = .d (.int i) ∧ y = .d (.int j) ∧ C i j ∧ Θ (.d (.int (g i j)))) : Op2 (rI C fun i j => .int (g i j)) Φ Ψ Θ := by
  intro x y G H v w hx hy s rx ry Q q
  obtain ⟨i, j, rfl, rfl, hc, ht⟩ := h x y hx hy
  exact ⟨i, j, Im.int_inv rx, Im.int_inv ry, hc, q _ H (.d (.int (g i j))) (Ext.refl s) (.int _) ht⟩
theorem o2_I0 {g : Int → Int → Int} (h : ∀ x y, Φ x → Ψ y → ∃ i j, x = .d (.int i) ∧ y = .d (.int j) ∧ Θ (.d (.int (g i j)))) : Op2 (rI0 fun i j => .int (g i j)) Φ Ψ Θ := by
  intro x y G H v w hx hy s rx ry Q q
  obtain ⟨i, j, rfl, rfl, ht⟩ := h x y hx hy
  exact ⟨i, j, Im.int_inv rx, Im.int_inv ry, q _ H (.d (.int (g i j))) (Ext.refl s) (.int _) ht⟩
theorem o2_B0 {g : Int → Int → Bool} (h : ∀ x y, Φ x → Ψ y → ∃ i j, x = .d (.int i) ∧ y = .d (.int j) ∧ Θ (.d (.bool (g i j)))) : Op2 (rI0 fun i j => .bl (g i j)) Φ Ψ Θ := by
  intro x y G H v w hx hy s rx ry Q q
  obtain ⟨i, j, rfl, rfl, ht⟩ := h x y hx hy
  exact ⟨i, j, Im.int_inv rx, Im.int_inv ry, q _ H (.d (.bool (g i j))) (Ext.refl s) (.bl _) ht⟩
theorem xe_add (ha : XD X ρ a (.int i)) (hb : XD X ρ b (.int j)) : XD X ρ (.BinOp a .Add b pos) (.int (i + j)) :=
  xe_bin op_add ha hb (o2_I0 fun _ _ hx hy => ⟨i, j, hx, hy, rfl⟩)
theorem xe_addN (ha : XE X ρ a Φ) (hb : XE X ρ b Ψ) (h : ∀ x y, Φ x → Ψ y → ∃ i j, x = .d (.int i) ∧ y = .d (.int j) ∧ Θ (.d (.int (i + j)))) : XE X ρ (.BinOp a .Add b pos) Θ :=
  xe_bin op_add ha hb (o2_I0 h)
theorem xe_sub (ha : XD X ρ a (.int i)) (hb : XD X ρ b (.int j)) : XD X ρ (.BinOp a .Sub b pos) (.int (i - j)) :=
  xe_bin op_sub ha hb (o2_I0 fun _ _ hx hy => ⟨i, j, hx, hy, rfl⟩)
theorem xe_neg {i} {p1 p2} {k : Nat} : XD X ρ (.UnaryOp .USub (.Constant (.int i) k p1) p2) (.int (-i)) :=
  PE.imp (pe_un un_neg pe_int) fun σ H Q ⟨G, S, q⟩ => ⟨i, rfl, q _ H (.d (.int (-i))) (Ext.refl S.strm) (.int _) rfl⟩

/-! ### comparisons -/
theorem o2_eqI (h : ∀ x y, Φ x → Ψ y → ∃ i j, x = .d (.int i) ∧ y = .d (.int j) ∧ Θ (.d (.bool (decide (i = j))))) : Op2 rEq Φ Ψ Θ := by
  intro x y G H v w hx hy s rx ry Q q
  obtain ⟨i, j, rfl, rfl, ht⟩ := h x y hx hy
  cases Im.int_inv rx
  cases Im.int_inv ry
  refine ⟨rfl, q _ H (.d (.bool (decide (i = j)))) (Ext.refl s) ?_ ht⟩
  have e : decide (V.int i = V.int j) = decide (i = j) := by simp
  rw [e]
  exact .bl _
theorem o2_neI (h : ∀ x y, Φ x → Ψ y → ∃ i j, x = .d (.int i) ∧ y = .d (.int j) ∧ Θ (.d (.bool (!decide (i = j))))) : Op2 rNe Φ Ψ Θ := by
  intro x y G H v w hx hy s rx ry Q q
  obtain ⟨i, j, rfl, rfl, ht⟩ := h x y hx hy
  cases Im.int_inv rx
  cases Im.int_inv ry
  refine ⟨rfl, q _ H (.d (.bool (!decide (i = j)))) (Ext.refl s) ?_ ht⟩
  have e : decide (V.int i = V.int j) = decide (i = j) := by simp
  rw [e]
  exact .bl _
theorem o2_eqB (h : ∀ x y, Φ x → Ψ y → ∃ i j, x = .d (.bool i) ∧ y = .d (.bool j) ∧ Θ (.d (.bool (i == j)))) : Op2 rEq Φ Ψ Θ := by
  intro x y G H v w hx hy s rx ry Q q
  obtain ⟨i, j, rfl, rfl, ht⟩ := h x y hx hy
  cases Im.bl_inv rx
  cases Im.bl_inv ry
  refine ⟨rfl, q _ H (.d (.bool (i == j))) (Ext.refl s) ?_ ht⟩
  rw [dec_bl]
  exact .bl _
theorem xe_eqI (ha : XD X ρ a (.int i)) (hb : XD X ρ b (.int j)) : XD X ρ (.Compare a [.Eq] [b] pos) (.bool (decide (i = j))) :=
  xe_cmp op_eq (nomark _) ha hb (o2_eqI fun _ _ hx hy => ⟨i, j, hx, hy, rfl⟩)
theorem xe_eqIN (ha : XE X ρ a Φ) (hb : XE X ρ b Ψ) (h : ∀ x y, Φ x → Ψ y → ∃ i j, x = .d (.int i) ∧ y = .d (.int j) ∧ Θ (.d (.bool (decide (i = j))))) : XE X ρ (.Compare a [.Eq] [b] pos) Θ :=
  xe_cmp op_eq (nomark _) ha hb (o2_eqI h)
theorem xe_eqB {p q : Bool} (ha : XD X ρ a (.bool p)) (hb : XD X ρ b (.bool q)) : XD X ρ (.Compare a [.Eq] [b] pos) (.bool (p == q)) :=
  xe_cmp op_eq (nomark _) ha hb (o2_eqB fun _ _ hx hy => ⟨p, q, hx, hy, rfl⟩)
theorem xt_eqI (ha : XD X ρ a (.int i)) (hb : XD X ρ b (.int j)) : XB X ρ (.Compare a [.Eq] [b] pos) (decide (i = j)) :=
  xt_cmp op_eq (nomark _) ha hb (o2_eqI fun _ _ hx hy => ⟨i, j, hx, hy, _, rfl, rfl⟩)
theorem xt_neI (ha : XD X ρ a (.int i)) (hb : XD X ρ b (.int j)) : XB X ρ (.Compare a [.NotEq] [b] pos) (!decide (i = j)) :=
  xt_cmp op_ne (nomark _) ha hb (o2_neI fun _ _ hx hy => ⟨i, j, hx, hy, _, rfl, rfl⟩)
theorem xt_ltI (ha : XD X ρ a (.int i)) (hb : XD X ρ b (.int j)) : XB X ρ (.Compare a [.Lt] [b] pos) (decide (i < j)) :=
  xt_cmp op_lt (nomark _) ha hb (o2_B0 fun _ _ hx hy => ⟨i, j, hx, hy, _, rfl, rfl⟩)
theorem xt_gtI (ha : XD X ρ a (.int i)) (hb : XD X ρ b (.int j)) : XB X ρ (.Compare a [.Gt] [b] pos) (decide (j < i)) :=
  xt_cmp op_gt (nomark _) ha hb (o2_B0 fun _ _ hx hy => ⟨i, j, hx, hy, _, rfl, rfl⟩)
theorem xt_isN {k : Nat} {p : Pos} {t : Bool} (ha : XE X ρ a Φ) (h : ∀ r, Φ r → (r = .d .none ∧ t = true) ∨ (r ≠ .d .none ∧ t = false)) : XB X ρ (.Compare a [.Is] [.Constant .none k p] pos) t :=
  PT.imp (pt_cmpR op_isN ha (pe_non (X := X)) (nomark _)) fun σ H Q ⟨G, S, q⟩ => ⟨G, S, fun v H1 r e1 r1 p1 => ⟨rfl, _, rfl, q _ H1 e1 (by
    rcases h r p1 with ⟨rfl, rfl⟩ | ⟨hn, rfl⟩
    · rw [Im.non_inv r1]; rfl
    · refine decide_eq_false fun z => hn ?_
      subst z
      cases r with
      | d x => cases r1; rfl
      | l ds => obtain ⟨a, _, e, _⟩ := r1; cases e
      | ok a ks => cases r1.1
      | ot a ks => cases r1.1
      | st => obtain ⟨_, _, _, e, _⟩ := r1; cases e
      | rf a => cases r1
      | l2 qs => obtain ⟨a, _, e, _⟩ := r1; cases e
      | _ => exact r1.elim)⟩⟩
theorem xt_isNot {t u : Bool} (ha : XD X ρ a (.bool t)) (hb : XD X ρ b (.bool u)) : XB X ρ (.Compare a [.IsNot] [b] pos) (!decide (t = u)) :=
  xt_cmp op_notBl (nomark _) ha hb fun x y G H v w hx hy s rx ry Q q => by
    subst hx; subst hy
    exact ⟨t, u, Im.bl_inv rx, Im.bl_inv ry, q _ H (.d (.bool _)) (Ext.refl s) (.bl _) ⟨_, rfl, rfl⟩⟩
/-- lo <= v <= hi -/
theorem xe_chain (ha : XD X ρ a (.int i)) (hb : XD X ρ b (.int j)) {k : Int} (hc : XD X ρ c (.int k)) (hm : lastMarks [.LtE, .LtE] [b, c] = false := by with_unfolding_all rfl) : XD X ρ (.Compare a [.LtE, .LtE] [b, c] pos) (.bool (decide (i ≤ j) && decide (j ≤ k))) :=
  PE.imp (pe_chain op_le op_le ha hb hc hm) fun σ H Q ⟨G, S, q⟩ => ⟨G, S, fun v H1 x e1 r1 p1 => ⟨G, S.mono e1, fun w H2 y e2 r2 p2 => by
    subst p1; subst p2
    refine ⟨i, j, Im.int_inv r1, Im.int_inv r2, _, rfl, ?_⟩
    by_cases hij : i ≤ j
    · rw [decide_eq_true hij]
      refine iteT ⟨G, S.mono (e1.trans e2), fun u H3 z e3 r3 p3 => ?_⟩
      subst p3
      exact ⟨j, k, Im.int_inv r2, Im.int_inv r3, q _ H3 (.d (.bool _)) ((e1.trans e2).trans e3) (.bl _) (by rw [decide_eq_true hij]; rfl)⟩
    · rw [decide_eq_false hij]
      exact iteF (q _ H2 (.d (.bool false)) (e1.trans e2) (.bl _) (by rw [decide_eq_false hij]; rfl))⟩⟩
theorem xt_chain (ha : XD X ρ a (.int i)) (hb : XD X ρ b (.int j)) {k : Int} (hc : XD X ρ c (.int k)) (hm : lastMarks [.LtE, .LtE] [b, c] = false := by with_unfolding_all rfl) : XB X ρ (.Compare a [.LtE, .LtE] [b, c] pos) (decide (i ≤ j) && decide (j ≤ k)) :=
  PT.imp (pt_chain op_le op_le ha hb hc hm) fun σ H Q ⟨G, S, q⟩ => ⟨G, S, fun v H1 x e1 r1 p1 => ⟨G, S.mono e1, fun w H2 y e2 r2 p2 => by
    subst p1; subst p2
    refine ⟨i, j, Im.int_inv r1, Im.int_inv r2, _, rfl, ?_⟩
    by_cases hij : i ≤ j
    · rw [decide_eq_true hij]
      refine iteT ⟨G, S.mono (e1.trans e2), fun u H3 z e3 r3 p3 => ?_⟩
      subst p3
      exact ⟨j, k, Im.int_inv r2, Im.int_inv r3, _, rfl, q _ H3 ((e1.trans e2).trans e3) (by rw [decide_eq_true hij]; rfl)⟩
    · rw [decide_eq_false hij]
      exact iteF ⟨_, rfl, q _ H2 (e1.trans e2) (by rw [decide_eq_false hij]; rfl)⟩⟩⟩

/-! ### bools -/
variable {p q : Bool} {rest : List Expr}
theorem xe_and1 {op} (h : XE X ρ a Φ) : XE X ρ (.BoolOp op [a] pos) Φ := pe_one h
theorem xe_and (ha : XD X ρ a (.bool p)) (hb : p = true → XD X ρ (.BoolOp .And (b :: rest) pos) (.bool q)) : XD X ρ (.BoolOp .And (a :: b :: rest) pos) (.bool (p && q)) := by
  cases p with
  | true => exact PE.imp (pe_and ha (hb rfl)) fun σ H Q ⟨G, S, k⟩ => ⟨G, S, fun v H1 x e1 r1 p1 => by
      subst p1
      exact ⟨true, Im.bl_inv r1, iteT ⟨G, S.mono e1, fun v H2 y e2 r2 p2 => k v H2 y (e1.trans e2) r2 (by rw [p2]; rfl)⟩⟩⟩
  | false => exact PE.imp (pe_and ha (tb := fun _ _ _ => False) ⟨fun _ _ _ _ _ _ z => z.elim⟩) fun σ H Q ⟨G, S, k⟩ => ⟨G, S, fun v H1 x e1 r1 p1 => by
      subst p1
      exact ⟨false, Im.bl_inv r1, iteF (k _ H1 (.d (.bool false)) e1 (.bl _) rfl)⟩⟩
theorem xe_or (ha : XD X ρ a (.bool p)) (hb : p = false → XD X ρ (.BoolOp .Or (b :: rest) pos) (.bool q)) : XD X ρ (.BoolOp .Or (a :: b :: rest) pos) (.bool (p || q)) := by
  cases p with
  | false => exact PE.imp (pe_or ha (hb rfl)) fun σ H Q ⟨G, S, k⟩ => ⟨G, S, fun v H1 x e1 r1 p1 => by
      subst p1
      exact ⟨false, Im.bl_inv r1, iteF ⟨G, S.mono e1, fun v H2 y e2 r2 p2 => k v H2 y (e1.trans e2) r2 (by rw [p2]; rfl)⟩⟩⟩
  | true => exact PE.imp (pe_or ha (tb := fun _ _ _ => False) ⟨fun _ _ _ _ _ _ z => z.elim⟩) fun σ H Q ⟨G, S, k⟩ => ⟨G, S, fun v H1 x e1 r1 p1 => by
      subst p1
      exact ⟨true, Im.bl_inv r1, iteT (k _ H1 (.d (.bool true)) e1 (.bl _) rfl)⟩⟩
theorem xe_not (ha : XD X ρ a (.bool p)) : XD X ρ (.UnaryOp .Not a pos) (.bool (!p)) :=
  PE.imp (pe_not ha) fun σ H Q ⟨G, S, k⟩ => ⟨G, S, fun v H1 x e1 r1 p1 => by
    subst p1
    exact ⟨p, Im.bl_inv r1, k _ H1 (.d (.bool (!p))) e1 (.bl _) rfl⟩⟩
theorem xt_not (ha : XB X ρ a p) : XB X ρ (.UnaryOp .Not a pos) (!p) :=
  PT.imp (pt_not ha) fun σ H Q ⟨G, S, k⟩ => ⟨G, S, fun v H1 e1 p1 => k _ H1 e1 (by rw [p1])⟩
theorem xw_pt {B : Bool → Prop} (h : XW X ρ e B) : XT X ρ e B := PW.pt h
theorem xw_and1 (h : XB X ρ a p) : XW X ρ (.BoolOp .And [a] pos) (fun r => r = p) := pw_and1 h
theorem xw_or1 (h : XB X ρ a p) : XW X ρ (.BoolOp .Or [a] pos) (fun r => r = p) := pw_or1 h
theorem xw_and (ha : XB X ρ a p) (hb : p = true → XW X ρ (.BoolOp .And (b :: rest) pos) (fun r => r = q)) : XW X ρ (.BoolOp .And (a :: b :: rest) pos) (fun r => r = (p && q)) := by
  cases p with
  | true => exact PW.imp (pw_and ha (hb rfl)) fun σ H Q ⟨G, S, k⟩ => ⟨G, S, fun v H1 e1 p1 => by
      subst p1
      exact iteT ⟨G, S.mono e1, fun v H2 e2 p2 => k v H2 (e1.trans e2) (by rw [p2]; rfl)⟩⟩
  | false => exact PW.imp (pw_and ha (tB' := fun _ _ _ => False) ⟨fun _ _ _ _ _ _ _ z => z.elim⟩) fun σ H Q ⟨G, S, k⟩ => ⟨G, S, fun v H1 e1 p1 => by
      subst p1
      exact iteF (k _ H1 e1 rfl)⟩
theorem xw_or (ha : XB X ρ a p) (hb : p = false → XW X ρ (.BoolOp .Or (b :: rest) pos) (fun r => r = q)) : XW X ρ (.BoolOp .Or (a :: b :: rest) pos) (fun r => r = (p || q)) := by
  cases p with
  | false => exact PW.imp (pw_or ha (hb rfl)) fun σ H Q ⟨G, S, k⟩ => ⟨G, S, fun v H1 e1 p1 => by
      subst p1
      exact iteF ⟨G, S.mono e1, fun v H2 e2 p2 => k v H2 (e1.trans e2) (by rw [p2]; rfl)⟩⟩
  | true => exact PW.imp (pw_or ha (tB' := fun _ _ _ => False) ⟨fun _ _ _ _ _ _ _ z => z.elim⟩) fun σ H Q ⟨G, S, k⟩ => ⟨G, S, fun v H1 e1 p1 => by
      subst p1
      exact iteT (k _ H1 e1 rfl)⟩
theorem xt_val (h : XD X ρ e (.bool p)) (he : ∀ whole, isTrue e X.env whole = (do let v ← whole; standAt e.pos; holding [v] (truthy v)) := by intro _; rfl) : XB X ρ e p :=
  xt_of (XE.weak h fun r hr => ⟨p, hr, rfl⟩) he
/-- the truth of a list -/
theorem xt_list {ds : List PyData} (h : XE X ρ e (fun r => r = .l ds)) (he : ∀ whole, isTrue e X.env whole = (do let v ← whole; standAt e.pos; holding [v] (truthy v)) := by intro _; rfl) : XB X ρ e (!ds.isEmpty) :=
  PT.imp (pt_truth h he) fun σ H Q ⟨G, S, k⟩ => ⟨G, S, fun v H1 x e1 r1 p1 => by
    subst p1
    obtain ⟨a, xs, rfl, _, h1, h2⟩ := r1
    refine ⟨!xs.isEmpty, .inl ⟨xs, SqL.of h1, rfl⟩, k _ H1 e1 ?_⟩
    have hl := h2.len
    cases xs <;> cases ds <;> simp_all⟩
theorem xe_if (hc : XB X ρ c p) (ha : p = true → XE X ρ a Φ) (hb : p = false → XE X ρ b Φ) : XE X ρ (.IfExp c a b pos) Φ := by
  cases p with
  | true => exact PE.imp (pe_ifExp hc (ha rfl) (tb := fun _ _ _ => False) ⟨fun _ _ _ _ _ _ z => z.elim⟩) fun σ H Q ⟨G, S, k⟩ => ⟨G, S, fun v H1 e1 p1 => by
      subst p1
      exact iteT ⟨G, S.mono e1, fun v H2 x e2 r p2 => k v H2 x (e1.trans e2) r p2⟩⟩
  | false => exact PE.imp (pe_ifExp hc (ta := fun _ _ _ => False) ⟨fun _ _ _ _ _ _ z => z.elim⟩ (hb rfl)) fun σ H Q ⟨G, S, k⟩ => ⟨G, S, fun v H1 e1 p1 => by
      subst p1
      exact iteF ⟨G, S.mono e1, fun v H2 x e2 r p2 => k v H2 x (e1.trans e2) r p2⟩⟩

/-! ### items, slices -/
theorem atI_ims {H : Hp} {ds : List PyData} {xs : List V} {i : Int} {d : PyData} (r : Ims H ds xs) (h : atI ds i = some d) : ∃ v, atI xs i = some v ∧ Im H d v := by
  unfold atI at h ⊢
  rw [r.len]
  cases e : ixN ds.length i with
  | none => rw [e] at h; cases h
  | some j =>
    rw [e] at h
    obtain ⟨v, h1, h2⟩ := r.at h
    exact ⟨v, h1, h2⟩
theorem o2_ixT (h : ∀ x y, Φ x → Ψ y → ∃ ds i d, x = .d (.tuple ds) ∧ y = .d (.int i) ∧ atI ds i = some d ∧ Θ (.d d)) : Op2 (rIxT X.K) Φ Ψ Θ := by
  intro x y G H v w hx hy s rx ry Q q
  obtain ⟨ds, i, d, rfl, rfl, ha, ht⟩ := h x y hx hy
  obtain ⟨a, xs, rfl, h1, h2⟩ := Im.tup_inv rx
  obtain ⟨u, h3, h4⟩ := atI_ims h2 ha
  exact ⟨a, xs, i, u, rfl, Im.int_inv ry, SqT.of h1, h3, q u H (.d d) (Ext.refl s) h4 ht⟩
theorem o2_ixL (h : ∀ x y, Φ x → Ψ y → ∃ ds i d, x = .l ds ∧ y = .d (.int i) ∧ atI ds i = some d ∧ Θ (.d d)) : Op2 (rIxL X.K) Φ Ψ Θ := by
  intro x y G H v w hx hy s rx ry Q q
  obtain ⟨ds, i, d, rfl, rfl, ha, ht⟩ := h x y hx hy
  obtain ⟨a, xs, rfl, ns, h1, h2⟩ := rx
  obtain ⟨u, h3, h4⟩ := atI_ims h2 ha
  exact ⟨a, xs, i, u, rfl, Im.int_inv ry, SqL.of h1, h3, q u H (.d d) (Ext.refl s) h4 ht⟩
theorem xe_ixT {ds : List PyData} {d : PyData} (ha : XD X ρ a (.tuple ds)) (hb : XD X ρ b (.int i)) (h : atI ds i = some d) (hs : PlainIx b := by intro _ _; rfl) : XD X ρ (.Subscript a b pos) d :=
  xe_tOp (pe_ix ix_tup ha hb hs) (o2_ixT fun _ _ hx hy => ⟨ds, i, d, hx, hy, h, rfl⟩)
theorem xe_ixTN (ha : XE X ρ a Φ) (hb : XE X ρ b Ψ) (h : ∀ x y, Φ x → Ψ y → ∃ ds i d, x = .d (.tuple ds) ∧ y = .d (.int i) ∧ atI ds i = some d ∧ Θ (.d d)) (hs : PlainIx b := by intro _ _; rfl) : XE X ρ (.Subscript a b pos) Θ :=
  xe_tOp (pe_ix ix_tup ha hb hs) (o2_ixT h)
theorem xe_ixL {ds : List PyData} {d : PyData} (ha : XE X ρ a (fun r => r = .l ds)) (hb : XD X ρ b (.int i)) (h : atI ds i = some d) (hs : PlainIx b := by intro _ _; rfl) : XD X ρ (.Subscript a b pos) d :=
  xe_tOp (pe_ix ix_list ha hb hs) (o2_ixL fun _ _ hx hy => ⟨ds, i, d, hx, hy, h, rfl⟩)
theorem xe_ixLN (ha : XE X ρ a Φ) (hb : XE X ρ b Ψ) (h : ∀ x y, Φ x → Ψ y → ∃ ds i d, x = .l ds ∧ y = .d (.int i) ∧ atI ds i = some d ∧ Θ (.d d)) (hs : PlainIx b := by intro _ _; rfl) : XE X ρ (.Subscript a b pos) Θ :=
  xe_tOp (pe_ix ix_list ha hb hs) (o2_ixL h)
def tO (ρ : List SD) (o : Option Int) : TO := fun σ H Q => ∃ G, StOk G H σ ρ ∧ ∀ H', Ext G H H' → Q o H'
def XO (X : Cx) (ρ : List SD) (e : Option Expr) (o : Option Int) : Prop := PO X e (tO ρ o)
theorem PO.imp {oe : Option Expr} {t t' : TO} (h : PO X oe t) (w : ∀ σ H Q, t' σ H Q → t σ H Q) : PO X oe t' := ⟨fun pins s σ H Q I q => h.run pins s σ H Q I (w σ H Q q)⟩
theorem xo_none : XO X ρ none none := PO.imp po_none fun σ H Q ⟨G, S, k⟩ => k H (Ext.refl S.strm)
theorem xo_some (h : XD X ρ a (.int i)) : XO X ρ (some a) (some i) := PO.imp (po_some h) fun σ H Q ⟨G, S, k⟩ => ⟨G, S, fun v H1 x e1 r1 p1 => by
  subst p1
  exact ⟨i, Im.int_inv r1, k H1 e1⟩⟩
def cutD (ds : List PyData) (lo hi : Option Int) : List PyData := (ds.drop (HT.sIx ds.length 0 lo)).take (HT.sIx ds.length ds.length hi - HT.sIx ds.length 0 lo)
theorem Ims.cut {H : Hp} {ds : List PyData} {xs : List V} (r : Ims H ds xs) (lo hi : Option Int) : Ims H (cutD ds lo hi) (cutV xs lo hi) := by
  unfold cutD cutV
  rw [r.len]
  exact (r.drop _).take _
theorem xe_slT {ds : List PyData} {lo hi : Option Expr} {l h : Option Int} {p2 : Pos} (ha : XD X ρ a (.tuple ds)) (hl : XO X ρ lo l) (hh : XO X ρ hi h) : XD X ρ (.Subscript a (.Slice lo hi none p2) pos) (.tuple (cutD ds l h)) :=
  PE.imp (pe_slice sl_tupA ha hl hh) fun σ H Q ⟨G, S, k⟩ => ⟨G, S, fun v H1 x e1 r1 p1 => ⟨G, S.mono e1, fun H2 e2 => ⟨G, S.mono (e1.trans e2), fun H3 e3 => by
    subst p1
    have e := (e1.trans e2).trans e3
    obtain ⟨t, xs, rfl, h1, h2⟩ := Im.tup_inv (Im.mono (e2.trans e3).tups r1)
    refine ⟨t, xs, rfl, SqT.of h1, fun hw => k _ H3 (.d (.tuple (cutD ds l h))) e (.tup h1 ?_) rfl, fun hw p np => ?_⟩
    · have hc : cutD ds l h = ds := by
        rw [h2.len] at hw
        unfold cutD
        rw [hw.1, hw.2]
        simp
      rw [hc]; exact h2
    · have e4 : Ext G H3 (upd H3 p (.tup (cutV xs l h))) := Ext.new e3.strm np
      exact k _ _ (.d (.tuple (cutD ds l h))) (e.trans e4) (.tup upd_same ((h2.cut l h).mono e4.tups)) rfl⟩⟩⟩
theorem xf_slL {ds : List PyData} {lo hi : Option Expr} {l h : Option Int} {p2 : Pos} (ha : XE X ρ a (fun r => r = .l ds)) (hl : XO X ρ lo l) (hh : XO X ρ hi h) : XF X ρ (.Subscript a (.Slice lo hi none p2) pos) (fun r => r = cutD ds l h) :=
  PE.imp (pe_slice sl_list ha hl hh) fun σ H Q ⟨G, S, k⟩ => ⟨G, S, fun v H1 x e1 r1 p1 => ⟨G, S.mono e1, fun H2 e2 => ⟨G, S.mono (e1.trans e2), fun H3 e3 => by
    subst p1
    have e := (e1.trans e2).trans e3
    obtain ⟨t, xs, rfl, ns, h1, h2⟩ := r1
    have h1' := (e2.trans e3).keep _ _ h1 ns
    have h2' := h2.mono (e2.trans e3).tups
    refine ⟨t, xs, rfl, SqL.of h1', fun p np => ?_⟩
    have e4 : Ext G H3 (upd H3 p (.lst (cutV xs l h))) := Ext.new e3.strm np
    exact k p _ _ _ (Ext.fresh S.strm e np) (e.trans e4) upd_same ((h2'.cut l h).mono e4.tups) rfl⟩⟩⟩

/-! ### arguments, displays -/
theorem xa_nil : XA X ρ [] (fun rs => rs = []) := PA.imp pa_nil fun σ H Q ⟨G, S, k⟩ => k [] H [] (Ext.refl S.strm) .nil rfl
theorem xa_consN {A B : List SD → Prop} (ha : XE X ρ e Φ) (hr : XA X ρ es A) (h : ∀ r rs, Φ r → A rs → B (r :: rs)) (hs : starEach (e :: es) X.env = (false, eval e X.env) :: starEach es X.env := by rfl) : XA X ρ (e :: es) B :=
  PA.imp (pa_cons ha hr hs) fun σ H Q ⟨G, S, k⟩ => ⟨G, S, fun v H1 x e1 r1 p1 => ⟨G, S.mono e1, fun vs H2 rs e2 r2 p2 => k _ H2 _ (e1.trans e2) (.cons (r1.mono e2) r2) (h x rs p1 p2)⟩⟩
theorem xa_cons {r : SD} {rs : List SD} (ha : XE X ρ e (fun z => z = r)) (hr : XA X ρ es (fun z => z = rs)) (hs : starEach (e :: es) X.env = (false, eval e X.env) :: starEach es X.env := by rfl) : XA X ρ (e :: es) (fun z => z = r :: rs) :=
  xa_consN ha hr (fun _ _ h1 h2 => by rw [h1, h2]) hs
theorem sz_of {n : Nat} (h : n ≤ 100000) : n ≤ sizeLine := Nat.le_trans h (by decide)
theorem sz_lt {n : Nat} (h : n < 100000) : n < sizeLine := Nat.lt_of_lt_of_le h (by decide)
theorem xe_tupN {A : List SD → Prop} {k0 : Nat} (h : XA X ρ es A) (hd : ∀ rs, A rs → ∃ ds : List PyData, rs = ds.map SD.d ∧ ds.length ≤ 100000 ∧ Θ (.d (.tuple ds))) : XE X ρ (.Tuple es k0 pos) Θ :=
  PE.imp (pe_tup h) fun σ H Q ⟨G, S, k⟩ => ⟨G, S, fun vs H1 rs e1 r1 p1 => by
    obtain ⟨ds, rfl, hl, ht⟩ := hd rs p1
    have im := r1.ims
    refine ⟨sz_of (by rw [im.len]; exact hl), fun p np => ?_⟩
    have e2 : Ext G H1 (upd H1 p (.tup vs)) := Ext.new e1.strm np
    exact k _ _ (.d (.tuple ds)) (e1.trans e2) (.tup upd_same (im.mono e2.tups)) ht⟩
theorem xe_tup {ds : List PyData} {k0 : Nat} (h : XA X ρ es (fun z => z = ds.map SD.d)) (hl : ds.length ≤ 100000 := by decide) : XD X ρ (.Tuple es k0 pos) (.tuple ds) :=
  xe_tupN h fun rs e => ⟨ds, e, hl, rfl⟩
theorem xf_lstN {A : List SD → Prop} {Ψ : List PyData → Prop} (h : XA X ρ es A) (hd : ∀ rs, A rs → ∃ ds : List PyData, rs = ds.map SD.d ∧ ds.length ≤ 100000 ∧ Ψ ds) : XF X ρ (.List es pos) Ψ :=
  PE.imp (pe_lst h) fun σ H Q ⟨G, S, k⟩ => ⟨G, S, fun vs H1 rs e1 r1 p1 => by
    obtain ⟨ds, rfl, hl, ht⟩ := hd rs p1
    have im := r1.ims
    refine ⟨sz_of (by rw [im.len]; exact hl), fun p np => ?_⟩
    have e2 : Ext G H1 (upd H1 p (.lst vs)) := Ext.new e1.strm np
    exact k p _ _ ds (Ext.fresh S.strm e1 np) (e1.trans e2) upd_same (im.mono e2.tups) ht⟩
theorem xf_lst {ds : List PyData} (h : XA X ρ es (fun z => z = ds.map SD.d)) (hl : ds.length ≤ 100000 := by decide) : XF X ρ (.List es pos) (fun z => z = ds) :=
  xf_lstN h fun rs e => ⟨ds, e, hl, rfl⟩

/-! ### tuple + tuple, list + list -/
theorem xe_catT {ds es' : List PyData} (ha : XD X ρ a (.tuple ds)) (hb : XD X ρ b (.tuple es')) (hl : ds.length + es'.length ≤ 100000) : XD X ρ (.BinOp a .Add b pos) (.tuple (ds ++ es')) :=
  xe_bin op_catA ha hb fun x y G H v w hx hy s rx ry Q q => by
    subst hx; subst hy
    obtain ⟨t, xs, rfl, h1, h2⟩ := Im.tup_inv rx
    obtain ⟨u, ys, rfl, h3, h4⟩ := Im.tup_inv ry
    refine ⟨t, u, xs, ys, rfl, rfl, SqT.of h1, SqT.of h3, sz_of (by rw [h2.len, h4.len]; exact hl), fun e => ?_, fun e1 e2 => ?_, fun e1 e2 p np => ?_⟩
    · subst e
      cases h2
      exact q _ H (.d (.tuple _)) (Ext.refl s) (.tup h3 h4) rfl
    · subst e2
      cases h4
      exact q _ H (.d (.tuple _)) (Ext.refl s) (.tup h1 h2) (by rw [List.append_nil])
    · have e3 : Ext G H (upd H p (.tup (xs ++ ys))) := Ext.new s np
      exact q _ _ (.d (.tuple _)) e3 (.tup upd_same ((h2.app h4).mono e3.tups)) rfl
theorem xf_cat {A B C : List PyData → Prop} (ha : XE X ρ a (fun r => ∃ ds, r = .l ds ∧ A ds)) (hb : XE X ρ b (fun r => ∃ ds, r = .l ds ∧ B ds)) (h : ∀ ds es, A ds → B es → ds.length + es.length ≤ 100000 ∧ C (ds ++ es)) : XF X ρ (.BinOp a .Add b pos) C :=
  PE.imp (pe_op op_cat ha hb) fun σ H Q ⟨G, S, q⟩ => ⟨G, S, fun v H1 x e1 r1 p1 => ⟨G, S.mono e1, fun w H2 y e2 r2 p2 => by
    obtain ⟨ds, rfl, hA⟩ := p1
    obtain ⟨es, rfl, hB⟩ := p2
    obtain ⟨hl, hC⟩ := h ds es hA hB
    obtain ⟨t, xs, rfl, _, h1, h2⟩ := r1.mono e2
    obtain ⟨u, ys, rfl, _, h3, h4⟩ := r2
    refine ⟨t, u, xs, ys, rfl, rfl, h1, h3, sz_of (by rw [h2.len, h4.len]; exact hl), fun p np => ?_⟩
    have e3 : Ext G H2 (upd H2 p (.lst (xs ++ ys))) := Ext.new e2.strm np
    exact q p _ _ _ (Ext.fresh S.strm (e1.trans e2) np) ((e1.trans e2).trans e3) upd_same ((h2.app h4).mono e3.tups) hC⟩⟩

/-! ### built-in calls -/
theorem xe_lenT {ds : List PyData} {p : Pos} (ha : XD X ρ a (.tuple ds)) (hm : X.mg "len" = none) (hg : Gl X "len" := by rfl) (hs : starEach [a] X.env = (false, eval a X.env) :: starEach [] X.env := by rfl) : XD X ρ (.Call (.Name "len" p) [a] [] pos) (.int ds.length) :=
  PE.imp (pe_callB call_len_seq hg hm PySem.boot_len (pa_cons ha pa_nil hs) (he := hs)) fun σ H Q ⟨G, S, k⟩ => ⟨G, S, fun v H1 x e1 r1 p1 => by
    subst p1
    obtain ⟨t, xs, rfl, h1, h2⟩ := Im.tup_inv r1
    exact ⟨t, xs, rfl, .inr (SqT.of h1), k _ H1 (.d (.int ds.length)) e1 (by rw [h2.len]; exact .int _) rfl⟩⟩
theorem xe_lenL {ds : List PyData} {p : Pos} (ha : XE X ρ a (fun r => r = .l ds)) (hm : X.mg "len" = none) (hg : Gl X "len" := by rfl) (hs : starEach [a] X.env = (false, eval a X.env) :: starEach [] X.env := by rfl) : XD X ρ (.Call (.Name "len" p) [a] [] pos) (.int ds.length) :=
  PE.imp (pe_callB call_len_seq hg hm PySem.boot_len (pa_cons ha pa_nil hs) (he := hs)) fun σ H Q ⟨G, S, k⟩ => ⟨G, S, fun v H1 x e1 r1 p1 => by
    subst p1
    obtain ⟨t, xs, rfl, _, h1, h2⟩ := r1
    exact ⟨t, xs, rfl, .inl (SqL.of h1), k _ H1 (.d (.int ds.length)) e1 (by rw [h2.len]; exact .int _) rfl⟩⟩
theorem xe_lenK {ad : Addr} {ks : List Int} {p : Pos} (ha : XE X ρ a (fun r => r = .ok ad ks)) (hm : X.mg "len" = none) (hg : Gl X "len" := by rfl) (hs : starEach [a] X.env = (false, eval a X.env) :: starEach [] X.env := by rfl) : XD X ρ (.Call (.Name "len" p) [a] [] pos) (.int ks.length) :=
  PE.imp (pe_callB call_lenD hg hm PySem.boot_len (pa_cons ha pa_nil hs) (he := hs)) fun σ H Q ⟨G, S, k⟩ => ⟨G, S, fun v H1 x e1 r1 p1 => by
    subst p1
    obtain ⟨rfl, _, h1⟩ := r1
    exact ⟨ad, _, rfl, h1, k _ H1 (.d (.int ks.length)) e1 (by rw [List.length_map]; exact .int _) rfl⟩⟩
def tyD : PyData → String
  | .none => "NoneType"
  | .bool _ => "bool"
  | .int _ => "int"
  | .str _ => "str"
  | _ => "tuple"
theorem xe_isi {T : String} {t : Bool} {p p2 : Pos} {nT : Str} (ha : XD X ρ a x) (hk : kitB (tyD x) T = some t) (hm : X.mg "isinstance" = none) (hmT : X.mg nT = none) (hvT : bootBuiltins nT = some (.type T))
    (hg : Gl X "isinstance" := by rfl) (hgT : Gl X nT := by rfl) (hn : nT ≠ "__name__" := by decide) (hd : (nT == ("__debug__" : Str)) = false := by decide) (hb : bootBuiltins "isinstance" = some (.builtin "isinstance") := by decide +kernel)
    (hs : starEach [a, .Name nT p2] X.env = (false, eval a X.env) :: starEach [.Name nT p2] X.env := by rfl) :
    XD X ρ (.Call (.Name "isinstance" p) [a, .Name nT p2] [] pos) (.bool t) :=
  PE.imp (pe_callB call_isi hg hm hb (pa_cons ha (pa_cons (pe_bltn (v := .ty T) hgT hmT hvT rfl hn hd) pa_nil (by rfl)) hs) (he := hs)) fun σ H Q ⟨G, S, k⟩ => ⟨G, S, fun v H1 z e1 r1 p1 => by
    subst p1
    refine ⟨v, .ty T, .type (tyD x), .type T, t, rfl, .ty T, ?_, kit_ty hk, k _ H1 (.d (.bool t)) e1 (.bl _) rfl⟩
    cases r1 with
    | non => exact .base .non
    | bl b => exact .base (.bl b)
    | int i => exact .base (.int i)
    | str i => exact .base (.str i)
    | tup h1 h2 => exact .base (.tup h1)⟩
theorem xe_all {bs : List Bool} {p : Pos} (ha : XE X ρ a (fun r => r = .l (bs.map PyData.bool))) (hm : X.mg "all" = none) (hc : X.calm = true := by rfl) (hg : Gl X "all" := by rfl) (hb : bootBuiltins "all" = some (.builtin "all") := by decide +kernel) (hs : starEach [a] X.env = (false, eval a X.env) :: starEach [] X.env := by rfl) :
    XD X ρ (.Call (.Name "all" p) [a] [] pos) (.bool (bs.all id)) :=
  PE.imp (pe_callB (cr_all hc) hg hm hb (pa_cons ha pa_nil hs) (he := hs)) fun σ H Q ⟨G, S, k⟩ => ⟨G, S, fun v H1 x e1 r1 p1 => by
    subst p1
    obtain ⟨t, xs, rfl, _, h1, h2⟩ := r1
    rw [h2.bls] at h1
    exact ⟨t, bs, rfl, SqL.of h1, k _ H1 (.d (.bool (bs.all id))) e1 (.bl _) rfl⟩⟩
theorem xe_any {bs : List Bool} {p : Pos} (ha : XE X ρ a (fun r => r = .l (bs.map PyData.bool))) (hm : X.mg "any" = none) (hc : X.calm = true := by rfl) (hg : Gl X "any" := by rfl) (hb : bootBuiltins "any" = some (.builtin "any") := by decide +kernel) (hs : starEach [a] X.env = (false, eval a X.env) :: starEach [] X.env := by rfl) :
    XD X ρ (.Call (.Name "any" p) [a] [] pos) (.bool (bs.any id)) :=
  PE.imp (pe_callB (cr_any hc) hg hm hb (pa_cons ha pa_nil hs) (he := hs)) fun σ H Q ⟨G, S, k⟩ => ⟨G, S, fun v H1 x e1 r1 p1 => by
    subst p1
    obtain ⟨t, xs, rfl, _, h1, h2⟩ := r1
    rw [h2.bls] at h1
    exact ⟨t, bs, rfl, SqL.of h1, k _ H1 (.d (.bool (bs.any id))) e1 (.bl _) rfl⟩⟩
theorem xe_allG {ds : List PyData} {p : Pos} (g : PyData → Bool) (ha : XE X ρ a (fun r => r = .l (ds.map fun d => .bool (g d)))) (hm : X.mg "all" = none) (hc : X.calm = true := by rfl) (hg : Gl X "all" := by rfl) (hb : bootBuiltins "all" = some (.builtin "all") := by decide +kernel) (hs : starEach [a] X.env = (false, eval a X.env) :: starEach [] X.env := by rfl) :
    XD X ρ (.Call (.Name "all" p) [a] [] pos) (.bool (ds.all g)) := by
  have e : (ds.map fun d => PyData.bool (g d)) = (ds.map g).map PyData.bool := by rw [List.map_map]; rfl
  rw [e] at ha
  have q := xe_all (pos := pos) (p := p) ha hm hc hg hb hs
  rw [List.all_map] at q
  exact q
theorem xe_anyG {ds : List PyData} {p : Pos} (g : PyData → Bool) (ha : XE X ρ a (fun r => r = .l (ds.map fun d => .bool (g d)))) (hm : X.mg "any" = none) (hc : X.calm = true := by rfl) (hg : Gl X "any" := by rfl) (hb : bootBuiltins "any" = some (.builtin "any") := by decide +kernel) (hs : starEach [a] X.env = (false, eval a X.env) :: starEach [] X.env := by rfl) :
    XD X ρ (.Call (.Name "any" p) [a] [] pos) (.bool (ds.any g)) := by
  have e : (ds.map fun d => PyData.bool (g d)) = (ds.map g).map PyData.bool := by rw [List.map_map]; rfl
  rw [e] at ha
  have q := xe_any (pos := pos) (p := p) ha hm hc hg hb hs
  rw [List.any_map] at q
  exact q
theorem xe_tupleN {p : Pos} {A : List PyData → Prop} (ha : XE X ρ a (fun r => ∃ ds, r = .l ds ∧ A ds)) (hT : ∀ ds, A ds → Θ (.d (.tuple ds))) (hm : X.mg "tuple" = none) (hg : Gl X "tuple" := by rfl) (hb : bootBuiltins "tuple" = some (.type "tuple") := by decide +kernel) (hs : starEach [a] X.env = (false, eval a X.env) :: starEach [] X.env := by rfl) :
    XE X ρ (.Call (.Name "tuple" p) [a] [] pos) Θ :=
  PE.imp (pe_callTy call_tuple_of hg hm hb (pa_cons ha pa_nil hs) (he := hs)) fun σ H Q ⟨G, S, k⟩ => ⟨G, S, fun v H1 x e1 r1 p1 => by
    obtain ⟨ds, rfl, hA⟩ := p1
    obtain ⟨t, xs, rfl, _, h1, h2⟩ := r1
    refine ⟨t, xs, rfl, .inl ⟨SqL.of h1, fun l nl => ?_⟩⟩
    have e2 : Ext G H1 (upd H1 l (.tup xs)) := Ext.new e1.strm nl
    exact k _ _ (.d (.tuple ds)) (e1.trans e2) (.tup upd_same (h2.mono e2.tups)) (hT ds hA)⟩
theorem xe_tuple {p : Pos} {ds : List PyData} (ha : XE X ρ a (fun r => r = .l ds)) (hm : X.mg "tuple" = none) (hg : Gl X "tuple" := by rfl) (hb : bootBuiltins "tuple" = some (.type "tuple") := by decide +kernel) (hs : starEach [a] X.env = (false, eval a X.env) :: starEach [] X.env := by rfl) :
    XD X ρ (.Call (.Name "tuple" p) [a] [] pos) (.tuple ds) :=
  xe_tupleN (A := fun z => z = ds) (XE.weak ha fun r e => ⟨ds, e, rfl⟩) (fun _ e => by rw [e]) hm hg hb hs
theorem XF.toL {ds : List PyData} (h : XF X ρ e (fun z => z = ds)) : XE X ρ e (fun r => r = .l ds) := XE.weak h.toE fun r ⟨_, e1, e2⟩ => by rw [e1, e2]
theorem xe_int1 {t : Bool} {p : Pos} (ha : XD X ρ a (.bool t)) (hm : X.mg "int" = none) (hg : Gl X "int" := by rfl) (hb : bootBuiltins "int" = some (.type "int") := by decide +kernel) (hs : starEach [a] X.env = (false, eval a X.env) :: starEach [] X.env := by rfl) :
    XD X ρ (.Call (.Name "int" p) [a] [] pos) (.int (if t then 1 else 0)) :=
  PE.imp (pe_callTy call_int1 hg hm hb (pa_cons ha pa_nil hs) (he := hs)) fun σ H Q ⟨G, S, k⟩ => ⟨G, S, fun v H1 x e1 r1 p1 => by
    subst p1
    exact .inr ⟨t, by rw [Im.bl_inv r1], k _ H1 (.d (.int (if t then 1 else 0))) e1 (.int _) rfl⟩⟩
end
end PL

-- PLe
/-! PLe: enumerate over a tuple. -/
namespace PL
open PySem PySem.Spec PyProof.Rows L2
open PySem.Sem (wp)
theorem new_enum1 {v : Value} {o : Obj} {H : Heap → Prop} (B : Begins v o H) :
    Meets (Builtin.«enumerate.__new__» ⟨[.type "enumerate", v], []⟩) (fun _ R s => H s.heap ∧
      R (.ok (.ret (.ref (s.heap.push o).objs.size))) { s with heap := (s.heap.push o).push { cls := .type "enumerate", data := .fields #[.none, .bool false, .ref s.heap.objs.size, rawInt 0, .none, .none] } }) :=
  .of_wp fun prog w A R s h => by
    obtain ⟨hp, gg, dd, tt, oo⟩ := s
    obtain ⟨h1, h⟩ := h
    have hsub := sub_enumerate
    have q1 : ∀ {A1 : Around} {E1 : Value → Shared → Prop} {Q1 : Value → Shared → Prop}, Q1 (.ref hp.objs.size) ⟨hp.push o, gg, dd, tt, oo⟩ → wpAny (model prog w) A1 (pyIter v) Q1 E1 ⟨hp, gg, dd, tt, oo⟩ :=
      fun z => B.iter prog w _ _ ⟨hp, gg, dd, tt, oo⟩ _ h1 z
    wp_walk using q1
    refine wpAny_stack_any fun st => wpAny_pure ?_
    split
    · rename_i c _ _ _ _ _
      cases (c == Value.type "enumerate")
      · wp_walk using q1
        exact ⟨_, rfl, h⟩
      · wp_walk using q1
        exact ⟨_, rfl, h⟩
    · wp_walk using q1
      exact ⟨_, rfl, h⟩
section
variable {prog : Program} {w : World} {A : Around} {E : Value → Shared → Prop} {s : Shared}
theorem enum1 {v : Value} {o : Obj} {H : Heap → Prop} {Q : Value → Shared → Prop} (B : Begins v o H) (h1 : H s.heap)
    (h : ∀ h', IsEnum h' (s.heap.objs.size + 1) s.heap.objs.size 0 .none → h'.get? s.heap.objs.size = some o → h'.objs.size = s.heap.objs.size + 2 →
      (∀ b u, s.heap.get? b = some u → h'.get? b = some u) → Q (.ref (s.heap.objs.size + 1)) { s with heap := h' }) :
    wpAny (model prog w) A (call (.type "enumerate") [v]) Q E s := by
  refine callType_new F.called_enumerate (by decide) (F.typeCall_enumerate_1 _) (F.newCall_enumerate_1 _) (fun ob => F.args_object_init_2 ob _) F.entry_enumerate_new (new_enum1 B) ⟨h1, ?_⟩
  have zz : (s.heap.push o).objs.size = s.heap.objs.size + 1 := Heap.size_push ..
  show _ ∧ _
  rw [zz]
  have eE : IsEnum ((s.heap.push o).push { cls := .type "enumerate", data := .fields #[.none, .bool false, .ref s.heap.objs.size, rawInt 0, .none, .none] }) (s.heap.objs.size + 1) s.heap.objs.size 0 .none := by
    have q := Heap.get?_push_size (s.heap.push o) (o := { cls := .type "enumerate", data := .fields #[.none, .bool false, .ref s.heap.objs.size, rawInt 0, .none, .none] }) rfl
    rw [zz] at q
    exact q
  exact ⟨⟨_, eE, rfl⟩, h _ eE (Heap.get?_push_of_some _ (Heap.get?_push_size _ B.free)) (by rw [Heap.size_push, zz]) fun b u x => Heap.get?_push_of_some _ (Heap.get?_push_of_some _ x)⟩
end
/-- the tuple at a, each item in a new pair with its number -/
def IteT (K : PySem.W.Frag) (a : Addr) : It :=
  ⟨fun i H => ∃ (xs : List V) (x : V), SqT K H a xs ∧ xs[i]? = some x, fun i H v H' => ∃ T x, v = .ref T ∧ H T = none ∧ H' = upd H T (.tup [.int (i : Nat), x]) ∧ ∀ xs, SqT K H a xs → xs[i]? = some x, fun i H => ∃ xs : List V, SqT K H a xs ∧ xs.length ≤ i⟩
theorem turn_enumT {P : Program} {w : World} {K : PySem.W.Frag} {elts : List Expr} {kk : Nat} {tpos : Pos} (a e it : Addr) :
    Turn P w K (.Tuple elts kk tpos) (IteT K a) [e, it] e (fun i h => (∃ old, IsEnum h e it ((i : Nat) : Int) old) ∧ h.IsTupleIter it a i ∧ e ≠ it) where
  mem := by simp
  obj := fun i h st b hb => by
    obtain ⟨⟨old, he⟩, ⟨o, ho, hc, hd⟩, _⟩ := st
    have e' : b = e ∨ b = it := by simpa using hb
    rcases e' with z | z
    · rw [z]; exact ⟨_, he, fun v q => nomatch q⟩
    · rw [z]; exact ⟨o, ho, fun v q => by rw [hd] at q; cases q⟩
  keep := fun i h h' st k => let ⟨⟨old, he⟩, hi, hne⟩ := st; ⟨⟨old, k e (by simp) _ he⟩, hi.at fun o q => k it (by simp) o q, hne⟩
  item := by
    intro X hP hw hK hc i pins s σ H E I hf st hg
    subst hP hw hK
    obtain ⟨⟨old, he⟩, hit, hne⟩ := st
    obtain ⟨xs, x, hq, hx⟩ := hg
    obtain ⟨its, rv, p, hz⟩ := I.tuple hq
    have hlt : i < its.toArray.size := by
      have e1 := rv.length
      have e2 := (List.getElem?_eq_some_iff.mp hx).1
      simp only [List.size_toArray]
      omega
    have hel : e < s.heap.objs.size := Heap.lt_size he
    have hil : it < s.heap.objs.size := by obtain ⟨_, q, _⟩ := hit; exact Heap.lt_size q
    have nea : a ≠ e := fun z => by
      obtain ⟨o, ho, hc', _⟩ := id p
      rw [z, he] at ho
      cases ho
      exact absurd hc' (show ¬ (Value.type "enumerate" = Value.type "tuple") by decide)
    have nia : a ≠ it := fun z => by
      obtain ⟨o, ho, hc', _⟩ := id p
      obtain ⟨o2, ho2, hc2, _⟩ := id hit
      rw [z, ho2] at ho
      cases ho
      rw [hc2] at hc'
      exact absurd hc' (by decide)
    have D := Draws.tuple (prog := X.prog) (w := X.w) (A := X.A.in1) (I.ok.hd hc) it a nia its.toArray
    refine wpAny_pyNext_enum_itemD D he ⟨hit, (show s.heap.IsTuple a its.toArray from p)⟩ hlt hne (by simp [hne, Ne.symm nea]) fun u h' tk hu ho hit' hT hsz hk => ?_
    have ru : RelV x u := by
      obtain ⟨u', hu', r⟩ := rv.get hx
      have e1 : its[i]? = some u := by simpa using hu
      rw [hu'] at e1
      cases e1
      exact r
    refine ⟨_, rfl, wpAny_letOwnedTupleGo_enum (s := { s with heap := h', toks := tk + 1 }) ho fun h'' he' sb => ?_⟩
    have hT2 : h''.get? s.heap.objs.size = some { cls := .type "tuple", data := .seq #[.int i tk, u] } := (sb.2 _ (Nat.ne_of_gt hel)).trans hT
    have new : ObjOk X.prog X.w (upd H s.heap.objs.size (.tup [.int (i : Nat), x])) h'' s.heap.objs.size (.tup [.int (i : Nat), x]) :=
      ⟨by show 2 ≤ sizeLine; decide, [.int i tk, u], .cons ⟨_, rfl⟩ (.cons ru .nil), ⟨_, hT2, rfl, _, rfl⟩⟩
    have I1 : Inv X pins σ (upd H s.heap.objs.size (.tup [.int (i : Nat), x])) { s with heap := h'', toks := tk + 1 } :=
      I.turnedNew (ch := [e, it]) (fun b ob hb q => (sb.2 b (fun z => hb (by simp [z]))).trans (hk b ob (fun z => hb (by simp [z])) (fun z => hb (by simp [z])) q)) hf (Nat.le_refl _) new
    refine ⟨.ref s.heap.objs.size, _, I1, rfl, ⟨_, x, rfl, I.hok.fresh (Nat.le_refl _), rfl, fun ys hy => by rw [I.tuple_inj hy hq]; exact hx⟩, ⟨⟨u, ?_⟩, hit'.1.at fun o q => (sb.2 it (Ne.symm hne)).trans q, hne⟩, fun b hb => ?_⟩
    · have e1 : ((i + 1 : Nat) : Int) = (i : Int) + 1 := by omega
      rw [e1]; exact he'
    · have hb' : b < s.heap.objs.size := by
        have e' : b = e ∨ b = it := by simpa using hb
        rcases e' with z | z
        · rw [z]; exact hel
        · rw [z]; exact hil
      rw [upd_ne (Nat.ne_of_lt hb')]
      exact (hf b hb).1
  done := by
    intro X hP hw hK hc i pins s σ H E I hf st hg
    subst hP hw hK
    obtain ⟨⟨old, he⟩, hit, hne⟩ := st
    obtain ⟨xs, hq, hx⟩ := hg
    obtain ⟨its, rv, p, hz⟩ := I.tuple hq
    obtain ⟨f0, f1, f2, f3, f4, f5⟩ := hf it (by simp)
    have hl := rv.length
    have hT : s.TypeIs (.ref e) "enumerate" := ⟨_, he, rfl⟩
    unfold pyNext
    refine wpAny_bind (wpAny_attempt (wpAny_callSpecial?_slot (name := Str.ofString "__next__") hT F.slot_enumerate_next
      (wpAny_call_entry F.slot_enumerate_next hT F.entry_enumerate_next ?_ (F.args_enumerate_next_1 _))))
    show wpAny _ _ (field (.ref e) 2 >>= _) _ _ _
    refine wpAny_bind (wpAny_field he rfl (x := .ref it) rfl ?_)
    refine wpAny_bind (RZ.nextOf_tuple_end (I.ok.hd hc) hit (show s.heap.IsTuple a its.toArray from p) (by simp; omega) fun h' x eb hx' => ?_)
    obtain ⟨o, ho, hcl⟩ := hx'
    refine wpAny_bind (wpAny_isInstance (T := "StopIteration") (b := true) ⟨o, ho, hcl⟩ isSubtype_stop ?_)
    exact wpAny_pure ⟨rfl, I.turned (t' := s.toks) (fun b o hb q => eb b o hb q) f0 f1 f3 f4 f5⟩
  self := fun A i s Q E st h => let ⟨⟨_, he⟩, _⟩ := st; wpAny_pyIter_enum he h
def iEnumT (K : PySem.W.Frag) (ta : TA) : TI := fun σ H R => ta σ H fun vs H1 => ∃ a xs, vs = [.ref a] ∧ SqT K H1 a xs ∧ R (IteT K a) H1
theorem pi_enumT {X : Cx} {e : Expr} {ta : TA} {p pos tpos : Pos} {elts : List Expr} {kk : Nat} (hg : Gl X "enumerate") (hm : X.mg "enumerate" = none) (ha : PA X [e] ta) (hs : starEach [e] X.env = [(false, eval e X.env)] := by rfl) :
    PI X (.Tuple elts kk tpos) (.Call (.Name "enumerate" p) [e] [] pos) (iEnumT X.K ta) := by
  refine ⟨fun pins s σ H R I h => ?_⟩
  refine Call_ (ld_blt I hg hm boot_enumerate (PyProof.Rows.callWith_type1 (thn (ha.run pos pins s σ H _ I h) fun us s1 ⟨vs, H1, I1, r1, q1⟩ => ?_) hs rfl))
  obtain ⟨a, xs, ex, hq, q⟩ := q1
  subst ex
  cases r1 with
  | cons r rr =>
    cases rr
    cases r
    obtain ⟨its, rv, p', hz⟩ := I1.tuple hq
    refine enum1 (begins_tuple a its.toArray) (show s1.heap.IsTuple a its.toArray from p') fun h' he hit hsz hk => wpAny_pyIter_enum he ?_
    have I2 : Inv X pins σ H1 { s1 with heap := h' } := I1.kept (t' := s1.toks) hk
    refine ⟨s1.heap.objs.size + 1, [s1.heap.objs.size + 1, s1.heap.objs.size], _, _, H1, rfl, I2, turn_enumT a (s1.heap.objs.size + 1) s1.heap.objs.size, ⟨⟨.none, he⟩, ⟨_, hit, rfl, rfl⟩, Nat.succ_ne_self _⟩, fun b hb => ?_, q⟩
    have e' : b = s1.heap.objs.size + 1 ∨ b = s1.heap.objs.size := by simpa using hb
    have hle : s1.heap.objs.size ≤ b := by
      rcases e' with z | z
      · rw [z]; exact Nat.le_add_right _ _
      · rw [z]; exact Nat.le_refl _
    exact I1.fpOk hle (I1.hok.fresh hle)
end PL

-- PLc
/-! PLc: slots stored, targets, walks, statements. -/
namespace PL
open PySem PySem.Spec PyProof.Rows L2

/-! ### the state behind a store -/
section
variable {G : Gh} {H H' : Hp} {σ : L2.St} {ρ : List SD} {i j : Nat}
theorem own_set {r : SD} (i j : Nat) : ownAt (ρ.set i r) j = if i = j ∧ i < ρ.length then r.own else ownAt ρ j := by
  unfold ownAt
  by_cases e : i = j
  · subst e
    by_cases h : i < ρ.length
    · rw [List.getElem?_set_self h, if_pos ⟨rfl, h⟩]; rfl
    · rw [List.set_eq_of_length_le (by omega), if_neg (fun z => h z.2)]
  · rw [List.getElem?_set_ne e, if_neg (fun z => e z.1)]
/-- a value without an owner is stored -/
theorem StOk.set (S : StOk G H σ ρ) (i : Nat) {r : SD} {v : V} (hr : SlotOk G H (some v) r) (ho : ∀ a, r.own = some a → ∀ j, ownAt ρ j ≠ some a) : StOk G H (σ.set i (some v)) (ρ.set i r) where
  len := by rw [List.length_set, List.length_set]; exact S.len
  base := S.base
  strm := S.strm
  sin := S.sin
  bsub := S.bsub
  slot := fun j q e => by
    by_cases hj : i = j
    · subst hj
      have hi : i < ρ.length := by
        have h := (List.getElem?_eq_some_iff.mp e).1
        rwa [List.length_set] at h
      rw [List.getElem?_set_self hi] at e
      cases e
      rw [List.getElem?_set_self (by rw [S.len]; exact hi)]
      exact hr
    · rw [List.getElem?_set_ne hj] at e ⊢
      exact S.slot j q e
  apart := fun j k a hjk h1 h2 => by
    rw [own_set] at h1 h2
    by_cases hj : i = j ∧ i < ρ.length
    · rw [if_pos hj] at h1
      have hk : ¬ (i = k ∧ i < ρ.length) := fun z => hjk (hj.1.symm.trans z.1)
      rw [if_neg hk] at h2
      exact ho a h1 k h2
    · rw [if_neg hj] at h1
      by_cases hk : i = k ∧ i < ρ.length
      · rw [if_pos hk] at h2
        exact ho a h2 j h1
      · rw [if_neg hk] at h2
        exact S.apart j k a hjk h1 h2
theorem StOk.set_d (S : StOk G H σ ρ) (i : Nat) {x : PyData} {v : V} (h : Im H x v) : StOk G H (σ.set i (some v)) (ρ.set i (.d x)) :=
  S.set i ⟨v, rfl, h⟩ fun a e => nomatch e
theorem StOk.set_new (S : StOk G H σ ρ) (e : Ext G H H') (i : Nat) {a : Addr} {xs : List V} {ds : List PyData} (n : H a = none) (h : H' a = some (.lst xs)) (r : Ims H' ds xs) : StOk G H' (σ.set i (some (.ref a))) (ρ.set i (.ol a ds)) :=
  (S.mono e).set i ⟨rfl, S.fresh0 n, xs, h, r⟩ fun b eb j hj => by
    cases eb
    obtain ⟨_, _, u, hu, _⟩ := S.owned hj
    rw [n] at hu; cases hu
/-- a slot forgotten -/
theorem StOk.wipe1 (S : StOk G H σ ρ) (i : Nat) : StOk G H (σ.set i none) (ρ.set i .no) where
  len := by rw [List.length_set, List.length_set]; exact S.len
  base := S.base
  strm := S.strm
  sin := S.sin
  bsub := S.bsub
  slot := fun j q e => by
    by_cases hj : i = j
    · subst hj
      have hi : i < ρ.length := by
        have h := (List.getElem?_eq_some_iff.mp e).1
        rwa [List.length_set] at h
      rw [List.getElem?_set_self hi] at e
      cases e
      trivial
    · rw [List.getElem?_set_ne hj] at e ⊢
      exact S.slot j q e
  apart := fun j k a hjk h1 h2 => by
    rw [own_set] at h1 h2
    by_cases hj : i = j ∧ i < ρ.length
    · rw [if_pos hj] at h1; cases h1
    · rw [if_neg hj] at h1
      by_cases hk : i = k ∧ i < ρ.length
      · rw [if_pos hk] at h2; cases h2
      · rw [if_neg hk] at h2
        exact S.apart j k a hjk h1 h2
def wipeR (ρ : List SD) : List Nat → List SD
  | [] => ρ
  | v :: vs => (wipeR ρ vs).set v .no
theorem StOk.wipe (S : StOk G H σ ρ) : ∀ vs : List Nat, StOk G H (L2.wipe σ vs) (wipeR ρ vs)
  | [] => S
  | v :: vs => (StOk.wipe S vs).wipe1 v
theorem wipe_set {x : Option V} : ∀ {vs : List Nat} {σ : L2.St} {i : Nat}, i ∈ vs → L2.wipe (σ.set i x) vs = L2.wipe σ vs
  | [], _, _, h => nomatch h
  | v :: vs, σ, i, h => by
    have out : ∀ {vs : List Nat} {σ : L2.St} {i : Nat}, i ∉ vs → L2.wipe (σ.set i x) vs = (L2.wipe σ vs).set i x := by
      intro vs
      induction vs with
      | nil => intro σ i _; rfl
      | cons w ws ih =>
        intro σ i hi
        have h1 : i ≠ w := fun z => hi (by simp [z])
        have h2 : i ∉ ws := fun z => hi (by simp [z])
        show (L2.wipe (σ.set i x) ws).set w none = ((L2.wipe σ ws).set w none).set i x
        rw [ih h2, List.set_comm _ _ h1]
    show (L2.wipe (σ.set i x) vs).set v none = (L2.wipe σ vs).set v none
    by_cases hi : i ∈ vs
    · rw [wipe_set hi]
    · rcases List.mem_cons.mp h with e | e
      · subst e
        rw [out hi, List.set_set]
      · exact absurd e hi
theorem wipe_idem (σ : L2.St) : ∀ vs : List Nat, L2.wipe (L2.wipe σ vs) vs = L2.wipe σ vs := fun vs => by
  have key : ∀ (us : List Nat), (∀ u ∈ us, u ∈ vs) → L2.wipe (L2.wipe σ us) vs = L2.wipe σ vs := by
    intro us
    induction us with
    | nil => intro _; rfl
    | cons u us ih =>
      intro h
      show L2.wipe ((L2.wipe σ us).set u none) vs = _
      rw [wipe_set (h u (by simp)), ih fun z hz => h z (by simp [hz])]
  exact key vs fun _ h => h
/-- an owned thing is changed -/
theorem StOk.write (S : StOk G H σ ρ) (i : Nat) {a : Addr} {o : HO} {r : SD} (hi : ownAt ρ i = some a) (hnt : ∀ xs, o ≠ .tup xs) (hv : σ[i]? = some (some (.ref a)) → SlotOk G (upd H a o) (some (.ref a)) r) (hro : r.own = some a) :
    StOk G (upd H a o) σ (ρ.set i r) := by
  obtain ⟨n0, ns, u, hu, mu⟩ := S.owned hi
  have il : i < ρ.length := by
    unfold ownAt at hi
    cases q : ρ[i]? with
    | none => rw [q] at hi; cases hi
    | some x => exact (List.getElem?_eq_some_iff.mp q).1
  have sv : σ[i]? = some (some (.ref a)) := by
    unfold ownAt at hi
    cases q : ρ[i]? with
    | none => rw [q] at hi; cases hi
    | some x =>
      rw [q] at hi
      have s := S.slot i x q
      cases x with
      | ol b ds => cases (Option.some.inj hi); exact join_some.mp s.1
      | ok b ks => cases (Option.some.inj hi); exact join_some.mp s.1
      | ot b ks => cases (Option.some.inj hi); exact join_some.mp s.1
      | o2 b qs => cases (Option.some.inj hi); exact join_some.mp s.1
      | _ => cases hi
  have tups : ∀ b xs, H b = some (.tup xs) → upd H a o b = some (.tup xs) := fun b xs e => by
    rw [upd_ne (fun z => by subst z; rw [hu] at e; cases e; exact mu)]; exact e
  have so : SOk G (upd H a o) := fun l sl e => by
    have nl : l ≠ a := fun z => (S.sin l sl e).1 (by rw [z]; exact n0)
    have nsl : sl ≠ a := fun z => (S.sin l sl e).2 (by rw [z]; exact n0)
    obtain ⟨h1, ⟨ws, h2⟩, c, k, h3, h4⟩ := S.strm l sl e
    exact ⟨h1, ⟨ws, by rw [upd_ne nsl]; exact h2⟩, c, k, by rw [upd_ne nl]; exact h3, h4⟩
  refine ⟨by rw [List.length_set]; exact S.len, fun b u h n => ?_, so, S.sin, fun j q e => ?_, fun j k b hjk h1 h2 => ?_, S.bsub⟩
  · rw [upd_ne (fun z => by subst z; rw [n0] at h; cases h)]
    exact S.base b u h n
  · by_cases hj : i = j
    · subst hj
      rw [List.getElem?_set_self il] at e
      cases e
      rw [sv]
      exact hv sv
    · rw [List.getElem?_set_ne hj] at e
      have s := S.slot j q e
      have ne : ∀ b, q.own = some b → b ≠ a := fun b hb z => by
        subst z
        refine S.apart i j b hj hi ?_
        unfold ownAt; rw [e]; exact hb
      cases q with
      | no => trivial
      | d x => obtain ⟨v, e1, h1⟩ := s; exact ⟨v, e1, h1.mono tups⟩
      | l ds => obtain ⟨b, xs, e1, e2, e3, h1⟩ := s; exact ⟨b, xs, e1, e2, e3, h1.mono tups⟩
      | ol b ds => obtain ⟨e1, n, xs, e2, h1⟩ := s; exact ⟨e1, n, xs, by rw [upd_ne (ne b rfl)]; exact e2, h1.mono tups⟩
      | ok b ks => obtain ⟨e1, n, e2⟩ := s; exact ⟨e1, n, by rw [upd_ne (ne b rfl)]; exact e2⟩
      | ot b ks => obtain ⟨e1, n, e2⟩ := s; exact ⟨e1, n, by rw [upd_ne (ne b rfl)]; exact e2⟩
      | st => exact s
      | rf b => exact s
      | l2 qs => obtain ⟨b, rs, e1, e2, e3, h1⟩ := s; exact ⟨b, rs, e1, e2, e3, h1.mono tups⟩
      | o2 b qs => obtain ⟨e1, n, rs, e2, h1⟩ := s; exact ⟨e1, n, rs, by rw [upd_ne (ne b rfl)]; exact e2, h1.1.mono tups, h1.2⟩
  · rw [own_set] at h1 h2
    by_cases hj : i = j ∧ i < ρ.length
    · rw [if_pos hj, hro] at h1
      have hk : ¬ (i = k ∧ i < ρ.length) := fun z => hjk (hj.1.symm.trans z.1)
      rw [if_neg hk] at h2
      cases h1
      exact S.apart i k a (fun z => hk ⟨z, il⟩) hi h2
    · rw [if_neg hj] at h1
      by_cases hk : i = k ∧ i < ρ.length
      · rw [if_pos hk, hro] at h2
        cases h2
        exact S.apart i j a (fun z => hj ⟨z, il⟩) hi h1
      · rw [if_neg hk] at h2
        exact S.apart j k b hjk h1 h2
/-- a thing that nobody in the state holds is changed -/
theorem StOk.other (S : StOk G H σ ρ) {a : Addr} {o u : HO} (n0 : G.H0 a = none) (ha : H a = some u) (mu : Mut (some u)) (hno : ∀ i, ownAt ρ i ≠ some a) : StOk G (upd H a o) σ ρ := by
  have tups : ∀ b xs, H b = some (.tup xs) → upd H a o b = some (.tup xs) := fun b xs e => by
    rw [upd_ne (fun z => by subst z; rw [ha] at e; cases e; exact mu)]; exact e
  refine ⟨S.len, fun b u h n => ?_, fun l sl e => ?_, S.sin, fun j q e => ?_, S.apart, S.bsub⟩
  · rw [upd_ne (fun z => by subst z; rw [n0] at h; cases h)]
    exact S.base b u h n
  · have nl : l ≠ a := fun z => (S.sin l sl e).1 (by rw [z]; exact n0)
    have nsl : sl ≠ a := fun z => (S.sin l sl e).2 (by rw [z]; exact n0)
    obtain ⟨h1, ⟨ws, h2⟩, c, k, h3, h4⟩ := S.strm l sl e
    exact ⟨h1, ⟨ws, by rw [upd_ne nsl]; exact h2⟩, c, k, by rw [upd_ne nl]; exact h3, h4⟩
  · have s := S.slot j q e
    have ne : ∀ b, q.own = some b → b ≠ a := fun b hb z => by
      subst z
      refine hno j ?_
      unfold ownAt; rw [e]; exact hb
    cases q with
    | no => trivial
    | d x => obtain ⟨v, e1, h1⟩ := s; exact ⟨v, e1, h1.mono tups⟩
    | l ds => obtain ⟨b, xs, e1, e2, e3, h1⟩ := s; exact ⟨b, xs, e1, e2, e3, h1.mono tups⟩
    | ol b ds => obtain ⟨e1, n, xs, e2, h1⟩ := s; exact ⟨e1, n, xs, by rw [upd_ne (ne b rfl)]; exact e2, h1.mono tups⟩
    | ok b ks => obtain ⟨e1, n, e2⟩ := s; exact ⟨e1, n, by rw [upd_ne (ne b rfl)]; exact e2⟩
    | ot b ks => obtain ⟨e1, n, e2⟩ := s; exact ⟨e1, n, by rw [upd_ne (ne b rfl)]; exact e2⟩
    | st => exact s
    | rf b => exact s
    | l2 qs => obtain ⟨b, rs, e1, e2, e3, h1⟩ := s; exact ⟨b, rs, e1, e2, e3, h1.mono tups⟩
    | o2 b qs => obtain ⟨e1, n, rs, e2, h1⟩ := s; exact ⟨e1, n, rs, by rw [upd_ne (ne b rfl)]; exact e2, h1.1.mono tups, h1.2⟩
end

/-! ### targets -/
structure SG (g : TG) (ok : PyData → Prop) (f : PyData → List SD → List SD) (is : List Nat) : Prop where
  run : ∀ (G : Gh) (H : Hp) (σ : L2.St) (ρ : List SD) (d : PyData) (v : V) (Q : L2.St → Hp → Prop), ok d → StOk G H σ ρ → Im H d v →
    (∀ σ', StOk G H σ' (f d ρ) → (∀ vs : List Nat, (∀ i ∈ is, i ∈ vs) → L2.wipe σ' vs = L2.wipe σ vs) → Q σ' H) → g v σ H Q
  own : ∀ d ρ i a, ownAt (f d ρ) i = some a → ownAt ρ i = some a
theorem own_setD {ρ : List SD} {x : PyData} {i j : Nat} {a : Addr} (h : ownAt (ρ.set i (.d x)) j = some a) : ownAt ρ j = some a := by
  rw [own_set] at h
  split at h
  · cases h
  · exact h
theorem sg_name (i : Nat) : SG (gName i) (fun _ => True) (fun d ρ => ρ.set i (.d d)) [i] :=
  ⟨fun G H σ ρ d v Q _ S h q => q _ (S.set_d i h) fun vs hv => wipe_set (hv i (by simp)), fun _ _ _ _ h => own_setD h⟩
/-- a pair -/
def setP (i j : Nat) : PyData → List SD → List SD
  | .tuple [x, y], ρ => (ρ.set i (.d x)).set j (.d y)
  | _, ρ => ρ
theorem sg_pair {K : PySem.W.Frag} (i j : Nat) : SG (gTup K 2 (gCons (gName i) (gCons (gName j) gNil))) (fun d => ∃ x y, d = .tuple [x, y]) (setP i j) [i, j] :=
  ⟨fun G H σ ρ d v Q ok S h q => by
    obtain ⟨x, y, rfl⟩ := ok
    obtain ⟨a, xs, rfl, h1, h2⟩ := Im.tup_inv h
    cases h2 with
    | cons ha hb =>
      cases hb with
      | cons hb hc =>
        cases hc
        refine ⟨a, _, rfl, SqT.of h1, rfl, _, _, rfl, _, _, rfl, rfl, q _ ((S.set_d i ha).set_d j hb) fun vs hv => ?_⟩
        rw [wipe_set (hv j (by simp)), wipe_set (hv i (by simp))],
  fun d ρ k a h => by
    unfold setP at h
    split at h
    · exact own_setD (own_setD h)
    · exact h⟩
def setT (i j k : Nat) : PyData → List SD → List SD
  | .tuple [x, y, z], ρ => ((ρ.set i (.d x)).set j (.d y)).set k (.d z)
  | _, ρ => ρ
theorem sg_trip {K : PySem.W.Frag} (i j k : Nat) : SG (gTup K 3 (gCons (gName i) (gCons (gName j) (gCons (gName k) gNil)))) (fun d => ∃ x y z, d = .tuple [x, y, z]) (setT i j k) [i, j, k] :=
  ⟨fun G H σ ρ d v Q ok S h q => by
    obtain ⟨x, y, z, rfl⟩ := ok
    obtain ⟨a, xs, rfl, h1, h2⟩ := Im.tup_inv h
    cases h2 with
    | cons ha hb =>
      cases hb with
      | cons hb hc =>
        cases hc with
        | cons hc hd =>
          cases hd
          refine ⟨a, _, rfl, SqT.of h1, rfl, _, _, rfl, _, _, rfl, _, _, rfl, rfl, q _ (((S.set_d i ha).set_d j hb).set_d k hc) fun vs hv => ?_⟩
          rw [wipe_set (hv k (by simp)), wipe_set (hv j (by simp)), wipe_set (hv i (by simp))],
  fun d ρ m a h => by
    unfold setT at h
    split at h
    · exact own_setD (own_setD (own_setD h))
    · exact h⟩

/-! ### what is walked -/
def WK (J : It) (Gd : Hp → Prop) (ds : List PyData) : Prop := ∀ H2, Gd H2 → ∀ i : Nat, (∀ d, ds[i]? = some d → J.go i H2 ∧ ∀ v H3, J.yld i H2 v H3 → Same H2 H3 ∧ Im H3 d v) ∧ (ds.length ≤ i → J.stop i H2)
def Prot (G : Gh) (ρ : List SD) (H' H2 : Hp) : Prop := ∀ a u, H' a = some u → ¬ isS G a → (∀ i, ownAt ρ i ≠ some a) → H2 a = some u
def tI (ρ : List SD) (Φ : List PyData → Prop) : TI := fun σ H R => ∃ G, StOk G H σ ρ ∧ ∀ J H' ds (Gd : Hp → Prop), Ext G H H' → Φ ds → (∀ H2, Prot G ρ H' H2 → Gd H2) → WK J Gd ds → R J H'
def tIc (ρ : List SD) (Φ : List PyData → Prop) : TI := fun σ H R => ∃ G, StOk G H σ ρ ∧ ∀ J H' ds (Gd : Hp → Prop), Ext G H H' → Φ ds → (∀ H2, Ext G H' H2 → Gd H2) → WK J Gd ds → R J H'
def XI (X : Cx) (ρ : List SD) (tg iter : Expr) (Φ : List PyData → Prop) : Prop := PI X tg iter (tI ρ Φ)
def XIc (X : Cx) (ρ : List SD) (tg iter : Expr) (Φ : List PyData → Prop) : Prop := PI X tg iter (tIc ρ Φ)
section
variable {X : Cx} {tg iter e e2 : Expr} {ρ : List SD} {Φ : List PyData → Prop} {pos : Pos}
theorem PI.imp {t t' : TI} (h : PI X tg iter t) (w : ∀ σ H R, t' σ H R → t σ H R) : PI X tg iter t' := ⟨fun pins s σ H R I q => h.run pins s σ H R I (w σ H R q)⟩
theorem PI.uni {ι : Type} {t : ι → TI} {P : ι → Prop} (h : ∀ i, P i → PI X tg iter (t i)) : PI X tg iter (fun σ H R => ∃ i, P i ∧ t i σ H R) := ⟨fun pins s σ H R I ⟨i, p, q⟩ => (h i p).run pins s σ H R I q⟩
theorem XI.toC (h : XI X ρ tg iter Φ) : XIc X ρ tg iter Φ := PI.imp h fun σ H R ⟨G, S, q⟩ => ⟨G, S, fun J H' ds Gd e hp hG w => q J H' ds Gd e hp (fun H2 x => hG H2 fun a u h n _ => x.keep a u h n) w⟩
end
end PL

-- PLd
/-! PLd: what is walked; statements. -/
namespace PL
open PySem PySem.Spec PyProof.Rows L2
section
variable {G : Gh} {H H' H2 : Hp} {σ : L2.St} {ρ : List SD}
theorem StOk.notTup (S : StOk G H σ ρ) {a : Addr} {xs : List V} (h : H a = some (.tup xs)) : ¬ isS G a ∧ ∀ i, ownAt ρ i ≠ some a := by
  refine ⟨fun ⟨sl, e⟩ => ?_, fun i e => ?_⟩
  · obtain ⟨_, _, c, k, h3, _⟩ := S.strm a sl e
    rw [h] at h3; cases h3
  · obtain ⟨_, _, u, hu, mu⟩ := S.owned e
    rw [h] at hu; cases hu; exact mu
theorem Prot.tups (p : Prot G ρ H H2) (S : StOk G H σ ρ) : ∀ a xs, H a = some (.tup xs) → H2 a = some (.tup xs) := fun a xs h => p a _ h (S.notTup h).1 (S.notTup h).2
end
section
variable {X : Cx} {tg iter e e2 a b : Expr} {ρ : List SD} {Φ : List PyData → Prop} {pos : Pos}
theorem wk_tup {K : PySem.W.Frag} {ad : Addr} {xs : List V} {ds : List PyData} : WK (Itt K ad) (fun H2 => H2 ad = some (.tup xs) ∧ Ims H2 ds xs) ds := by
  rintro H2 ⟨h1, h2⟩ i
  refine ⟨fun d hd => ?_, fun hl => ⟨xs, SqT.of h1, by rw [h2.len]; exact hl⟩⟩
  obtain ⟨x, hx, hi⟩ := h2.at hd
  refine ⟨⟨xs, x, SqT.of h1, hx⟩, fun v H3 ⟨e, y⟩ => ?_⟩
  subst e
  have e1 := y xs (SqT.of h1)
  rw [hx] at e1
  cases e1
  exact ⟨Same.refl _, hi⟩
theorem wk_list {K : PySem.W.Frag} {ad : Addr} {ds : List PyData} : WK (Itl K ad) (fun H2 => ∃ xs, H2 ad = some (.lst xs) ∧ Ims H2 ds xs) ds := by
  rintro H2 ⟨xs, h1, h2⟩ i
  refine ⟨fun d hd => ?_, fun hl => ⟨xs, SqL.of h1, by rw [h2.len]; exact hl⟩⟩
  obtain ⟨x, hx, hi⟩ := h2.at hd
  refine ⟨⟨xs, x, SqL.of h1, hx⟩, fun v H3 ⟨e, y⟩ => ?_⟩
  subst e
  have e1 := y xs (SqL.of h1)
  rw [hx] at e1
  cases e1
  exact ⟨Same.refl _, hi⟩
/-- a tuple -/
theorem xi_tup (he : XE X ρ e (fun r => ∃ ds, r = .d (.tuple ds) ∧ Φ ds)) : XI X ρ tg e Φ :=
  PI.imp (pi_tup he) fun σ H R ⟨G, S, q⟩ => ⟨G, S, fun v H1 r e1 r1 p1 => by
    obtain ⟨ds, rfl, hp⟩ := p1
    obtain ⟨ad, xs, rfl, h1, h2⟩ := Im.tup_inv r1
    refine ⟨ad, rfl, ⟨xs, SqT.of h1⟩, q _ H1 ds _ e1 hp (fun H2 pr => ?_) (wk_tup (xs := xs))⟩
    have t := pr.tups (S.mono e1)
    exact ⟨t _ _ h1, h2.mono t⟩⟩
theorem xi_tupD {ds : List PyData} (he : XD X ρ e (.tuple ds)) : XI X ρ tg e (fun z => z = ds) := xi_tup (XE.weak he fun r h => ⟨ds, h, rfl⟩)
/-- a list of a name that nobody owns -/
theorem xi_name {ds : List PyData} (i : Nat) {nm : Str} (h : ρ[i]? = some (.l ds)) (hp : PE X (.Name nm pos) (tVar i)) : XI X ρ tg (.Name nm pos) (fun z => z = ds) :=
  PI.imp (pi_list hp) fun σ H R ⟨G, S, q⟩ => by
    obtain ⟨ad, xs, e, e0, ns, r⟩ := S.slot i _ h
    have h1 := S.base ad _ e0 ns
    refine ⟨_, join_some.mp e, ad, rfl, ⟨xs, SqL.of h1⟩, q _ H ds _ (Ext.refl S.strm) rfl (fun H2 pr => ⟨xs, pr ad _ h1 ns fun j hj => ?_, r.mono (pr.tups S)⟩) wk_list⟩
    rw [(S.owned hj).1] at e0; cases e0
/-- a new list -/
theorem xi_new (he : XF X ρ e Φ) : XI X ρ tg e Φ :=
  PI.imp (pi_list he) fun σ H R ⟨G, S, q⟩ => ⟨G, S, fun ad xs H1 ds n e1 h1 h2 hp => by
    have S1 := S.mono e1
    refine ⟨ad, rfl, ⟨xs, SqL.of h1⟩, q _ H1 ds _ e1 hp (fun H2 pr => ⟨xs, pr ad _ h1 (fun ⟨sl, es⟩ => ?_) fun j hj => ?_, h2.mono (pr.tups S1)⟩) wk_list⟩
    · obtain ⟨_, _, c, k, h3, _⟩ := S.strm ad sl es
      rw [n] at h3; cases h3
    · obtain ⟨_, _, u, hu, _⟩ := S.owned hj
      rw [n] at hu; cases hu⟩
/-- any list, in a comprehension -/
theorem xc_list (he : XE X ρ e (fun r => ∃ ds, r = .l ds ∧ Φ ds)) : XIc X ρ tg e Φ :=
  PI.imp (pi_list he) fun σ H R ⟨G, S, q⟩ => ⟨G, S, fun v H1 r e1 r1 p1 => by
    obtain ⟨ds, rfl, hp⟩ := p1
    obtain ⟨ad, xs, rfl, ns, h1, h2⟩ := r1
    exact ⟨ad, rfl, ⟨xs, SqL.of h1⟩, q _ H1 ds _ e1 hp (fun H2 e2 => ⟨xs, e2.keep _ _ h1 ns, h2.mono e2.tups⟩) wk_list⟩⟩
theorem xc_listD {ds : List PyData} (he : XE X ρ e (fun r => r = .l ds)) : XIc X ρ tg e (fun z => z = ds) := xc_list (XE.weak he fun r h => ⟨ds, h, rfl⟩)
/-- what stands still even while a list that nobody knows grows -/
def PrS (G : Gh) (H' H2 : Hp) : Prop := (∀ a xs, H' a = some (.tup xs) → H2 a = some (.tup xs)) ∧ ∀ a u, G.H0 a = some u → ¬ isS G a → H2 a = some u
def tIs (ρ : List SD) (Φ : List PyData → Prop) : TI := fun σ H R => ∃ G, StOk G H σ ρ ∧ ∀ J H' ds (Gd : Hp → Prop), Ext G H H' → Φ ds → (∀ H2, PrS G H' H2 → Gd H2) → WK J Gd ds → R J H'
def XIs (X : Cx) (ρ : List SD) (tg iter : Expr) (Φ : List PyData → Prop) : Prop := PI X tg iter (tIs ρ Φ)
theorem xj_tup {ds : List PyData} (he : XD X ρ e (.tuple ds)) : XIs X ρ tg e (fun z => z = ds) :=
  PI.imp (pi_tup he) fun σ H R ⟨G, S, q⟩ => ⟨G, S, fun v H1 r e1 r1 p1 => by
    subst p1
    obtain ⟨ad, xs, rfl, h1, h2⟩ := Im.tup_inv r1
    exact ⟨ad, rfl, ⟨xs, SqT.of h1⟩, q _ H1 ds _ e1 rfl (fun H2 pr => ⟨pr.1 _ _ h1, h2.mono pr.1⟩) (wk_tup (xs := xs))⟩⟩
theorem xj_name {ds : List PyData} (i : Nat) {nm : Str} (h : ρ[i]? = some (.l ds)) (hp : PE X (.Name nm pos) (tVar i)) : XIs X ρ tg (.Name nm pos) (fun z => z = ds) :=
  PI.imp (pi_list hp) fun σ H R ⟨G, S, q⟩ => by
    obtain ⟨ad, xs, e, e0, ns, r⟩ := S.slot i _ h
    exact ⟨_, join_some.mp e, ad, rfl, ⟨xs, SqL.of (S.base ad _ e0 ns)⟩, q _ H ds _ (Ext.refl S.strm) rfl (fun H2 pr => ⟨xs, pr.2 ad _ e0 ns, r.mono pr.1⟩) wk_list⟩
/-- range(n), range(lo, hi) -/
def rngD (lo : Int) (n : Nat) : List PyData := (List.range n).map fun (i : Nat) => .int (lo + i)
theorem rngD_get {lo : Int} {n i : Nat} {d : PyData} (h : (rngD lo n)[i]? = some d) : i < n ∧ d = .int (lo + i) := by
  unfold rngD at h
  rw [List.getElem?_map] at h
  by_cases hi : i < n
  · rw [List.getElem?_range hi] at h
    exact ⟨hi, (Option.some.inj h).symm⟩
  · rw [List.getElem?_eq_none (by simpa using hi)] at h; cases h
theorem rngD_len (lo : Int) (n : Nat) : (rngD lo n).length = n := by unfold rngD; rw [List.length_map, List.length_range]
theorem wk_rng {lo : Int} {n : Nat} : WK (Itr lo n) (fun _ => True) (rngD lo n) := by
  intro H2 _ i
  refine ⟨fun d hd => ?_, fun hl => by rw [rngD_len] at hl; exact hl⟩
  obtain ⟨h1, rfl⟩ := rngD_get hd
  refine ⟨h1, fun v H3 ⟨e, y⟩ => ?_⟩
  subst e; subst y
  exact ⟨Same.refl _, .int _⟩
theorem xi_range1 {n : Nat} {p : Pos} (ha : XD X ρ a (.int n)) (hn : n ≤ 1000000) (hm : X.mg "range" = none) (hg : Gl X "range" := by rfl) (h0 : starEach [a] X.env = (false, eval a X.env) :: starEach [] X.env := by rfl) (hs : starEach [a] X.env = [(false, eval a X.env)] := by rfl) :
    XI X ρ tg (.Call (.Name "range" p) [a] [] pos) (fun z => z = rngD 0 n) :=
  PI.imp (pi_range1 hg hm (pa_cons ha pa_nil h0) hs) fun σ H R ⟨G, S, q⟩ => ⟨G, S, fun v H1 r e1 r1 p1 => by
    subst p1
    refine ⟨n, by rw [Im.int_inv r1], by omega, by omega, ?_⟩
    exact q _ H1 _ _ e1 rfl (fun _ _ => trivial) (by rw [Int.toNat_natCast]; exact wk_rng)⟩
theorem xi_range2 {i j : Int} {p : Pos} (ha : XD X ρ a (.int i)) (hb : XD X ρ b (.int j)) (hn : -1000000 ≤ i ∧ i ≤ 1000000 ∧ -1000000 ≤ j ∧ j ≤ 1000000) (hm : X.mg "range" = none) (hg : Gl X "range" := by rfl)
    (h0 : starEach [a, b] X.env = (false, eval a X.env) :: starEach [b] X.env := by rfl) (h1 : starEach [b] X.env = (false, eval b X.env) :: starEach [] X.env := by rfl)
    (hs : starEach [a, b] X.env = [(false, eval a X.env), (false, eval b X.env)] := by rfl) (hs2 : starEach [b] X.env = [(false, eval b X.env)] := by rfl) :
    XI X ρ tg (.Call (.Name "range" p) [a, b] [] pos) (fun z => z = rngD i (j - i).toNat) :=
  PI.imp (pi_range2 hg hm (pa_cons ha (pa_cons hb pa_nil h1) h0) hs hs2) fun σ H R ⟨G, S, q⟩ => ⟨G, S, fun v H1 r e1 r1 p1 => ⟨G, S.mono e1, fun w H2 r' e2 r2 p2 => by
    subst p1; subst p2
    exact ⟨i, j, by rw [Im.int_inv r1, Im.int_inv r2], by omega, q _ H2 _ _ (e1.trans e2) rfl (fun _ _ => trivial) wk_rng⟩⟩⟩
/-- enumerate(t) -/
def enumD : Nat → List PyData → List PyData
  | _, [] => []
  | k, d :: r => .tuple [.int k, d] :: enumD (k + 1) r
theorem enumD_get : ∀ {ds : List PyData} {k i : Nat} {d : PyData}, (enumD k ds)[i]? = some d → ∃ x, ds[i]? = some x ∧ d = .tuple [.int ((k + i : Nat) : Int), x]
  | [], _, _, _, h => by simp [enumD] at h
  | x :: r, k, 0, d, h => ⟨x, rfl, by simp [enumD] at h; rw [← h]; rfl⟩
  | x :: r, k, i + 1, d, h => by
    obtain ⟨y, h1, h2⟩ := enumD_get (ds := r) (k := k + 1) (i := i) (d := d) (by simpa [enumD] using h)
    refine ⟨y, by simpa using h1, ?_⟩
    rw [h2, show k + 1 + i = k + (i + 1) by omega]
theorem enumD_len : ∀ (ds : List PyData) (k : Nat), (enumD k ds).length = ds.length
  | [], _ => rfl
  | _ :: r, k => congrArg (· + 1) (enumD_len r (k + 1))
theorem xi_enum {ds : List PyData} {p tpos : Pos} {elts : List Expr} {kk : Nat} (ha : XD X ρ a (.tuple ds)) (hm : X.mg "enumerate" = none) (hg : Gl X "enumerate" := by rfl) (h0 : starEach [a] X.env = (false, eval a X.env) :: starEach [] X.env := by rfl) (hs : starEach [a] X.env = [(false, eval a X.env)] := by rfl) :
    XI X ρ (.Tuple elts kk tpos) (.Call (.Name "enumerate" p) [a] [] pos) (fun z => z = enumD 0 ds) :=
  PI.imp (pi_enumT hg hm (pa_cons ha pa_nil h0) hs) fun σ H R ⟨G, S, q⟩ => ⟨G, S, fun v H1 r e1 r1 p1 => by
    subst p1
    obtain ⟨ad, xs, rfl, h1, h2⟩ := Im.tup_inv r1
    refine ⟨ad, xs, rfl, SqT.of h1, q _ H1 _ (fun H2 => H2 ad = some (.tup xs) ∧ Ims H2 ds xs) e1 rfl (fun H2 pr => ⟨pr.tups (S.mono e1) _ _ h1, h2.mono (pr.tups (S.mono e1))⟩) ?_⟩
    rintro H2 ⟨g1, g2⟩ i
    refine ⟨fun d hd => ?_, fun hl => ⟨xs, SqT.of g1, by rw [g2.len, ← enumD_len ds 0]; exact hl⟩⟩
    obtain ⟨x, hx, rfl⟩ := enumD_get hd
    obtain ⟨y, hy, hi⟩ := g2.at hx
    refine ⟨⟨xs, y, SqT.of g1, hy⟩, fun v H3 ⟨T, z, e, n, e2, w⟩ => ?_⟩
    subst e; subst e2
    have e3 := w xs (SqT.of g1)
    rw [hy] at e3
    cases e3
    have sm : Same H2 (upd H2 T (.tup [.int (i : Nat), y])) := same_new n
    refine ⟨sm, .tup upd_same (.cons ?_ (.cons (hi.mono fun c zs hc => sm c _ hc) .nil))⟩
    rw [Nat.zero_add]
    exact .int _⟩
/-- zip(t, u) of tuples of one length -/
def zipD (ds es : List PyData) : List PyData := List.zipWith (fun x y => .tuple [x, y]) ds es
theorem zipD_get {ds es : List PyData} {i : Nat} {d : PyData} (h : (zipD ds es)[i]? = some d) : ∃ x y, ds[i]? = some x ∧ es[i]? = some y ∧ d = .tuple [x, y] := by
  unfold zipD at h
  rw [List.getElem?_zipWith] at h
  cases h1 : ds[i]? with
  | none => rw [h1] at h; simp at h
  | some x =>
    cases h2 : es[i]? with
    | none => rw [h1, h2] at h; simp at h
    | some y =>
      rw [h1, h2] at h
      exact ⟨x, y, rfl, rfl, (Option.some.inj h).symm⟩
theorem xi_zip {ds es : List PyData} {p tpos : Pos} {elts : List Expr} {kk : Nat} (ha : XD X ρ a (.tuple ds)) (hb : XD X ρ b (.tuple es)) (hm : X.mg "zip" = none) (hg : Gl X "zip" := by rfl)
    (h0 : starEach [a, b] X.env = (false, eval a X.env) :: starEach [b] X.env := by rfl) (h1 : starEach [b] X.env = (false, eval b X.env) :: starEach [] X.env := by rfl) (hpl : (backTo pos (starEach [b] X.env)).any (·.1) = false := by rfl) :
    XI X ρ (.Tuple elts kk tpos) (.Call (.Name "zip" p) [a, b] [] pos) (fun z => z = zipD ds es) :=
  PI.imp (RZ.pi_zipA hg hm (pa_cons ha (pa_cons hb pa_nil h1) h0) h0 hpl) fun σ H R ⟨G, S, q⟩ => ⟨G, S, fun v H1 r e1 r1 p1 => ⟨G, S.mono e1, fun w H2 r' e2 r2 p2 => by
    subst p1; subst p2
    obtain ⟨ad, xs, rfl, g1, g2⟩ := Im.tup_inv (Im.mono e2.tups r1)
    obtain ⟨bd, ys, rfl, g3, g4⟩ := Im.tup_inv r2
    have S2 := (S.mono e1).mono e2
    refine ⟨ad, bd, xs, ys, rfl, .inr ⟨SqT.of g1, SqT.of g3, q _ H2 _ (fun H3 => H3 ad = some (.tup xs) ∧ H3 bd = some (.tup ys) ∧ Ims H3 ds xs ∧ Ims H3 es ys) (e1.trans e2) rfl (fun H3 pr => ⟨pr.tups S2 _ _ g1, pr.tups S2 _ _ g3, g2.mono (pr.tups S2), g4.mono (pr.tups S2)⟩) ?_⟩⟩
    rintro H3 ⟨k1, k2, k3, k4⟩ i
    refine ⟨fun d hd => ?_, fun hl => ⟨xs, ys, SqT.of k1, SqT.of k2, ?_⟩⟩
    · obtain ⟨x, y, hx, hy, rfl⟩ := zipD_get hd
      obtain ⟨x', hx', hxi⟩ := k3.at hx
      obtain ⟨y', hy', hyi⟩ := k4.at hy
      refine ⟨⟨xs, ys, x', y', SqT.of k1, SqT.of k2, hx', hy'⟩, fun v H4 ⟨T, z, u, e, n, e2, w1, w2⟩ => ?_⟩
      subst e; subst e2
      have e3 := w1 xs (SqT.of k1)
      rw [hx'] at e3; cases e3
      have e4 := w2 ys (SqT.of k2)
      rw [hy'] at e4; cases e4
      have sm : Same H3 (upd H3 T (.tup [x', y'])) := same_new n
      exact ⟨sm, .tup upd_same (.cons (hxi.mono fun c zs hc => sm c _ hc) (.cons (hyi.mono fun c zs hc => sm c _ hc) .nil))⟩
    · unfold zipD at hl
      rw [List.length_zipWith] at hl
      rw [k3.len, k4.len]
      omega⟩⟩
end
end PL

-- PLf
/-! PLf: statements, loops. -/
namespace PL
open PySem PySem.Spec PyProof.Rows L2

/-! ### judgements of statements -/
def Le (G G' : Gh) : Prop := G'.so = G.so ∧ (∀ a u, G.H0 a = some u → ¬ isS G a → G'.H0 a = some u) ∧ G'.B = G.B
/-- the ghost of an entry -/
def Ent0 (G : Gh) : Prop := SOk G G.H0 ∧ G.B = G.H0
theorem Le.refl (G : Gh) : Le G G := ⟨rfl, fun _ _ h _ => h, rfl⟩
theorem Le.isS {G G' : Gh} (l : Le G G') {a : Addr} : PL.isS G' a ↔ PL.isS G a := by unfold PL.isS; rw [l.1]
theorem Le.trans {G G1 G2 : Gh} (a : Le G G1) (b : Le G1 G2) : Le G G2 := ⟨b.1.trans a.1, fun c u h n => b.2.1 c u (a.2.1 c u h n) fun z => n (a.isS.mp z), b.2.2.trans a.2.2⟩
theorem Le.sok {G G' : Gh} (l : Le G G') {H : Hp} (h : SOk G' H) : SOk G H := fun x y e => h x y (l.1.trans e)
def ResF (H0 H : Hp) (v : V) : SD → Prop
  | .d x => Im H x v
  | .l ds => ∃ a xs, v = .ref a ∧ H0 a = none ∧ H a = some (.lst xs) ∧ Ims H ds xs
  | .l2 qs => ∃ (a : Addr) (rs : List Addr), v = .ref a ∧ H0 a = none ∧ H a = some (.lst (rs.map V.ref)) ∧ rs.length = qs.length ∧ ∀ (i : Nat) q, qs[i]? = some q → ∃ r xs, rs[i]? = some r ∧ H0 r = none ∧ H r = some (.lst xs) ∧ Ims H q xs
  | _ => False
/-- the frame of a def: what stood at its entry stands -/
theorem StOk.frame {G0 G : Gh} {H : Hp} {σ : L2.St} {ρ : List SD} (S : StOk G H σ ρ) (l : Le G0 G) (s0 : Ent0 G0) : Ext G0 G0.H0 H where
  keep := fun a u h n => S.base a u (l.2.1 a u h n) fun z => n (l.isS.mp z)
  strm := l.sok S.strm
  tups := fun a xs h => by
    refine S.base a _ (l.2.1 a _ h ?_) fun z => ?_
    · rintro ⟨sl, e⟩
      obtain ⟨_, _, c, k, h3, _⟩ := s0.1 a sl e
      rw [h] at h3; cases h3
    · obtain ⟨sl, e⟩ := l.isS.mp z
      obtain ⟨_, _, c, k, h3, _⟩ := s0.1 a sl e
      rw [h] at h3; cases h3
theorem Le.none {G0 G : Gh} {H : Hp} {σ : L2.St} {ρ : List SD} (S : StOk G H σ ρ) (l : Le G0 G) {a : Addr} (h : G.H0 a = none) : G0.H0 a = none := by
  cases q : G0.H0 a with
  | none => rfl
  | some u =>
    by_cases hs : PL.isS G0 a
    · obtain ⟨sl, e⟩ := l.isS.mpr hs
      exact absurd h (S.sin a sl e).1
    · rw [l.2.1 a u q hs] at h; cases h
def tS (ρ : List SD) (N : List SD → Prop) (R : SD → Prop) : TS := fun D σ H => ∃ G0 G, Le G0 G ∧ Ent0 G0 ∧ StOk G H σ ρ ∧
  (∀ G' σ' H' ρ', Le G G' → StOk G' H' σ' ρ' → N ρ' → D.nx σ' H') ∧ (∀ v H' r, Ext G0 G0.H0 H' → ResF G0.H0 H' v r → R r → D.rt v H')
def XS (X : Cx) (ρ : List SD) (st : Stmt) (N : List SD → Prop) (R : SD → Prop) : Prop := PS X st (tS ρ N R)
def XSs (X : Cx) (ρ : List SD) (sts : List Stmt) (N : List SD → Prop) (R : SD → Prop) : Prop := PSs X sts (tS ρ N R)

section
variable {X : Cx} {st : Stmt} {rest A B body : List Stmt} {ρ : List SD} {N M : List SD → Prop} {R : SD → Prop} {e a b c tg iter : Expr} {Φ Ψ Θ : SD → Prop} {pos p' : Pos} {nm : Str}
theorem xss_nil (h : N ρ) : XSs X ρ [] N R := PSs.imp pss_nil fun D σ H ⟨G0, G, l, s0, S, nx, rt⟩ => nx G σ H ρ (Le.refl G) S h
theorem xss_cons (h1 : XS X ρ st M R) (h2 : ∀ ρ', M ρ' → XSs X ρ' rest N R) : XSs X ρ (st :: rest) N R :=
  PSs.imp (pss_cons h1 (PSs.uni (t := fun ρ' => tS ρ' N R) (P := M) h2)) fun D σ H ⟨G0, G, l, s0, S, nx, rt⟩ => ⟨G0, G, l, s0, S, fun G' σ' H' ρ' l' S' m => ⟨ρ', m, G0, G', l.trans l', s0, S', fun G2 σ2 H2 ρ2 l2 => nx G2 σ2 H2 ρ2 (l'.trans l2), rt⟩, rt⟩
theorem xss_one (h : XS X ρ st N R) : XSs X ρ [st] N R := PSs.imp (pss_one h) fun D σ H q => q
theorem XSs.weak {N' : List SD → Prop} {R' : SD → Prop} (h : XSs X ρ rest N R) (hn : ∀ ρ, N ρ → N' ρ) (hr : ∀ r, R r → R' r) : XSs X ρ rest N' R' :=
  PSs.imp h fun D σ H ⟨G0, G, l, s0, S, nx, rt⟩ => ⟨G0, G, l, s0, S, fun G' σ' H' ρ' l' S' n => nx G' σ' H' ρ' l' S' (hn ρ' n), fun v H' r e q z => rt v H' r e q (hr r z)⟩
/-- x = e, a value without an owner -/
theorem xs_setN (i : Nat) (he : XE X ρ e Φ) (hd : ∀ r, Φ r → ∃ x, r = .d x) (hN : X.N.Nodup) (hi : X.N[i]? = some nm := by rfl) (hx : Loc X.env.scope nm := by first | exact Or.inl rfl | exact Or.inr rfl)
    (hs : swapsWith e (some (.Name nm p')) pos.line X.env = pure false := by rfl) (hf : X.fn nm = true ∨ X.env.scope.names.lookup nm = some .local := by first | exact .inl rfl | exact .inr rfl) :
    XS X ρ (.Assign [.Name nm p'] e pos) (fun ρ' => ∃ x, Φ (.d x) ∧ ρ' = ρ.set i (.d x)) R :=
  PS.imp (ps_set hN hi hx he hs hf) fun D σ H ⟨G0, G, l, s0, S, nx, rt⟩ => ⟨G, S, fun v H' r e1 r1 p1 => by
    obtain ⟨x, rfl⟩ := hd r p1
    exact nx G _ H' _ (Le.refl G) ((S.mono e1).set_d i r1) ⟨x, p1, rfl⟩⟩
theorem xss_setN (i : Nat) (he : XE X ρ e Φ) (hd : ∀ r, Φ r → ∃ x, r = .d x) (h : ∀ x, Φ (.d x) → XSs X (ρ.set i (.d x)) rest N R) (hN : X.N.Nodup) (hi : X.N[i]? = some nm := by rfl) (hx : Loc X.env.scope nm := by first | exact Or.inl rfl | exact Or.inr rfl)
    (hs : swapsWith e (some (.Name nm p')) pos.line X.env = pure false := by rfl) (hf : X.fn nm = true ∨ X.env.scope.names.lookup nm = some .local := by first | exact .inl rfl | exact .inr rfl) :
    XSs X ρ (.Assign [.Name nm p'] e pos :: rest) N R :=
  xss_cons (xs_setN i he hd hN hi hx hs hf) fun ρ' ⟨x, p, e⟩ => by rw [e]; exact h x p
theorem xss_set (i : Nat) {x : PyData} (he : XD X ρ e x) (h : XSs X (ρ.set i (.d x)) rest N R) (hN : X.N.Nodup) (hi : X.N[i]? = some nm := by rfl) (hx : Loc X.env.scope nm := by first | exact Or.inl rfl | exact Or.inr rfl)
    (hs : swapsWith e (some (.Name nm p')) pos.line X.env = pure false := by rfl) (hf : X.fn nm = true ∨ X.env.scope.names.lookup nm = some .local := by first | exact .inl rfl | exact .inr rfl) :
    XSs X ρ (.Assign [.Name nm p'] e pos :: rest) N R :=
  xss_setN i he (fun r h => ⟨x, h⟩) (fun y hy => by cases hy; exact h) hN hi hx hs hf
/-- x = a new list, from then on its own -/
theorem xs_setF (i : Nat) {Ψ : List PyData → Prop} (he : XF X ρ e Ψ) (hN : X.N.Nodup) (hi : X.N[i]? = some nm := by rfl) (hx : Loc X.env.scope nm := by first | exact Or.inl rfl | exact Or.inr rfl)
    (hs : swapsWith e (some (.Name nm p')) pos.line X.env = pure false := by rfl) (hf : X.fn nm = true ∨ X.env.scope.names.lookup nm = some .local := by first | exact .inl rfl | exact .inr rfl) :
    XS X ρ (.Assign [.Name nm p'] e pos) (fun ρ' => ∃ ad ds, Ψ ds ∧ ρ' = ρ.set i (.ol ad ds)) R :=
  PS.imp (ps_set hN hi hx he hs hf) fun D σ H ⟨G0, G, l, s0, S, nx, rt⟩ => ⟨G, S, fun ad xs H' ds n e1 h1 h2 p1 => nx G _ H' _ (Le.refl G) (S.set_new e1 i n h1 h2) ⟨ad, ds, p1, rfl⟩⟩
theorem xss_setF (i : Nat) {Ψ : List PyData → Prop} (he : XF X ρ e Ψ) (h : ∀ ad ds, Ψ ds → XSs X (ρ.set i (.ol ad ds)) rest N R) (hN : X.N.Nodup) (hi : X.N[i]? = some nm := by rfl) (hx : Loc X.env.scope nm := by first | exact Or.inl rfl | exact Or.inr rfl)
    (hs : swapsWith e (some (.Name nm p')) pos.line X.env = pure false := by rfl) (hf : X.fn nm = true ∨ X.env.scope.names.lookup nm = some .local := by first | exact .inl rfl | exact .inr rfl) :
    XSs X ρ (.Assign [.Name nm p'] e pos :: rest) N R :=
  xss_cons (xs_setF i he hN hi hx hs hf) fun ρ' ⟨ad, ds, p, e⟩ => by rw [e]; exact h ad ds p
/-- a, b = e and the like -/
theorem xs_asg {g : TG} {ok : PyData → Prop} {f : PyData → List SD → List SD} {is : List Nat} {x : PyData} (he : XD X ρ e x) (hg : PG X tg g) (sg : SG g ok f is) (hok : ok x) (hs : swapsWithSole [tg] e pos.line X.env = pure false := by rfl) (hw : swappedStores [tg] e X.env = pure none := by rfl)
    (h1 : (assignEach [tg] X.env).map (·.2) = [assign tg X.env] := by rfl) : XS X ρ (.Assign [tg] e pos) (fun ρ' => ρ' = f x ρ) R :=
  PS.imp (ps_asg he hg hs hw h1) fun D σ H ⟨G0, G, l, s0, S, nx, rt⟩ => ⟨G, S, fun v H' r e1 r1 p1 => by
    subst p1
    exact sg.run G H' σ ρ x v _ hok (S.mono e1) r1 fun σ' S' _ => nx G σ' H' _ (Le.refl G) S' rfl⟩
theorem xs_asgN {g : TG} {ok : PyData → Prop} {f : PyData → List SD → List SD} {is : List Nat} (he : XE X ρ e Φ) (hg : PG X tg g) (sg : SG g ok f is) (hok : ∀ r, Φ r → ∃ x, r = .d x ∧ ok x) (hs : swapsWithSole [tg] e pos.line X.env = pure false := by rfl) (hw : swappedStores [tg] e X.env = pure none := by rfl)
    (h1 : (assignEach [tg] X.env).map (·.2) = [assign tg X.env] := by rfl) : XS X ρ (.Assign [tg] e pos) (fun ρ' => ∃ x, Φ (.d x) ∧ ρ' = f x ρ) R :=
  PS.imp (ps_asg he hg hs hw h1) fun D σ H ⟨G0, G, l, s0, S, nx, rt⟩ => ⟨G, S, fun v H' r e1 r1 p1 => by
    obtain ⟨x, rfl, hx⟩ := hok r p1
    exact sg.run G H' σ ρ x v _ hx (S.mono e1) r1 fun σ' S' _ => nx G σ' H' _ (Le.refl G) S' ⟨x, p1, rfl⟩⟩
theorem xs_ret (he : XE X ρ e Φ) (hd : ∀ r, Φ r → (∃ x, r = .d x) ∧ R r) : XS X ρ (.Return (some e) pos) N R :=
  PS.imp (ps_ret he) fun D σ H ⟨G0, G, l, s0, S, nx, rt⟩ => ⟨G, S, fun v H' r e1 r1 p1 => by
    obtain ⟨⟨x, rfl⟩, hr⟩ := hd r p1
    exact rt v H' (.d x) ((S.mono e1).frame l s0) r1 hr⟩
theorem xs_retD {x : PyData} (he : XD X ρ e x) (hr : R (.d x)) : XS X ρ (.Return (some e) pos) N R := xs_ret he fun r h => ⟨⟨x, h⟩, by rw [h]; exact hr⟩
/-- a new list -/
theorem xs_retF {Ψ : List PyData → Prop} (he : XF X ρ e Ψ) (hr : ∀ ds, Ψ ds → R (.l ds)) : XS X ρ (.Return (some e) pos) N R :=
  PS.imp (ps_ret he) fun D σ H ⟨G0, G, l, s0, S, nx, rt⟩ => ⟨G, S, fun ad xs H' ds n e1 h1 h2 p1 =>
    rt _ H' (.l ds) ((S.mono e1).frame l s0) ⟨ad, xs, rfl, Le.none S l (S.fresh0 n), h1, h2⟩ (hr ds p1)⟩
/-- an own list -/
theorem xs_retO (i : Nat) {ad : Addr} {ds : List PyData} (h : ρ[i]? = some (.ol ad ds)) (hp : PE X (.Name nm p') (tVar i)) (hr : R (.l ds)) : XS X ρ (.Return (some (.Name nm p')) pos) N R :=
  PS.imp (ps_ret hp) fun D σ H ⟨G0, G, l, s0, S, nx, rt⟩ => by
    obtain ⟨e, n, xs, e0, r⟩ := S.slot i _ h
    exact ⟨_, join_some.mp e, rt _ H (.l ds) (S.frame l s0) ⟨ad, xs, rfl, Le.none S l n, e0, r⟩ hr⟩
theorem xs_if {p : Bool} (hc : XB X ρ c p) (h1 : p = true → XSs X ρ A N R) (h2 : p = false → XSs X ρ B N R) : XS X ρ (.If c A B pos) N R := by
  cases p with
  | true => exact PS.imp (ps_if hc (h1 rfl) (pss_never (sts := B))) fun D σ H ⟨G0, G, l, s0, S, nx, rt⟩ => ⟨G, S, fun v H' e1 p1 => by
      subst p1
      exact iteT ⟨G0, G, l, s0, S.mono e1, nx, rt⟩⟩
  | false => exact PS.imp (ps_if hc (pss_never (sts := A)) (h2 rfl)) fun D σ H ⟨G0, G, l, s0, S, nx, rt⟩ => ⟨G, S, fun v H' e1 p1 => by
      subst p1
      exact iteF ⟨G0, G, l, s0, S.mono e1, nx, rt⟩⟩
/-- an if whose yes-way leaves, then the rest -/
theorem xss_if {p : Bool} (hc : XB X ρ c p) (h1 : p = true → XSs X ρ A (fun _ => False) R) (h2 : p = false → XSs X ρ rest N R) : XSs X ρ (.If c A [] pos :: rest) N R := by
  cases p with
  | true => exact xss_cons (M := fun _ => False) (xs_if hc h1 fun h => nomatch h) fun _ h => h.elim
  | false => exact xss_cons (M := fun ρ' => ρ' = ρ) (xs_if hc (fun h => nomatch h) fun _ => xss_nil rfl) fun ρ' h => by rw [h]; exact h2 rfl
theorem xss_ifT {p : Bool} (hc : XB X ρ c p) (hp : p = true) (h1 : XSs X ρ A (fun _ => False) R) : XSs X ρ (.If c A B pos :: rest) N R :=
  xss_cons (M := fun _ => False) (xs_if hc (fun _ => h1) fun h => by rw [hp] at h; cases h) fun _ h => h.elim
theorem xss_ifF {p : Bool} (hc : XB X ρ c p) (hp : p = false) (h2 : XSs X ρ rest N R) : XSs X ρ (.If c A [] pos :: rest) N R :=
  xss_if hc (fun h => by rw [hp] at h; cases h) fun _ => h2

/-! ### own lists and dicts changed -/
theorem own_ol {i : Nat} {ad : Addr} {ds : List PyData} (h : ρ[i]? = some (.ol ad ds)) : ownAt ρ i = some ad := by unfold ownAt; rw [h]; rfl
theorem own_ok {i : Nat} {ad : Addr} {ks : List Int} (h : ρ[i]? = some (.ok ad ks)) : ownAt ρ i = some ad := by unfold ownAt; rw [h]; rfl
theorem own_ot {i : Nat} {ad : Addr} {ks : List (List Int)} (h : ρ[i]? = some (.ot ad ks)) : ownAt ρ i = some ad := by unfold ownAt; rw [h]; rfl
theorem StOk.setL {G : Gh} {H : Hp} {σ : L2.St} (S : StOk G H σ ρ) {i : Nat} {ad : Addr} {ds ds' : List PyData} {ys : List V} (h : ρ[i]? = some (.ol ad ds)) (r : Ims H ds' ys) : StOk G (upd H ad (.lst ys)) σ (ρ.set i (.ol ad ds')) := by
  obtain ⟨n0, ns, u, hu, mu⟩ := S.owned (own_ol h)
  refine S.write i (own_ol h) (fun _ z => nomatch z) (fun e => ⟨rfl, n0, ys, upd_same, r.mono fun b xs eb => ?_⟩) rfl
  rw [upd_ne (fun z => by subst z; rw [hu] at eb; cases eb; exact mu)]
  exact eb
/-- xs.append(e) -/
theorem xs_appN (i : Nat) {ad : Addr} {ds : List PyData} (h : ρ[i]? = some (.ol ad ds)) (hp : PE X (.Name nm p') (tVar i)) (he : XE X ρ e Φ) (hd : ∀ r, Φ r → ∃ x, r = .d x) (hl : ds.length < 100000) {apos cpos : Pos}
    (hps : ∀ te : TE, PE X e te → PE X (.Call (.Attribute (.Name nm p') "append" apos) [e] [] cpos) (tBM X.K "list" rAppend (tVar i) (tCons te tNil))) (hs : swapsWith (.Call (.Attribute (.Name nm p') "append" apos) [e] [] cpos) none pos.line X.env = pure false := by rfl) :
    XS X ρ (.Expr (.Call (.Attribute (.Name nm p') "append" apos) [e] [] cpos) pos) (fun ρ' => ∃ x, Φ (.d x) ∧ ρ' = ρ.set i (.ol ad (ds ++ [x]))) R :=
  PS.imp (ps_expr (hps _ he) hs) fun D σ H ⟨G0, G, l, s0, S, nx, rt⟩ => by
    obtain ⟨e1, n, xs, e0, r⟩ := S.slot i _ h
    refine ⟨_, join_some.mp e1, .inl ⟨rfl, _, SqL.of e0⟩, G, S, fun v H' rr e2 r2 p2 => ?_⟩
    obtain ⟨x, rfl⟩ := hd rr p2
    have S' := S.mono e2
    obtain ⟨_, _, xs', e0', r'⟩ := S'.slot i _ h
    exact ⟨ad, xs', v, rfl, rfl, e0', sz_lt (by rw [r'.len]; exact hl), nx G σ _ _ (Le.refl G) (S'.setL h (r'.app (.one r2))) ⟨x, p2, rfl⟩⟩
/-- x = xs.pop() -/
theorem xs_pop (i j : Nat) {ad : Addr} {ds : List PyData} {d : PyData} {nj : Str} {pj : Pos} (h : ρ[i]? = some (.ol ad ds)) (hp : PE X (.Name nm p') (tVar i)) (hd : ds[ds.length - 1]? = some d) (hN : X.N.Nodup) {apos cpos : Pos}
    (hps : PE X (.Call (.Attribute (.Name nm p') "pop" apos) [] [] cpos) (tBM0 X.K "list" rPop (tVar i))) (hj : X.N[j]? = some nj := by rfl) (hx : Loc X.env.scope nj := by first | exact Or.inl rfl | exact Or.inr rfl)
    (hs : swapsWith (.Call (.Attribute (.Name nm p') "pop" apos) [] [] cpos) (some (.Name nj pj)) pos.line X.env = pure false := by rfl) (hf : X.fn nj = true ∨ X.env.scope.names.lookup nj = some .local := by first | exact .inl rfl | exact .inr rfl) :
    XS X ρ (.Assign [.Name nj pj] (.Call (.Attribute (.Name nm p') "pop" apos) [] [] cpos) pos) (fun ρ' => ρ' = (ρ.set i (.ol ad ds.dropLast)).set j (.d d)) R :=
  PS.imp (ps_set hN hj hx hps hs hf) fun D σ H ⟨G0, G, l, s0, S, nx, rt⟩ => by
    obtain ⟨e1, n, xs, e0, r⟩ := S.slot i _ h
    obtain ⟨v, hv, iv⟩ := r.at hd
    obtain ⟨_, _, u, hu, mu⟩ := S.owned (own_ol h)
    refine ⟨_, join_some.mp e1, .inl ⟨rfl, _, SqL.of e0⟩, ad, xs, v, rfl, rfl, e0, by rw [r.len]; exact hv, nx G _ _ _ (Le.refl G) ((S.setL h r.dropLast).set_d j (iv.mono fun b zs eb => ?_)) rfl⟩
    rw [upd_ne (fun z => by subst z; rw [e0] at eb; cases eb)]
    exact eb
def putI (ks : List Int) (k : Int) : List Int := if k ∈ ks then ks else ks ++ [k]
def putL (ks : List (List Int)) (k : List Int) : List (List Int) := if k ∈ ks then ks else ks ++ [k]
theorem putI_put (ks : List Int) (k : Int) : putK (ks.map fun k => ((Sum.inl k : Key), V.bl true)) (Sum.inl k) (V.bl true) = (putI ks k).map fun k => (Sum.inl k, V.bl true) := by
  have ea : ((ks.map fun k => ((Sum.inl k : Key), V.bl true)).any fun kv => decide (kv.1 = Sum.inl k)) = decide (k ∈ ks) := by
    rw [List.any_map, Bool.eq_iff_iff]
    simp
  unfold putK putI
  rw [ea]
  by_cases h : k ∈ ks
  · rw [if_pos (decide_eq_true h), if_pos h, List.map_map]
    refine List.map_congr_left fun j _ => ?_
    show (if (Sum.inl j : Key) = Sum.inl k then ((Sum.inl j : Key), V.bl true) else (Sum.inl j, V.bl true)) = _
    split <;> rfl
  · rw [if_neg (by simpa using h), if_neg h, List.map_append]
    rfl
theorem mapInl_inj : ∀ {a b : List Int}, a.map (Sum.inl : Int → Key) = b.map Sum.inl → a = b
  | [], [], _ => rfl
  | [], _ :: _, h => by cases h
  | _ :: _, [], h => by cases h
  | x :: a, y :: b, h => by
    injection h with h1 h2
    cases h1
    rw [mapInl_inj h2]
theorem putL_put (ks : List (List Int)) (k : List Int) : putK (ks.map fun k => ((k.map Sum.inl : List Key), V.bl true)) (k.map Sum.inl) (V.bl true) = (putL ks k).map fun k => (k.map Sum.inl, V.bl true) := by
  have ea : ((ks.map fun k => ((k.map Sum.inl : List Key), V.bl true)).any fun kv => decide (kv.1 = k.map Sum.inl)) = decide (k ∈ ks) := by
    rw [List.any_map, Bool.eq_iff_iff]
    simp only [List.any_eq_true, Function.comp_apply, decide_eq_true_eq]
    constructor
    · rintro ⟨j, hj, e⟩
      rw [← mapInl_inj e]; exact hj
    · exact fun h => ⟨k, h, rfl⟩
  unfold putK putL
  rw [ea]
  by_cases h : k ∈ ks
  · rw [if_pos (decide_eq_true h), if_pos h, List.map_map]
    refine List.map_congr_left fun j _ => ?_
    show (if (j.map Sum.inl : List Key) = k.map Sum.inl then ((j.map Sum.inl : List Key), V.bl true) else (j.map Sum.inl, V.bl true)) = _
    split <;> rfl
  · rw [if_neg (by simpa using h), if_neg h, List.map_append]
    rfl
/-- d[k] = True, int keys -/
theorem xs_putI (i : Nat) {ad : Addr} {ks : List Int} (h : ρ[i]? = some (.ok ad ks)) (hp : PE X (.Name nm p') (tVar i)) (he : XE X ρ e Φ) (hd : ∀ r, Φ r → ∃ k, r = .d (.int k)) (hl : ks.length < 100000) (hu : X.A.units + 1 < cLine) {spos : Pos} {jj : Nat} {bpos : Pos}
    (hs : swapsWith (.Constant (.bool true) jj bpos) (some (.Subscript (.Name nm p') e spos)) pos.line X.env = pure false := by rfl) :
    XS X ρ (.Assign [.Subscript (.Name nm p') e spos] (.Constant (.bool true) jj bpos) pos) (fun ρ' => ∃ k, Φ (.d (.int k)) ∧ ρ' = ρ.set i (.ok ad (putI ks k))) R :=
  PS.imp (ps_dput hu hp he pe_bl hs) fun D σ H ⟨G0, G, l, s0, S, nx, rt⟩ => by
    obtain ⟨e1, n, e0⟩ := S.slot i _ h
    refine ⟨_, join_some.mp e1, G, S, fun v H' r e2 r2 p2 => ?_⟩
    obtain ⟨k, rfl⟩ := hd r p2
    have S' := S.mono e2
    obtain ⟨_, n', e0'⟩ := S'.slot i _ h
    cases Im.int_inv r2
    refine ⟨ad, _, rfl, DPut.k (k := Sum.inl k) e0' (by rw [List.length_map]; exact sz_lt hl), nx G σ _ _ (Le.refl G) (S'.write i (r := .ok ad (putI ks k)) (own_ok h) (fun _ z => nomatch z) (fun _ => ⟨rfl, n', by rw [upd_same, putI_put]⟩) rfl) ⟨k, p2, rfl⟩⟩
theorem Ims.keys {H : Hp} {k : List Int} {xs : List V} (r : Ims H (k.map PyData.int) xs) : xs = (k.map (Sum.inl : Int → Key)).map kV := by
  rw [r.ints, List.map_map]; rfl
/-- d[k] = True, keys of tuples of ints -/
theorem xs_putL (i : Nat) {ad : Addr} {ks : List (List Int)} (h : ρ[i]? = some (.ot ad ks)) (hp : PE X (.Name nm p') (tVar i)) (he : XE X ρ e Φ) (hd : ∀ r, Φ r → ∃ k : List Int, r = .d (.tuple (k.map PyData.int))) (hl : ks.length < 100000) (hu : X.A.units + 1 < cLine) {spos : Pos} {jj : Nat} {bpos : Pos}
    (hs : swapsWith (.Constant (.bool true) jj bpos) (some (.Subscript (.Name nm p') e spos)) pos.line X.env = pure false := by rfl) :
    XS X ρ (.Assign [.Subscript (.Name nm p') e spos] (.Constant (.bool true) jj bpos) pos) (fun ρ' => ∃ k : List Int, Φ (.d (.tuple (k.map PyData.int))) ∧ ρ' = ρ.set i (.ot ad (putL ks k))) R :=
  PS.imp (ps_dput hu hp he pe_bl hs) fun D σ H ⟨G0, G, l, s0, S, nx, rt⟩ => by
    obtain ⟨e1, n, e0⟩ := S.slot i _ h
    refine ⟨_, join_some.mp e1, G, S, fun v H' r e2 r2 p2 => ?_⟩
    obtain ⟨k, rfl⟩ := hd r p2
    have S' := S.mono e2
    obtain ⟨_, n', e0'⟩ := S'.slot i _ h
    obtain ⟨t, xs, rfl, h1, h2⟩ := Im.tup_inv r2
    rw [h2.keys] at h1
    refine ⟨ad, _, rfl, DPut.t e0' h1 (by rw [List.length_map]; exact sz_lt hl), nx G σ _ _ (Le.refl G) (S'.write i (r := .ot ad (putL ks k)) (own_ot h) (fun _ z => nomatch z) (fun _ => ⟨rfl, n', by rw [upd_same, putL_put]⟩) rfl) ⟨k, p2, rfl⟩⟩
/-- x = {} -/
theorem xs_newK (i : Nat) {kk vv} (hN : X.N.Nodup) (hk : kk = [] := by rfl) (hv : vv = [] := by rfl) (hi : X.N[i]? = some nm := by rfl) (hx : Loc X.env.scope nm := by first | exact Or.inl rfl | exact Or.inr rfl)
    {p2 : Pos} (hs2 : swapsWith (.Dict kk vv p2) (some (.Name nm p')) pos.line X.env = pure false := by rfl) (hf : X.fn nm = true ∨ X.env.scope.names.lookup nm = some .local := by first | exact .inl rfl | exact .inr rfl) :
    XS X ρ (.Assign [.Name nm p'] (.Dict kk vv p2) pos) (fun ρ' => ∃ ad, ρ' = ρ.set i (.ok ad [])) R := by
  subst hk; subst hv
  exact PS.imp (ps_set hN hi hx pe_dnewK hs2 hf) fun D σ H ⟨G0, G, l, s0, S, nx, rt⟩ => fun p np => by
    refine nx G _ _ _ (Le.refl G) (((S.mono (Ext.new S.strm np))).set i (r := .ok p []) ⟨rfl, S.fresh0 np, upd_same⟩ fun b eb j hj => ?_) ⟨p, rfl⟩
    cases eb
    obtain ⟨_, _, u, hu, _⟩ := S.owned hj
    rw [np] at hu; cases hu
theorem xs_newT (i : Nat) {kk vv} (hN : X.N.Nodup) (hk : kk = [] := by rfl) (hv : vv = [] := by rfl) (hi : X.N[i]? = some nm := by rfl) (hx : Loc X.env.scope nm := by first | exact Or.inl rfl | exact Or.inr rfl)
    {p2 : Pos} (hs2 : swapsWith (.Dict kk vv p2) (some (.Name nm p')) pos.line X.env = pure false := by rfl) (hf : X.fn nm = true ∨ X.env.scope.names.lookup nm = some .local := by first | exact .inl rfl | exact .inr rfl) :
    XS X ρ (.Assign [.Name nm p'] (.Dict kk vv p2) pos) (fun ρ' => ∃ ad, ρ' = ρ.set i (.ot ad [])) R := by
  subst hk; subst hv
  exact PS.imp (ps_set hN hi hx pe_dnewT hs2 hf) fun D σ H ⟨G0, G, l, s0, S, nx, rt⟩ => fun p np => by
    refine nx G _ _ _ (Le.refl G) (((S.mono (Ext.new S.strm np))).set i (r := .ot p []) ⟨rfl, S.fresh0 np, upd_same⟩ fun b eb j hj => ?_) ⟨p, rfl⟩
    cases eb
    obtain ⟨_, _, u, hu, _⟩ := S.owned hj
    rw [np] at hu; cases hu

/-! ### loops -/
/-- all but what is owned is put under the ghost -/
noncomputable def reb (G : Gh) (ρ : List SD) (H : Hp) : Gh := ⟨fun a => by classical exact if ∃ i, ownAt ρ i = some a then none else H a, G.so, G.B⟩
theorem reb_le {G : Gh} {H : Hp} {σ : L2.St} (S : StOk G H σ ρ) : Le G (reb G ρ H) := ⟨rfl, fun a u h n => by
  classical
  show (if ∃ i, ownAt ρ i = some a then none else H a) = some u
  rw [if_neg (fun ⟨i, e⟩ => by rw [(S.owned e).1] at h; cases h)]
  exact S.base a u h n, rfl⟩
theorem reb_prot {G : Gh} {H : Hp} {a : Addr} {u : HO} (h : H a = some u) (hn : ∀ i, ownAt ρ i ≠ some a) : (reb G ρ H).H0 a = some u := by
  classical
  show (if ∃ i, ownAt ρ i = some a then none else H a) = some u
  rw [if_neg (fun ⟨i, e⟩ => hn i e)]
  exact h
theorem reb_ok {G : Gh} {H : Hp} {σ : L2.St} (S : StOk G H σ ρ) : StOk (reb G ρ H) H σ ρ := by
  classical
  have hno : ∀ {a}, (∃ i, ownAt ρ i = some a) → (reb G ρ H).H0 a = none := fun h => if_pos h
  have hb : ∀ {a u}, (reb G ρ H).H0 a = some u → H a = some u := fun {a u} h => by
    by_cases hx : ∃ i, ownAt ρ i = some a
    · rw [hno hx] at h; cases h
    · have h' : (if ∃ i, ownAt ρ i = some a then Option.none else H a) = some u := h
      rwa [if_neg hx] at h'
  have hbs : ∀ a, (reb G ρ H).H0 a = none → G.B a = none := fun a h => by
    refine S.bsub a ?_
    by_cases hx : ∃ i, ownAt ρ i = some a
    · obtain ⟨i, e⟩ := hx
      exact (S.owned e).1
    · have h' : (if ∃ i, ownAt ρ i = some a then Option.none else H a) = none := h
      rw [if_neg hx] at h'
      exact S.fresh0 h'
  refine ⟨S.len, fun a u h _ => hb h, S.strm, fun l sl e => ?_, fun i r h => ?_, S.apart, hbs⟩
  · obtain ⟨h1, ⟨ws, h2⟩, c, k, h3, h4⟩ := S.strm l sl e
    have q := S.sin l sl e
    have n1 : ∀ i, ownAt ρ i ≠ some l := fun i z => q.1 (S.owned z).1
    have n2 : ∀ i, ownAt ρ i ≠ some sl := fun i z => q.2 (S.owned z).1
    exact ⟨(by rw [reb_prot h3 n1]; exact fun z => nomatch z), (by rw [reb_prot h2 n2]; exact fun z => nomatch z)⟩
  · have s := S.slot i r h
    cases r with
    | no => trivial
    | d x => exact s
    | l ds =>
      obtain ⟨a, xs, e1, e2, e3, h1⟩ := s
      exact ⟨a, xs, e1, reb_prot (S.base a _ e2 e3) (fun j z => by rw [(S.owned z).1] at e2; cases e2), e3, h1⟩
    | ol a ds => obtain ⟨e1, n, q⟩ := s; exact ⟨e1, hno ⟨i, own_ol h⟩, q⟩
    | ok a ks => obtain ⟨e1, n, q⟩ := s; exact ⟨e1, hno ⟨i, own_ok h⟩, q⟩
    | ot a ks => obtain ⟨e1, n, q⟩ := s; exact ⟨e1, hno ⟨i, own_ot h⟩, q⟩
    | st ns =>
      obtain ⟨l, sl, e1, e2, e3, e4⟩ := s
      exact ⟨l, sl, e1, e2, reb_prot (S.base sl _ e3 (notS e1 e4)) (fun j z => by rw [(S.owned z).1] at e3; cases e3), e4⟩
    | rf a => exact s
    | l2 qs =>
      obtain ⟨a, rs, e1, e2, e3, h1⟩ := s
      exact ⟨a, rs, e1, reb_prot (S.base a _ e2 e3) (fun j z => by rw [(S.owned z).1] at e2; cases e2), e3, h1.1, fun i q eq => let ⟨b, xs, q1, q2, q3, q4⟩ := h1.2 i q eq; ⟨b, xs, q1, reb_prot (S.base b _ q2 q3) (fun j z => by rw [(S.owned z).1] at q2; cases q2), q3, q4⟩⟩
    | o2 a qs =>
      obtain ⟨e1, n, rs, e2, h1⟩ := s
      exact ⟨e1, hno ⟨i, by unfold ownAt; rw [h]; rfl⟩, rs, e2, ⟨h1.1.1, fun i q eq => let ⟨b, xs, q1, q2, q3, q4⟩ := h1.1.2 i q eq; ⟨b, xs, q1, reb_prot (S.base b _ q2 q3) (fun j z => by rw [(S.owned z).1] at q2; cases q2), q3, q4⟩⟩, h1.2⟩
theorem xs_for {Φ : List PyData → Prop} {g : TG} {ok : PyData → Prop} {f : PyData → List SD → List SD} {is : List Nat} (I : List PyData → Nat → List SD → Prop) (hi : XI X ρ tg iter Φ) (hg : PG X tg g) (sg : SG g ok f is)
    (h0 : ∀ ds, Φ ds → I ds 0 ρ) (hb : ∀ ds (i : Nat) d ρ', Φ ds → ds[i]? = some d → I ds i ρ' → ok d ∧ XSs X (f d ρ') body (I ds (i + 1)) R) (hn : ∀ ds ρ', Φ ds → I ds ds.length ρ' → N ρ')
    (hc : X.calm = true := by rfl) (hp : PassesOwn (model X.prog X.w) X.A X.env X.xe := by exact PassesOwn.never) (hs : ∀ x, foldedSetIterable iter X.env x = pure x := by intro _; rfl) : XS X ρ (.For tg iter body [] pos) N R :=
  PS.imp (ps_for hp hc hi hg (PSs.uni (ι := List PyData × Nat × PyData × List SD) (t := fun z => tS (f z.2.2.1 z.2.2.2) (I z.1 (z.2.1 + 1)) R) (P := fun z => Φ z.1 ∧ z.1[z.2.1]? = some z.2.2.1 ∧ I z.1 z.2.1 z.2.2.2)
      fun z hz => (hb z.1 z.2.1 z.2.2.1 z.2.2.2 hz.1 hz.2.1 hz.2.2).2) hs) fun D σ H ⟨G0, G, l, s0, S, nx, rt⟩ => ⟨G, S, fun J H' ds Gd e1 hp hG w => by
    have S1 := S.mono e1
    have l1 : Le G (reb G ρ H') := reb_le S1
    refine ⟨fun i m σ2 H2 => m = ds.length - i ∧ i ≤ ds.length ∧ ∃ G2 ρ', Le (reb G ρ H') G2 ∧ StOk G2 H2 σ2 ρ' ∧ I ds i ρ', ⟨ds.length, by simp, Nat.zero_le _, _, ρ, Le.refl _, reb_ok S1, h0 ds hp⟩, ?_⟩
    rintro i m σ2 H2 ⟨rfl, hle, G2, ρ', l2, S2, hI⟩
    have gd : Gd H2 := hG H2 fun a u h n ho => by
      have ns : ¬ isS (reb G ρ H') a := fun z => n z
      exact S2.base a u (l2.2.1 a u (reb_prot h ho) ns) fun z => ns (l2.isS.mp z)
    obtain ⟨go, stop⟩ := w H2 gd i
    by_cases hlt : i < ds.length
    · obtain ⟨g1, g2⟩ := go _ (List.getElem?_eq_getElem hlt)
      refine .inr ⟨g1, fun σ3 H3 => ∃ G3 ρ3, Le (reb G ρ H') G3 ∧ StOk G3 H3 σ3 ρ3 ∧ I ds (i + 1) ρ3, fun σ3 H3 q => ⟨ds.length - (i + 1), by omega, rfl, hlt, q⟩, fun v H3 y => ?_⟩
      obtain ⟨sm, iv⟩ := g2 v H3 y
      have S3 := S2.mono (Ext.same S2.strm sm)
      refine sg.run G2 H3 σ2 ρ' _ v _ (hb ds i _ ρ' hp (List.getElem?_eq_getElem hlt) hI).1 S3 iv fun σ4 S4 _ => ?_
      exact ⟨(ds, i, ds[i], ρ'), ⟨hp, List.getElem?_eq_getElem hlt, hI⟩, G0, G2, l.trans (l1.trans l2), s0, S4, fun G' σ' H'' ρ'' l' S' n => ⟨G', ρ'', l2.trans l', S', n⟩, rt⟩
    · have e : i = ds.length := by omega
      subst e
      exact .inl ⟨stop (Nat.le_refl _), nx G2 σ2 H2 ρ' (l1.trans l2) S2 (hn ds ρ' hp hI)⟩⟩
end
end PL

-- PLg
/-! PLg: more loops, comprehensions, calls. -/
namespace PL
open PySem PySem.Spec PyProof.Rows L2
abbrev ownS (own : List (Str × Nat)) : List Nat := own.map (fun p => p.2)
section
variable {X : Cx} {st : Stmt} {rest A B body : List Stmt} {ρ : List SD} {N M : List SD → Prop} {R : SD → Prop} {e a b c tg iter : Expr} {Φ Ψ Θ : SD → Prop} {pos p' : Pos} {nm : Str}
theorem xs_forD {ds : List PyData} {g : TG} {ok : PyData → Prop} {f : PyData → List SD → List SD} {is : List Nat} (I : Nat → List SD → Prop) (hi : XI X ρ tg iter (fun z => z = ds)) (hg : PG X tg g) (sg : SG g ok f is)
    (h0 : I 0 ρ) (hb : ∀ (i : Nat) d ρ', ds[i]? = some d → I i ρ' → ok d ∧ XSs X (f d ρ') body (I (i + 1)) R) (hn : ∀ ρ', I ds.length ρ' → N ρ')
    (hc : X.calm = true := by rfl) (hp : PassesOwn (model X.prog X.w) X.A X.env X.xe := by exact PassesOwn.never) (hs : ∀ x, foldedSetIterable iter X.env x = pure x := by intro _; rfl) : XS X ρ (.For tg iter body [] pos) N R :=
  xs_for (fun _ i ρ' => I i ρ') hi hg sg (fun _ _ => h0) (fun ds' i d ρ' e hd hI => by subst e; exact hb i d ρ' hd hI) (fun ds' ρ' e hI => by subst e; exact hn ρ' hI) hc hp hs
/-- over an own list, which the body leaves -/
theorem xs_forO (j : Nat) {ad : Addr} {ds : List PyData} {g : TG} {ok : PyData → Prop} {f : PyData → List SD → List SD} {is : List Nat} (I : Nat → List SD → Prop) (hj : ρ[j]? = some (.ol ad ds)) (hpj : PE X (.Name nm p') (tVar j)) (hg : PG X tg g) (sg : SG g ok f is)
    (h0 : I 0 ρ) (hk : ∀ (i : Nat) ρ', I i ρ' → ρ'[j]? = some (.ol ad ds)) (hb : ∀ (i : Nat) d ρ', ds[i]? = some d → I i ρ' → ok d ∧ XSs X (f d ρ') body (I (i + 1)) R) (hn : ∀ ρ', I ds.length ρ' → N ρ')
    (hc : X.calm = true := by rfl) (hp : PassesOwn (model X.prog X.w) X.A X.env X.xe := by exact PassesOwn.never) (hs : ∀ x, foldedSetIterable (.Name nm p') X.env x = pure x := by intro _; rfl) : XS X ρ (.For tg (.Name nm p') body [] pos) N R :=
  PS.imp (ps_for hp hc (pi_list hpj) hg (PSs.uni (ι := Nat × PyData × List SD) (t := fun z => tS (f z.2.1 z.2.2) (I (z.1 + 1)) R) (P := fun z => ds[z.1]? = some z.2.1 ∧ I z.1 z.2.2) fun z hz => (hb z.1 z.2.1 z.2.2 hz.1 hz.2).2) hs) fun D σ H ⟨G0, G, l, s0, S, nx, rt⟩ => by
    obtain ⟨e1, n, xs, e0, r⟩ := S.slot j _ hj
    refine ⟨_, join_some.mp e1, ad, rfl, ⟨xs, SqL.of e0⟩, fun i m σ2 H2 => m = ds.length - i ∧ i ≤ ds.length ∧ ∃ G2 ρ', Le G G2 ∧ StOk G2 H2 σ2 ρ' ∧ I i ρ', ⟨ds.length, by simp, Nat.zero_le _, G, ρ, Le.refl _, S, h0⟩, ?_⟩
    rintro i m σ2 H2 ⟨rfl, hle, G2, ρ', l2, S2, hI⟩
    obtain ⟨_, _, xs', e0', r'⟩ := S2.slot j _ (hk i ρ' hI)
    obtain ⟨go, stop⟩ := wk_list (K := X.K) (ds := ds) H2 ⟨xs', e0', r'⟩ i
    by_cases hlt : i < ds.length
    · obtain ⟨g1, g2⟩ := go _ (List.getElem?_eq_getElem hlt)
      refine .inr ⟨g1, fun σ3 H3 => ∃ G3 ρ3, Le G G3 ∧ StOk G3 H3 σ3 ρ3 ∧ I (i + 1) ρ3, fun σ3 H3 q => ⟨ds.length - (i + 1), by omega, rfl, hlt, q⟩, fun v H3 y => ?_⟩
      obtain ⟨sm, iv⟩ := g2 v H3 y
      have S3 := S2.mono (Ext.same S2.strm sm)
      refine sg.run G2 H3 σ2 ρ' _ v _ (hb i _ ρ' (List.getElem?_eq_getElem hlt) hI).1 S3 iv fun σ4 S4 _ => ?_
      exact ⟨(i, ds[i], ρ'), ⟨List.getElem?_eq_getElem hlt, hI⟩, G0, G2, l.trans l2, s0, S4, fun G' σ' H'' ρ'' l' S' n => ⟨G', ρ'', l2.trans l', S', n⟩, rt⟩
    · have e : i = ds.length := by omega
      subst e
      exact .inl ⟨stop (Nat.le_refl _), nx G2 σ2 H2 ρ' l2 S2 (hn ρ' hI)⟩
theorem xs_while (I : Nat → List SD → Prop) (m0 : Nat) (h0 : I m0 ρ) (hs : ∀ m ρ', I m ρ' → ∃ b, XB X ρ' c b ∧ (b = true → XSs X ρ' body (fun ρ'' => ∃ m', m' < m ∧ I m' ρ'') R) ∧ (b = false → N ρ'))
    (hp : PassesOwn (model X.prog X.w) X.A X.env X.xe := by exact PassesOwn.never) : XS X ρ (.While c body [] pos) N R :=
  PS.imp (ps_while hp (PT.uni (ι := Nat × List SD × Bool) (t := fun z => tT z.2.1 (fun r => r = z.2.2)) (P := fun z => I z.1 z.2.1 ∧ XB X z.2.1 c z.2.2) fun z hz => hz.2)
      (PSs.uni (ι := Nat × List SD) (t := fun z => tS z.2 (fun ρ'' => ∃ m', m' < z.1 ∧ I m' ρ'') R) (P := fun z => XSs X z.2 body (fun ρ'' => ∃ m', m' < z.1 ∧ I m' ρ'') R) fun z hz => hz)) fun D σ H ⟨G0, G, l, s0, S, nx, rt⟩ => by
    refine ⟨fun m σ2 H2 => ∃ G2 ρ', Le G G2 ∧ StOk G2 H2 σ2 ρ' ∧ I m ρ', ⟨m0, G, ρ, Le.refl _, S, h0⟩, ?_⟩
    rintro m σ2 H2 ⟨G2, ρ', l2, S2, hI⟩
    obtain ⟨b, hb, h1, h2⟩ := hs m ρ' hI
    refine ⟨(m, ρ', b), ⟨hI, hb⟩, G2, S2, fun t H3 e3 ht => ?_⟩
    have ht : t = b := ht
    subst ht
    cases t with
    | true => exact iteT ⟨fun σ3 H3 => ∃ m', m' < m ∧ ∃ G3 ρ3, Le G G3 ∧ StOk G3 H3 σ3 ρ3 ∧ I m' ρ3, fun σ3 H3 q => q, (m, ρ'), h1 rfl, G0, G2, l.trans l2, s0, S2.mono e3, fun G' σ' H'' ρ'' l' S' ⟨m', hm, hi⟩ => ⟨m', hm, G', ρ'', l2.trans l', S', hi⟩, rt⟩
    | false => exact iteF (nx G2 σ2 H3 ρ' l2 (S2.mono e3) (h2 rfl))

/-! ### comprehensions -/
variable {elt : Expr} {scope : Scope} {own : List (Str × Nat)} {spos : Pos} {py : Pos}
/-- what a comprehension's reading needs, from the items' -/
theorem lc_tF {Φ : List PyData → Prop} {Ψ : List PyData → Prop} {g : TG} {ok : PyData → Prop} {f : PyData → List SD → List SD} {is vs : List Nat} (sg : SG g ok f is) (his : ∀ i ∈ is, i ∈ vs)
    (P : List PyData → Nat → List PyData → Prop) (tt : TT) (te : TE) (h0 : ∀ ds, Φ ds → P ds 0 []) (hl : ∀ ds, Φ ds → ds.length ≤ 50000)
    (hok : ∀ ds (i : Nat) d out, Φ ds → ds[i]? = some d → P ds i out → ok d)
    (htt : ∀ ds (i : Nat) d out, Φ ds → ds[i]? = some d → P ds i out → ∃ t : Bool, (∀ σ H Q, tT (f d (wipeR ρ vs)) (fun r => r = t) σ H Q → tt σ H Q) ∧
      (t = true → ∃ Θ : SD → Prop, (∀ σ H Q, tE (f d (wipeR ρ vs)) Θ σ H Q → te σ H Q) ∧ ∀ r, Θ r → ∃ z, r = .d z ∧ P ds (i + 1) (out ++ [z])) ∧ (t = false → P ds (i + 1) out))
    (hn : ∀ ds out, Φ ds → P ds ds.length out → Ψ out) {σ : L2.St} {H : Hp} {Q : VK} (h : tF ρ Ψ σ H Q) : tLc (tIc ρ Φ) g tt te vs σ H Q := by
  obtain ⟨G, S, q⟩ := h
  refine ⟨G, S, fun J H1 ds Gd e1 hp hG w D nD => ?_⟩
  have S1 := S.mono e1
  have nD0 : G.H0 D = none := S1.fresh0 nD
  have nDs : ¬ isS G D := fun ⟨sl, es⟩ => by
    obtain ⟨_, _, c, k, h3, _⟩ := S1.strm D sl es
    rw [nD] at h3; cases h3
  have noD : ∀ i, ownAt (wipeR ρ vs) i ≠ some D := fun i z => by
    obtain ⟨_, _, u, hu, _⟩ := (S1.wipe vs).owned z
    rw [nD] at hu; cases hu
  refine ⟨fun i m H2 => m = ds.length - i ∧ i ≤ ds.length ∧ StOk G H2 (L2.wipe σ vs) (wipeR ρ vs) ∧ Ext G H1 H2 ∧ ∃ out acc, out.length ≤ i ∧ H2 D = some (.lst acc) ∧ Ims H2 out acc ∧ P ds i out,
    ⟨ds.length, by simp, Nat.zero_le _, (S1.wipe vs).mono (Ext.new e1.strm nD), Ext.new e1.strm nD, [], [], Nat.le_refl _, upd_same, .nil, h0 ds hp⟩, ?_⟩
  rintro i m H2 ⟨rfl, hle, S2, e2, out, acc, ho, hD, him, hP⟩
  obtain ⟨go, stop⟩ := w H2 (hG H2 e2) i
  by_cases hlt : i < ds.length
  · have hd := List.getElem?_eq_getElem hlt
    obtain ⟨g1, g2⟩ := go _ hd
    refine .inr ⟨g1, fun H3 => i + 1 ≤ ds.length ∧ StOk G H3 (L2.wipe σ vs) (wipeR ρ vs) ∧ Ext G H1 H3 ∧ ∃ out acc, out.length ≤ i + 1 ∧ H3 D = some (.lst acc) ∧ Ims H3 out acc ∧ P ds (i + 1) out, fun H3 q => ⟨ds.length - (i + 1), by omega, rfl, q⟩, fun v H3 y => ?_⟩
    obtain ⟨sm, iv⟩ := g2 v H3 y
    have e3 : Ext G H2 H3 := Ext.same S2.strm sm
    refine sg.run G H3 _ _ _ v _ (hok ds i _ out hp hd hP) (S2.mono e3) iv fun σ4 S4 hw => ?_
    refine ⟨by rw [hw vs his, wipe_idem], ?_⟩
    obtain ⟨t, ht, h1, h2⟩ := htt ds i _ out hp hd hP
    refine ht _ _ _ ⟨G, S4, fun t' H4 e4 ht' => ?_⟩
    have ht' : t' = t := ht'
    subst ht'
    have e24 := e3.trans e4
    cases t' with
    | false => exact iteF ⟨hlt, S2.mono e24, e2.trans e24, out, acc, by omega, e24.keep _ _ hD nDs, him.mono e24.tups, h2 rfl⟩
    | true =>
      obtain ⟨Θ, hΘ, hz⟩ := h1 rfl
      refine iteT (hΘ _ _ _ ⟨G, S4.mono e4, fun z H5 r e5 r5 p5 => ?_⟩)
      obtain ⟨x, rfl, hP'⟩ := hz r p5
      have e25 := e24.trans e5
      have hD5 := e25.keep _ _ hD nDs
      have him5 := him.mono e25.tups
      refine ⟨acc, hD5, sz_lt (by rw [him.len]; have := hl ds hp; omega), hlt, (S2.mono e25).other nD0 hD5 trivial noD, ?_, out ++ [x], acc ++ [z], by rw [List.length_append]; exact Nat.succ_le_succ ho, upd_same, ?_, hP'⟩
      · have e15 := e2.trans e25
        have ne : ∀ c u, H1 c = some u → c ≠ D := fun c u hc zz => by subst zz; rw [nD] at hc; cases hc
        refine ⟨fun c u hc hs => by rw [upd_ne (ne c u hc)]; exact e15.keep c u hc hs, ((S2.mono e25).other (o := .lst (acc ++ [z])) nD0 hD5 trivial noD).strm, fun c xs hc => by rw [upd_ne (ne c _ hc)]; exact e15.tups c xs hc⟩
      · refine (him5.app (.one r5)).mono fun c xs hc => ?_
        rw [upd_ne (fun zz => by subst zz; rw [hD5] at hc; cases hc)]
        exact hc
  · have e : i = ds.length := by omega
    subst e
    exact .inl ⟨stop (Nat.le_refl _), q D acc H2 out (Ext.fresh S.strm e1 nD) (e1.trans e2) hD him (hn ds out hp hP)⟩
/-- the premises of a comprehension without a test, whatever stands around it -/
structure LcN (X : Cx) (ρ : List SD) (tg iter elt : Expr) (scope : Scope) (own : List (Str × Nat)) (Ψ : List PyData → Prop) : Prop where
  ex : ∃ (Φ : List PyData → Prop) (g : TG) (ok : PyData → Prop) (f : PyData → List SD → List SD) (is : List Nat) (P : List PyData → Nat → List PyData → Prop),
    XIc X ρ tg iter Φ ∧ SG g ok f is ∧ (∀ i ∈ is, i ∈ ownS own) ∧
    (∀ (s : Shared) (H : Hp) (C : Addr) (cl : List (Str × Addr)) (fp : List Addr), PG (X.blk s H scope (compEnvC scope cl C X.env) fp) tg g) ∧
    (∀ ds, Φ ds → P ds 0 [] ∧ ds.length ≤ 50000) ∧
    (∀ ds (i : Nat) d out, Φ ds → ds[i]? = some d → P ds i out → ok d ∧ ∃ Θ : SD → Prop,
      (∀ (s : Shared) (H : Hp) (C : Addr) (cl : List (Str × Addr)) (fp : List Addr), XE (X.blk s H scope (compEnvC scope cl C X.env) fp) (f d (wipeR ρ (ownS own))) elt Θ) ∧ ∀ r, Θ r → ∃ z, r = .d z ∧ P ds (i + 1) (out ++ [z])) ∧
    (∀ ds out, Φ ds → P ds ds.length out → Ψ out)
theorem xf_lcN {Ψ : List PyData → Prop} (L : LcN X ρ tg iter elt scope own Ψ) (hN : X.N.Nodup) (ok : BlkOk X.N X.env.scope scope own) (hc : X.calm = true := by rfl) (hs : ∀ x, foldedSetIterable iter X.env x = pure x := by intro _; rfl) :
    XF X ρ (.ListComp elt [⟨tg, iter, [], 0⟩] scope pos) Ψ := by
  obtain ⟨Φ, g, okd, f, is, P, hi, sg, his, hg, h0, hb, hn⟩ := L.ex
  refine PE.imp (pe_lc hc hN hi ok hg (fun _ _ _ _ _ => pts_nil) (fun s H C cl fp => PE.uni (ι := List PyData × Nat × PyData × List PyData × (SD → Prop)) (t := fun z => tE (f z.2.2.1 (wipeR ρ (ownS own))) z.2.2.2.2)
    (P := fun z => ∀ (s : Shared) (H : Hp) (C : Addr) (cl : List (Str × Addr)) (fp : List Addr), XE (X.blk s H scope (compEnvC scope cl C X.env) fp) (f z.2.2.1 (wipeR ρ (ownS own))) elt z.2.2.2.2) fun z hz => hz s H C cl fp) hs) fun σ H Q h => ?_
  refine lc_tF (P := P) sg his _ _ (fun ds hd => (h0 ds hd).1) (fun ds hd => (h0 ds hd).2) (fun ds i d out a b c => (hb ds i d out a b c).1) (fun ds i d out hp hd hP => ?_) hn h
  obtain ⟨_, Θ, hΘ, hz⟩ := hb ds i d out hp hd hP
  exact ⟨true, fun σ H Q ⟨G, S, q⟩ => q true H (Ext.refl S.strm) rfl, fun _ => ⟨Θ, fun σ H Q q => ⟨(ds, i, d, out, Θ), hΘ, q⟩, hz⟩, fun z => nomatch z⟩
/-- x = [..] on one line -/
theorem xs_setLcN (i : Nat) {Ψ : List PyData → Prop} (L : LcN X ρ tg iter elt scope own Ψ) (hN : X.N.Nodup) (ok : BlkOk X.N X.env.scope scope own) (hsw : swapsWith (.ListComp elt [⟨tg, iter, [], 0⟩] scope pos) (some (.Name nm py)) spos.line X.env = pure true)
    (hy : X.N[i]? = some nm := by rfl) (hyl : X.env.scope.names.lookup nm = some .local := by rfl) (hc : X.calm = true := by rfl) (hs : ∀ x, foldedSetIterable iter X.env x = pure x := by intro _; rfl) :
    XS X ρ (.Assign [.Name nm py] (.ListComp elt [⟨tg, iter, [], 0⟩] scope pos) spos) (fun ρ' => ∃ ad ds, Ψ ds ∧ ρ' = ρ.set i (.ol ad ds)) R := by
  obtain ⟨Φ, g, okd, f, is, P, hi, sg, his, hg, h0, hb, hn⟩ := L.ex
  refine PS.imp (ps_setLc hc hN hy hyl hsw hi ok hg (fun _ _ _ _ _ => pts_nil) (fun s H C cl fp => PE.uni (ι := List PyData × Nat × PyData × List PyData × (SD → Prop)) (t := fun z => tE (f z.2.2.1 (wipeR ρ (ownS own))) z.2.2.2.2)
    (P := fun z => ∀ (s : Shared) (H : Hp) (C : Addr) (cl : List (Str × Addr)) (fp : List Addr), XE (X.blk s H scope (compEnvC scope cl C X.env) fp) (f z.2.2.1 (wipeR ρ (ownS own))) elt z.2.2.2.2) fun z hz => hz s H C cl fp) hs) fun D σ H ⟨G0, G, l, s0, S, nx, rt⟩ => ?_
  refine lc_tF (P := P) sg his _ _ (fun ds hd => (h0 ds hd).1) (fun ds hd => (h0 ds hd).2) (fun ds i d out a b c => (hb ds i d out a b c).1) (fun ds i d out hp hd hP => ?_) hn ⟨G, S, fun ad xs H' ds n e1 h1 h2 p1 => nx G _ H' _ (Le.refl G) (S.set_new e1 i n h1 h2) ⟨ad, ds, p1, rfl⟩⟩
  obtain ⟨_, Θ, hΘ, hz⟩ := hb ds i d out hp hd hP
  exact ⟨true, fun σ H Q ⟨G, S, q⟩ => q true H (Ext.refl S.strm) rfl, fun _ => ⟨Θ, fun σ H Q q => ⟨(ds, i, d, out, Θ), hΘ, q⟩, hz⟩, fun z => nomatch z⟩
/-- known items, a known value each -/
theorem lcD {ds : List PyData} {g : TG} {ok : PyData → Prop} {f : PyData → List SD → List SD} {is : List Nat} (F : PyData → PyData) (hi : XIc X ρ tg iter (fun z => z = ds)) (sg : SG g ok f is)
    (hg : ∀ (s : Shared) (H : Hp) (C : Addr) (cl : List (Str × Addr)) (fp : List Addr), PG (X.blk s H scope (compEnvC scope cl C X.env) fp) tg g)
    (he : ∀ d, d ∈ ds → ok d ∧ ∀ (s : Shared) (H : Hp) (C : Addr) (cl : List (Str × Addr)) (fp : List Addr), XD (X.blk s H scope (compEnvC scope cl C X.env) fp) (f d (wipeR ρ (ownS own))) elt (F d))
    (hl : ds.length ≤ 50000) (his : ∀ i ∈ is, i ∈ ownS own := by decide) : LcN X ρ tg iter elt scope own (fun z => z = ds.map F) :=
  ⟨⟨fun z => z = ds, g, ok, f, is, fun ds' i out => out = (ds'.take i).map F, hi, sg, his, hg, fun ds' e => ⟨by simp, by rw [e]; exact hl⟩, fun ds' i d out e hd ho => by
    subst e
    obtain ⟨h1, h2⟩ := he d (List.mem_of_getElem? hd)
    refine ⟨h1, _, h2, fun r hr => ⟨F d, hr, ?_⟩⟩
    have ho : out = (ds'.take i).map F := ho
    show out ++ [F d] = (ds'.take (i + 1)).map F
    rw [List.take_add_one, hd, List.map_append, ho]
    rfl, fun ds' out e ho => by rw [ho, e, List.take_length]⟩⟩
/-- .. with a test -/
theorem xf_lcF {ds : List PyData} {g : TG} {ok : PyData → Prop} {f : PyData → List SD → List SD} {is : List Nat} {tst : Expr} (F : PyData → PyData) (T : PyData → Bool) (hi : XIc X ρ tg iter (fun z => z = ds)) (sg : SG g ok f is)
    (hg : ∀ (s : Shared) (H : Hp) (C : Addr) (cl : List (Str × Addr)) (fp : List Addr), PG (X.blk s H scope (compEnvC scope cl C X.env) fp) tg g)
    (he : ∀ d, d ∈ ds → ok d ∧ (∀ (s : Shared) (H : Hp) (C : Addr) (cl : List (Str × Addr)) (fp : List Addr), XB (X.blk s H scope (compEnvC scope cl C X.env) fp) (f d (wipeR ρ (ownS own))) tst (T d)) ∧
      (T d = true → ∀ (s : Shared) (H : Hp) (C : Addr) (cl : List (Str × Addr)) (fp : List Addr), XD (X.blk s H scope (compEnvC scope cl C X.env) fp) (f d (wipeR ρ (ownS own))) elt (F d)))
    (hl : ds.length ≤ 50000) (hN : X.N.Nodup) (okb : BlkOk X.N X.env.scope scope own) (his : ∀ i ∈ is, i ∈ ownS own := by decide) (hc : X.calm = true := by rfl) (hs : ∀ x, foldedSetIterable iter X.env x = pure x := by intro _; rfl) :
    XF X ρ (.ListComp elt [⟨tg, iter, [tst], 0⟩] scope pos) (fun z => z = (ds.filter T).map F) := by
  refine PE.imp (pe_lc hc hN hi okb hg (fun s H C cl fp => pts_one (PT.uni (X := X.blk s H scope (compEnvC scope cl C X.env) fp) (e := tst) (ι := PyData) (t := fun d => tT (f d (wipeR ρ (ownS own))) (fun r => r = T d)) (P := fun d => d ∈ ds) fun d hd => (he d hd).2.1 s H C cl fp))
    (fun s H C cl fp => PE.uni (X := X.blk s H scope (compEnvC scope cl C X.env) fp) (e := elt) (ι := PyData) (t := fun d => tE (f d (wipeR ρ (ownS own))) (fun r => r = .d (F d))) (P := fun d => d ∈ ds ∧ T d = true) fun d hd => (he d hd.1).2.2 hd.2 s H C cl fp) hs) fun σ H Q h => ?_
  refine lc_tF (P := fun ds' i out => out = ((ds'.take i).filter T).map F) sg his _ _ (fun ds' e => by simp) (fun ds' e => by rw [e]; exact hl) (fun ds' i d out e hd _ => by subst e; exact (he d (List.mem_of_getElem? hd)).1) (fun ds' i d out e hd ho => ?_) (fun ds' out e ho => by rw [ho, e, List.take_length]) h
  subst e
  have hm := List.mem_of_getElem? hd
  refine ⟨T d, fun σ H Q q => ⟨d, hm, q⟩, fun ht => ⟨_, fun σ H Q q => ⟨d, ⟨hm, ht⟩, q⟩, fun r hr => ⟨F d, hr, ?_⟩⟩, fun ht => ?_⟩
  · rw [List.take_add_one, hd, List.filter_append, List.map_append, ho]
    show _ = _ ++ ([d].filter T).map F
    rw [List.filter_cons, if_pos ht]
    rfl
  · rw [List.take_add_one, hd, List.filter_append, List.map_append, ho]
    show _ = _ ++ ([d].filter T).map F
    rw [List.filter_cons, if_neg (by rw [ht]; decide)]
    simp

theorem own_wipe {ρ : List SD} {i : Nat} {a : Addr} : ∀ {vs : List Nat}, ownAt (wipeR ρ vs) i = some a → ownAt ρ i = some a
  | [], h => h
  | v :: vs, h => by
    have h : ownAt ((wipeR ρ vs).set v .no) i = some a := h
    rw [own_set] at h
    split at h
    · cases h
    · exact own_wipe h
/-- two clauses, all known -/
theorem lc2_tF {ds : List PyData} {es : PyData → List PyData} {F : PyData → PyData → PyData} {g g1 : TG} {ok ok1 : PyData → Prop} {f f1 : PyData → List SD → List SD} {is is1 vs vs1 : List Nat} (sg : SG g ok f is) (his : ∀ i ∈ is, i ∈ vs) (sg1 : SG g1 ok1 f1 is1) (his1 : ∀ i ∈ is1, i ∈ vs1)
    (wi1 : TI) (te : TE) (hl : ∀ i, ((ds.take i).flatMap fun d => (es d).map (F d)).length ≤ 50000) (hle : ∀ d ∈ ds, (es d).length ≤ 40000)
    (hok : ∀ d ∈ ds, ok d) (hok1 : ∀ d ∈ ds, ∀ e ∈ es d, ok1 e)
    (hw1 : ∀ d ∈ ds, ∀ σ H R, tIs (f d (wipeR ρ vs)) (fun z => z = es d) σ H R → wi1 σ H R)
    (hte : ∀ d ∈ ds, ∀ e ∈ es d, ∀ σ H Q, tE (f1 e (wipeR (f d (wipeR ρ vs)) vs1)) (fun r => r = .d (F d e)) σ H Q → te σ H Q)
    {σ : L2.St} {H : Hp} {Q : VK} (h : tF ρ (fun z => z = ds.flatMap fun d => (es d).map (F d)) σ H Q) : tLc2 (tIc ρ (fun z => z = ds)) g tYes wi1 g1 tYes te vs vs1 σ H Q := by
  obtain ⟨G, S, q⟩ := h
  refine ⟨G, S, fun J H1 ds' Gd e1 hp hG w D nD => ?_⟩
  subst hp
  have S1 := S.mono e1
  have nD0 : G.H0 D = none := S1.fresh0 nD
  have nDs : ¬ isS G D := fun ⟨sl, es⟩ => by
    obtain ⟨_, _, c, k, h3, _⟩ := S1.strm D sl es
    rw [nD] at h3; cases h3
  have noD : ∀ i, ownAt (wipeR ρ vs) i ≠ some D := fun i z => by
    obtain ⟨_, _, u, hu, _⟩ := (S1.wipe vs).owned z
    rw [nD] at hu; cases hu
  have ne : ∀ c u, H1 c = some u → c ≠ D := fun c u hc zz => by subst zz; rw [nD] at hc; cases hc
  refine ⟨fun i m H2 => m = ds'.length - i ∧ i ≤ ds'.length ∧ StOk G H2 (L2.wipe σ vs) (wipeR ρ vs) ∧ Ext G H1 H2 ∧ ∃ acc, H2 D = some (.lst acc) ∧ Ims H2 ((ds'.take i).flatMap fun d => (es d).map (F d)) acc,
    ⟨ds'.length, by simp, Nat.zero_le _, (S1.wipe vs).mono (Ext.new e1.strm nD), Ext.new e1.strm nD, [], upd_same, by simp; exact .nil⟩, ?_⟩
  rintro i m H2 ⟨rfl, hle', S2, e2, acc, hD, him⟩
  obtain ⟨go, stop⟩ := w H2 (hG H2 e2) i
  by_cases hlt : i < ds'.length
  · have hd := List.getElem?_eq_getElem hlt
    have hm : ds'[i] ∈ ds' := List.getElem_mem hlt
    generalize ds'[i] = d at hd hm
    obtain ⟨g1', g2⟩ := go _ hd
    refine .inr ⟨g1', fun H3 => i + 1 ≤ ds'.length ∧ StOk G H3 (L2.wipe σ vs) (wipeR ρ vs) ∧ Ext G H1 H3 ∧ ∃ acc, H3 D = some (.lst acc) ∧ Ims H3 ((ds'.take (i + 1)).flatMap fun d => (es d).map (F d)) acc, fun H3 q => ⟨ds'.length - (i + 1), by omega, rfl, q⟩, fun v H3 y => ?_⟩
    obtain ⟨sm, iv⟩ := g2 v H3 y
    have e3 : Ext G H2 H3 := Ext.same S2.strm sm
    refine sg.run G H3 _ _ _ v _ (hok d hm) (S2.mono e3) iv fun σ4 S4 hw => ?_
    refine ⟨by rw [hw vs his, wipe_idem], ?_⟩
    dsimp only [tYes]
    rw [if_pos rfl]
    refine hw1 d hm _ _ _ ⟨G, S4, fun J1 H4 es' Gd1 e4 he' hG1 w1 => ?_⟩
    have he' : es' = es d := he'
    subst he'
    have e24 := e3.trans e4
    have hstep : ∀ j, (ds'.take i).flatMap (fun d => (es d).map (F d)) ++ ((es d).take j).map (F d) = (ds'.take i).flatMap (fun d => (es d).map (F d)) ++ ((es d).take j).map (F d) := fun _ => rfl
    have htake : (ds'.take (i + 1)).flatMap (fun d => (es d).map (F d)) = (ds'.take i).flatMap (fun d => (es d).map (F d)) ++ (es d).map (F d) := by
      rw [List.take_add_one, hd, List.flatMap_append]
      simp
    have noD1 : ∀ i, ownAt (wipeR (f d (wipeR ρ vs)) vs1) i ≠ some D := fun i z => noD i (sg.own _ _ _ _ (own_wipe z))
    refine ⟨fun j k H5 => k = (es d).length - j ∧ j ≤ (es d).length ∧ StOk G H5 (L2.wipe σ4 vs1) (wipeR (f d (wipeR ρ vs)) vs1) ∧ StOk G H5 (L2.wipe σ vs) (wipeR ρ vs) ∧ Ext G H1 H5 ∧ PrS G H4 H5 ∧ ∃ acc, H5 D = some (.lst acc) ∧ Ims H5 ((ds'.take i).flatMap (fun d => (es d).map (F d)) ++ ((es d).take j).map (F d)) acc,
      ⟨(es d).length, by simp, Nat.zero_le _, (S4.mono e4).wipe vs1, S2.mono e24, e2.trans e24, ⟨fun _ _ h => h, (S4.mono e4).base⟩, acc, e24.keep _ _ hD nDs, by simpa using him.mono e24.tups⟩, ?_⟩
    rintro j k H5 ⟨rfl, hje, S5, S5', e5, pr5, acc5, hD5, him5⟩
    obtain ⟨go1, stop1⟩ := w1 H5 (hG1 H5 pr5) j
    by_cases hjl : j < (es d).length
    · have hd1 := List.getElem?_eq_getElem hjl
      have hm1 : (es d)[j] ∈ es d := List.getElem_mem hjl
      generalize (es d)[j] = x at hd1 hm1
      obtain ⟨k1, k2⟩ := go1 _ hd1
      refine .inr ⟨k1, fun H6 => j + 1 ≤ (es d).length ∧ StOk G H6 (L2.wipe σ4 vs1) (wipeR (f d (wipeR ρ vs)) vs1) ∧ StOk G H6 (L2.wipe σ vs) (wipeR ρ vs) ∧ Ext G H1 H6 ∧ PrS G H4 H6 ∧ ∃ acc, H6 D = some (.lst acc) ∧ Ims H6 ((ds'.take i).flatMap (fun d => (es d).map (F d)) ++ ((es d).take (j + 1)).map (F d)) acc,
        fun H6 q => ⟨(es d).length - (j + 1), by omega, rfl, q⟩, fun v1 H6 y1 => ?_⟩
      obtain ⟨sm1, iv1⟩ := k2 v1 H6 y1
      have e6 : Ext G H5 H6 := Ext.same S5.strm sm1
      refine sg1.run G H6 _ _ _ v1 _ (hok1 d hm x hm1) (S5.mono e6) iv1 fun σ7 S7 hw7 => ?_
      refine ⟨by rw [hw7 vs1 his1, wipe_idem], ?_⟩
      dsimp only [tYes]
      rw [if_pos rfl]
      refine hte d hm x hm1 _ _ _ ⟨G, S7, fun z H8 r e8 r8 p8 => ?_⟩
      have p8 : r = .d (F d x) := p8
      subst p8
      have e58 := e6.trans e8
      have hD8 := e58.keep _ _ hD5 nDs
      have him8 := him5.mono e58.tups
      have tD : ∀ c xs, H8 c = some (.tup xs) → upd H8 D (.lst (acc5 ++ [z])) c = some (.tup xs) := fun c xs hc => by
        rw [upd_ne (fun zz => by subst zz; rw [hD8] at hc; cases hc)]
        exact hc
      have Sa := (S5'.mono e58).other (o := .lst (acc5 ++ [z])) nD0 hD8 trivial noD
      refine ⟨acc5, hD8, sz_lt ?_, hjl, (S5.mono e58).other nD0 hD8 trivial noD1, Sa, ?_, ⟨fun c xs hc => tD c xs (e58.tups c xs (pr5.1 c xs hc)), Sa.base⟩, acc5 ++ [z], upd_same, ?_⟩
      · rw [him5.len, List.length_append, List.length_map, List.length_take]
        have h1 := hl i
        have h2 := hle d hm
        omega
      · have e15 := e5.trans e58
        exact ⟨fun c u hc hs => by rw [upd_ne (ne c u hc)]; exact e15.keep c u hc hs, Sa.strm, fun c xs hc => by rw [upd_ne (ne c _ hc)]; exact e15.tups c xs hc⟩
      · have hj1 : ((es d).take (j + 1)).map (F d) = ((es d).take j).map (F d) ++ [F d x] := by
          rw [List.take_add_one, hd1, List.map_append]; rfl
        rw [hj1, ← List.append_assoc]
        exact (him8.app (.one r8)).mono tD
    · have ej : j = (es d).length := by omega
      subst ej
      refine .inl ⟨stop1 (Nat.le_refl _), hlt, S5', e5, acc5, hD5, ?_⟩
      rw [htake]
      simpa using him5
  · have e : i = ds'.length := by omega
    subst e
    exact .inl ⟨stop (Nat.le_refl _), q D acc H2 _ (Ext.fresh S.strm e1 nD) (e1.trans e2) hD him (by rw [List.take_length])⟩

/-- the premises of a comprehension with two clauses -/
structure Lc2 (X : Cx) (ρ : List SD) (tg iter tg1 iter1 elt : Expr) (scope : Scope) (own : List (Str × Nat)) (vs1 : List Nat) (out : List PyData) : Prop where
  ex : ∃ (ds : List PyData) (es : PyData → List PyData) (F : PyData → PyData → PyData) (g g1 : TG) (ok ok1 : PyData → Prop) (f f1 : PyData → List SD → List SD) (is is1 : List Nat),
    out = (ds.flatMap fun d => (es d).map (F d)) ∧ XIc X ρ tg iter (fun z => z = ds) ∧ SG g ok f is ∧ (∀ i ∈ is, i ∈ ownS own) ∧ SG g1 ok1 f1 is1 ∧ (∀ i ∈ is1, i ∈ vs1) ∧ (∀ i ∈ vs1, i ∈ ownS own) ∧
    (∀ i, ((ds.take i).flatMap fun d => (es d).map (F d)).length ≤ 50000) ∧ (∀ d ∈ ds, (es d).length ≤ 40000) ∧
    (∀ (s : Shared) (H : Hp) (C : Addr) (cl : List (Str × Addr)) (fp : List Addr), PG (X.blk s H scope (compEnvC scope cl C X.env) fp) tg g) ∧
    (∀ (s : Shared) (H : Hp) (C : Addr) (cl : List (Str × Addr)) (fp : List Addr), PG (X.blk s H scope (compEnvC scope cl C X.env) fp) tg1 g1) ∧
    (∀ d ∈ ds, ok d ∧ (∀ (s : Shared) (H : Hp) (C : Addr) (cl : List (Str × Addr)) (fp : List Addr), XIs (X.blk s H scope (compEnvC scope cl C X.env) fp) (f d (wipeR ρ (ownS own))) tg1 iter1 (fun z => z = es d)) ∧
      ∀ e ∈ es d, ok1 e ∧ ∀ (s : Shared) (H : Hp) (C : Addr) (cl : List (Str × Addr)) (fp : List Addr), XD (X.blk s H scope (compEnvC scope cl C X.env) fp) (f1 e (wipeR (f d (wipeR ρ (ownS own))) vs1)) elt (F d e))
theorem lc2_mk {tg1 iter1 : Expr} {vs1 : List Nat} {ds : List PyData} (es : PyData → List PyData) (F : PyData → PyData → PyData) {g g1 : TG} {ok ok1 : PyData → Prop} {f f1 : PyData → List SD → List SD} {is is1 : List Nat} (hi : XIc X ρ tg iter (fun z => z = ds)) (sg : SG g ok f is) (sg1 : SG g1 ok1 f1 is1)
    (hl : ∀ i, ((ds.take i).flatMap fun d => (es d).map (F d)).length ≤ 50000) (hle : ∀ d ∈ ds, (es d).length ≤ 40000)
    (hg : ∀ (s : Shared) (H : Hp) (C : Addr) (cl : List (Str × Addr)) (fp : List Addr), PG (X.blk s H scope (compEnvC scope cl C X.env) fp) tg g)
    (hg1 : ∀ (s : Shared) (H : Hp) (C : Addr) (cl : List (Str × Addr)) (fp : List Addr), PG (X.blk s H scope (compEnvC scope cl C X.env) fp) tg1 g1)
    (he : ∀ d ∈ ds, ok d ∧ (∀ (s : Shared) (H : Hp) (C : Addr) (cl : List (Str × Addr)) (fp : List Addr), XIs (X.blk s H scope (compEnvC scope cl C X.env) fp) (f d (wipeR ρ (ownS own))) tg1 iter1 (fun z => z = es d)) ∧
      ∀ e ∈ es d, ok1 e ∧ ∀ (s : Shared) (H : Hp) (C : Addr) (cl : List (Str × Addr)) (fp : List Addr), XD (X.blk s H scope (compEnvC scope cl C X.env) fp) (f1 e (wipeR (f d (wipeR ρ (ownS own))) vs1)) elt (F d e))
    (his : ∀ i ∈ is, i ∈ ownS own := by decide) (his1 : ∀ i ∈ is1, i ∈ vs1 := by decide) (hv : ∀ i ∈ vs1, i ∈ ownS own := by decide) : Lc2 X ρ tg iter tg1 iter1 elt scope own vs1 (ds.flatMap fun d => (es d).map (F d)) :=
  ⟨⟨ds, es, F, g, g1, ok, ok1, f, f1, is, is1, rfl, hi, sg, his, sg1, his1, hv, hl, hle, hg, hg1, he⟩⟩
theorem xf_lc2 {tg1 iter1 : Expr} {vs1 : List Nat} {out : List PyData} (L : Lc2 X ρ tg iter tg1 iter1 elt scope own vs1 out) (hN : X.N.Nodup) (okb : BlkOk X.N X.env.scope scope own) (hc : X.calm = true := by rfl) (hs : ∀ x, foldedSetIterable iter X.env x = pure x := by intro _; rfl) (hs1 : ∀ env x, foldedSetIterable iter1 env x = pure x := by intro _ _; rfl) :
    XF X ρ (.ListComp elt [⟨tg, iter, [], 0⟩, ⟨tg1, iter1, [], 0⟩] scope pos) (fun z => z = out) := by
  obtain ⟨ds, es, F, g, g1, ok, ok1, f, f1, is, is1, rfl, hi, sg, his, sg1, his1, hv, hl, hle, hg, hg1, he⟩ := L.ex
  refine PE.imp (pe_lc2 hc hN hi okb hv hg (fun _ _ _ _ _ => pts_nil)
    (fun s H C cl fp => PI.uni (X := X.blk s H scope (compEnvC scope cl C X.env) fp) (ι := PyData) (t := fun d => tIs (f d (wipeR ρ (ownS own))) (fun z => z = es d)) (P := fun d => d ∈ ds) fun d hd => (he d hd).2.1 s H C cl fp) hg1 (fun _ _ _ _ _ => pts_nil)
    (fun s H C cl fp => PE.uni (X := X.blk s H scope (compEnvC scope cl C X.env) fp) (ι := PyData × PyData) (t := fun z => tE (f1 z.2 (wipeR (f z.1 (wipeR ρ (ownS own))) vs1)) (fun r => r = .d (F z.1 z.2))) (P := fun z => z.1 ∈ ds ∧ z.2 ∈ es z.1) fun z hz => ((he z.1 hz.1).2.2 z.2 hz.2).2 s H C cl fp) hs hs1) fun σ H Q h => ?_
  exact lc2_tF sg his sg1 his1 _ _ hl hle (fun d hd => (he d hd).1) (fun d hd e hm => ((he d hd).2.2 e hm).1) (fun d hd σ H R q => ⟨d, hd, q⟩) (fun d hd e hm σ H Q q => ⟨(d, e), ⟨hd, hm⟩, q⟩) h
theorem xs_setLc2 (i : Nat) {tg1 iter1 : Expr} {vs1 : List Nat} {out : List PyData} (L : Lc2 X ρ tg iter tg1 iter1 elt scope own vs1 out) (hN : X.N.Nodup) (okb : BlkOk X.N X.env.scope scope own) (hsw : swapsWith (.ListComp elt [⟨tg, iter, [], 0⟩, ⟨tg1, iter1, [], 0⟩] scope pos) (some (.Name nm py)) spos.line X.env = pure true)
    (hy : X.N[i]? = some nm := by rfl) (hyl : X.env.scope.names.lookup nm = some .local := by rfl) (hc : X.calm = true := by rfl) (hs : ∀ x, foldedSetIterable iter X.env x = pure x := by intro _; rfl) (hs1 : ∀ env x, foldedSetIterable iter1 env x = pure x := by intro _ _; rfl) :
    XS X ρ (.Assign [.Name nm py] (.ListComp elt [⟨tg, iter, [], 0⟩, ⟨tg1, iter1, [], 0⟩] scope pos) spos) (fun ρ' => ∃ ad, ρ' = ρ.set i (.ol ad out)) R := by
  obtain ⟨ds, es, F, g, g1, ok, ok1, f, f1, is, is1, rfl, hi, sg, his, sg1, his1, hv, hl, hle, hg, hg1, he⟩ := L.ex
  refine PS.imp (ps_setLc2 hc hN hy hyl hsw hi okb hv hg (fun _ _ _ _ _ => pts_nil)
    (fun s H C cl fp => PI.uni (X := X.blk s H scope (compEnvC scope cl C X.env) fp) (ι := PyData) (t := fun d => tIs (f d (wipeR ρ (ownS own))) (fun z => z = es d)) (P := fun d => d ∈ ds) fun d hd => (he d hd).2.1 s H C cl fp) hg1 (fun _ _ _ _ _ => pts_nil)
    (fun s H C cl fp => PE.uni (X := X.blk s H scope (compEnvC scope cl C X.env) fp) (ι := PyData × PyData) (t := fun z => tE (f1 z.2 (wipeR (f z.1 (wipeR ρ (ownS own))) vs1)) (fun r => r = .d (F z.1 z.2))) (P := fun z => z.1 ∈ ds ∧ z.2 ∈ es z.1) fun z hz => ((he z.1 hz.1).2.2 z.2 hz.2).2 s H C cl fp) hs hs1) fun D σ H ⟨G0, G, l, s0, S, nx, rt⟩ => ?_
  refine lc2_tF sg his sg1 his1 _ _ hl hle (fun d hd => (he d hd).1) (fun d hd e hm => ((he d hd).2.2 e hm).1) (fun d hd σ H R q => ⟨d, hd, q⟩) (fun d hd e hm σ H Q q => ⟨(d, e), ⟨hd, hm⟩, q⟩) ⟨G, S, fun ad xs H' ds' n e1 h1 h2 p1 => ?_⟩
  have p1 : ds' = _ := p1
  subst p1
  exact nx G _ H' _ (Le.refl G) (S.set_new e1 i n h1 h2) ⟨ad, rfl⟩

/-! ### defs -/
/-- a def's promise -/
structure FS (α : Type) where
  args : α → List SD
  res : α → SD → Prop
def FS.sp {α : Type} (F : FS α) : Sp := fun vs H Q _ => ∃ a G, G.H0 = H ∧ G.B = H ∧ SOk G H ∧ Ress G H vs (F.args a) ∧ ∀ v H' r, Ext G H H' → ResF H H' v r → F.res a r → Q v H'
/-- a def that stands behind the top and keeps a promise, at level k -/
def Cl (P : Program) (w : World) (K : PySem.W.Frag) (mg : Str → Option Value) (base : Heap) (k : Nat) (x : Str) (sp : Sp) : Prop :=
  ∃ (f : Addr) (fd : FuncData) (ps : List Str), FnOk P w K mg base CX0 k f fd ps sp ∧ mg x = some (.ref f) ∧ PySem.W.keepIn K (.ref f) = true ∧ Binds K fd ps []
theorem Ress.len {G : Gh} {H : Hp} : ∀ {vs : List V} {rs : List SD}, Ress G H vs rs → vs.length = rs.length
  | _, _, .nil => rfl
  | _, _, .cons _ r => congrArg (· + 1) (Ress.len r)
theorem xe_callG {α : Type} {F : FS α} {k j : Nat} {x : Str} {p : Pos} {es : List Expr} {Aa : List SD → Prop} (C : Cl X.prog X.w X.K X.mg X.base k x F.sp) (hr : Room j X.A) (ha : XA X ρ (e :: es) Aa) (hk : k ≤ j := by decide) (hg : Gl X x := by rfl)
    (hdb : (x == ("__debug__" : Str)) = false := by decide) (he : starEach (e :: es) X.env = (false, eval e X.env) :: starEach es X.env := by rfl) (hpl : (backTo pos (starEach es X.env)).any (·.1) = false := by rfl) :
    PE X (.Call (.Name x p) (e :: es) [] pos) (fun σ H Q => ∃ G, StOk G H σ ρ ∧ ∀ vs H1 rs, Ext G H H1 → Ress G H1 vs rs → Aa rs → ∃ a, F.args a = rs ∧ ∀ v H' r, Ext G H1 H' → ResF H1 H' v r → F.res a r → Q v H') := by
  obtain ⟨f, fd, ps, hF, hm, hkp, hb⟩ := C
  refine PE.imp (pe_call hF (hr.mono hk) hg hm hkp hb .nil pass0 ha hdb he hpl) fun σ H Q ⟨G, S, q⟩ => ⟨G, S, fun vs H1 rs e1 r1 p1 => ?_⟩
  obtain ⟨a, ea, hq⟩ := q vs H1 rs e1 r1 p1
  rw [List.append_nil]
  refine ⟨a, ⟨H1, G.so, H1⟩, rfl, rfl, e1.strm, ?_, fun v H' r e2 r2 p2 => hq v H' r ⟨e2.keep, e2.strm, e2.tups⟩ r2 p2⟩
  rw [ea]
  have cv : ∀ {vs : List V} {rs : List SD}, Ress G H1 vs rs → Ress ⟨H1, G.so, H1⟩ H1 vs rs := by
    intro vs rs h
    induction h with
    | nil => exact .nil
    | cons h1 _ ih =>
      refine .cons ?_ ih
      rename_i r _ _
      cases r <;> exact h1
  exact cv r1
theorem xe_call {α : Type} {F : FS α} {k j : Nat} {x : Str} {p : Pos} {es : List Expr} {Aa : List SD → Prop} (C : Cl X.prog X.w X.K X.mg X.base k x F.sp) (hr : Room j X.A) (ha : XA X ρ (e :: es) Aa) (h : ∀ rs, Aa rs → ∃ a, F.args a = rs ∧ ∀ r, F.res a r → (∃ x, r = .d x) ∧ Θ r)
    (hk : k ≤ j := by decide) (hg : Gl X x := by rfl)
    (hdb : (x == ("__debug__" : Str)) = false := by decide) (he : starEach (e :: es) X.env = (false, eval e X.env) :: starEach es X.env := by rfl) (hpl : (backTo pos (starEach es X.env)).any (·.1) = false := by rfl) :
    XE X ρ (.Call (.Name x p) (e :: es) [] pos) Θ :=
  PE.imp (xe_callG C hr ha hk hg hdb he hpl) fun σ H Q ⟨G, S, q⟩ => ⟨G, S, fun vs H1 rs e1 r1 p1 => by
    obtain ⟨a, ea, hq⟩ := h rs p1
    refine ⟨a, ea, fun v H' r e2 r2 p2 => ?_⟩
    obtain ⟨⟨x, rfl⟩, ht⟩ := hq r p2
    exact q v H' (.d x) (e1.trans e2) r2 ht⟩
/-- known arguments, a known value -/
theorem xe_callD {α : Type} {F : FS α} {k j : Nat} {x : Str} {p : Pos} {es : List Expr} {rs : List SD} {y : PyData} (C : Cl X.prog X.w X.K X.mg X.base k x F.sp) (hr : Room j X.A) (a : α) (ha : XA X ρ (e :: es) (fun z => z = rs)) (hy : ∀ r, F.res a r → r = .d y) (hrs : F.args a = rs := by rfl)
    (hk : k ≤ j := by decide) (hg : Gl X x := by rfl)
    (hdb : (x == ("__debug__" : Str)) = false := by decide) (he : starEach (e :: es) X.env = (false, eval e X.env) :: starEach es X.env := by rfl) (hpl : (backTo pos (starEach es X.env)).any (·.1) = false := by rfl) :
    XD X ρ (.Call (.Name x p) (e :: es) [] pos) y :=
  xe_call C hr ha (fun rs' e => ⟨a, by rw [e]; exact hrs, fun r h => ⟨⟨y, hy r h⟩, hy r h⟩⟩) hk hg hdb he hpl
theorem xf_call {α : Type} {F : FS α} {k j : Nat} {x : Str} {p : Pos} {es : List Expr} {Aa : List SD → Prop} {Ψ : List PyData → Prop} (C : Cl X.prog X.w X.K X.mg X.base k x F.sp) (hr : Room j X.A) (ha : XA X ρ (e :: es) Aa) (h : ∀ rs, Aa rs → ∃ a, F.args a = rs ∧ ∀ r, F.res a r → ∃ ds, r = .l ds ∧ Ψ ds)
    (hk : k ≤ j := by decide) (hg : Gl X x := by rfl)
    (hdb : (x == ("__debug__" : Str)) = false := by decide) (he : starEach (e :: es) X.env = (false, eval e X.env) :: starEach es X.env := by rfl) (hpl : (backTo pos (starEach es X.env)).any (·.1) = false := by rfl) :
    XF X ρ (.Call (.Name x p) (e :: es) [] pos) Ψ :=
  PE.imp (xe_callG C hr ha hk hg hdb he hpl) fun σ H Q ⟨G, S, q⟩ => ⟨G, S, fun vs H1 rs e1 r1 p1 => by
    obtain ⟨a, ea, hq⟩ := h rs p1
    refine ⟨a, ea, fun v H' r e2 r2 p2 => ?_⟩
    obtain ⟨ds, rfl, hp⟩ := hq r p2
    obtain ⟨ad, xs, rfl, n, h1, h2⟩ := r2
    exact q ad xs H' ds (Ext.fresh S.strm e1 n) (e1.trans e2) h1 h2 hp⟩
end
def SD.isArg : SD → Bool
  | .d _ => true
  | .l _ => true
  | .st _ => true
  | _ => false
/-- a def of the text as it stands behind the top -/
def Df (K : PySem.W.Frag) (mg : Str → Option Value) (x : Str) (st : Stmt) (ps : List Str) : Prop := ∃ (f : Addr) (fd : FuncData), Fun K x x st f fd ∧ mg x = some (.ref f) ∧ Binds K fd ps []
abbrev BX (P : Program) (w : World) (K : PySem.W.Frag) (mg : Str → Option Value) (base : Heap) (N : List Str) (x : Str) (sc : Scope) (f : Addr) (cdv : Value) (A : Around) (outer : List Env) (s : Shared) (H : Hp) (E : XK) : Cx := (cxOf CX0 P w K mg base N x sc f cdv A outer s H E).nox
theorem start_ok {G : Gh} {H : Hp} {N : List Str} {vs : List V} {rs : List SD} (h0 : G.H0 = H) (hB : G.B = H) (so : SOk G H) (r : Ress G H vs rs) (ha : rs.all SD.isArg = true) (hl : rs.length ≤ N.length) : StOk G H (L2.start N vs) (rs ++ List.replicate (N.length - rs.length) .no) := by
  have own0 : ∀ i, ownAt (rs ++ List.replicate (N.length - rs.length) .no) i = none := fun i => by
    unfold ownAt
    cases q : (rs ++ List.replicate (N.length - rs.length) SD.no)[i]? with
    | none => rfl
    | some x =>
      rcases List.mem_append.mp (List.mem_of_getElem? q) with m | m
      · have := List.all_eq_true.mp ha x m
        cases x <;> first | rfl | cases this
      · rw [(List.mem_replicate.mp m).2]; rfl
  refine ⟨?_, fun a u h _ => by rw [← h0]; exact h, so, fun l sl e => ?_, fun i x q => ?_, fun i j a _ z => (by rw [own0] at z; cases z), fun a h => by rw [hB, ← h0]; exact h⟩
  · unfold L2.start
    rw [List.length_append, List.length_append, List.length_map, List.length_replicate, List.length_replicate, r.len]
  · obtain ⟨h1, ⟨ws, h2⟩, c, k, h3, h4⟩ := so l sl e
    rw [h0, h2, h3]
    exact ⟨(fun z => nomatch z), (fun z => nomatch z)⟩
  · have key : ∀ {vs : List V} {rs : List SD} {i : Nat} {x : SD}, Ress G H vs rs → rs[i]? = some x → ∃ v, vs[i]? = some v ∧ Res G H v x := by
      intro vs rs i x h
      induction h generalizing i with
      | nil => intro e; simp at e
      | cons h1 _ ih =>
        intro e
        cases i with
        | zero => simp at e; subst e; exact ⟨_, rfl, h1⟩
        | succ i => obtain ⟨v, e1, e2⟩ := ih (i := i) (by simpa using e); exact ⟨v, by simpa using e1, e2⟩
    by_cases hi : i < rs.length
    · rw [List.getElem?_append_left hi] at q
      obtain ⟨v, hv, rr⟩ := key r q
      have hst : (L2.start N vs)[i]?.join = some v := by
        unfold L2.start
        rw [List.getElem?_append_left (by rw [List.length_map, r.len]; exact hi), List.getElem?_map, hv]
        rfl
      rw [hst]
      have hx := List.all_eq_true.mp ha x (List.mem_of_getElem? q)
      cases x with
      | d y => exact ⟨v, rfl, rr⟩
      | l ds => obtain ⟨a, xs, rfl, ns, h1, h2⟩ := rr; exact ⟨a, xs, rfl, by rw [h0]; exact h1, ns, h2⟩
      | st ns => obtain ⟨l, sl, e1, rfl, e2, e3⟩ := rr; exact ⟨l, sl, e1, rfl, by rw [h0]; exact e2, e3⟩
      | _ => cases hx
    · rw [List.getElem?_append_right (by omega)] at q
      rw [(List.mem_replicate.mp (List.mem_of_getElem? q)).2]
      trivial
theorem cl_mk {P : Program} {w : World} {K : PySem.W.Frag} {mg : Str → Option Value} {base : Heap} {x : Str} {st : Stmt} {N ps : List Str} {k : Nat} {α : Type} (F : FS α) (D : Df K mg x st ps) (S : FnScope N ps (defScope st)) (hlen : ∀ a, (F.args a).length = ps.length) (harg : ∀ a, (F.args a).all SD.isArg = true)
    (hNl : ps.length ≤ N.length)
    (body : ∀ (f : Addr) (cdv : Value) (A : Around) (outer : List Env) (s : Shared) (H : Hp) (E : XK), Room k (A.deeper (envOfC x (defScope st) s.heap.objs.size f cdv)) → ∀ a, XSs (BX P w K mg base N x (defScope st) f cdv A outer s H E) (F.args a ++ List.replicate (N.length - ps.length) .no) (defBody st) (fun _ => F.res a (.d .none)) (F.res a)) :
    Cl P w K mg base (k + 1) x F.sp := by
  obtain ⟨f, fd, hF, hm, hb⟩ := D
  refine ⟨f, fd, ps, hF.ok S (fun vs H Q E h => ?_) (fun cdv A outer s H vs Q E hr h => ?_), hm, hF.kp, hb⟩
  · obtain ⟨a, G, _, _, _, r, _⟩ := h
    rw [r.len, hlen]
  · obtain ⟨a, G, h0, hB, so, r, q⟩ := h
    refine ⟨_, body f cdv A outer s H E hr a, G, G, Le.refl G, ⟨by rw [h0]; exact so, by rw [hB, h0]⟩, ?_, fun G' σ' H' ρ' l S' n => ?_, fun v H' r' e r2 hr' => ?_⟩
    · have := start_ok (N := N) h0 hB so r (harg a) (by rw [hlen]; exact hNl)
      rw [hlen] at this
      exact this
    · exact q .non H' (.d .none) (by have := S'.frame l ⟨by rw [h0]; exact so, by rw [hB, h0]⟩; rw [h0] at this; exact this) .non n
    · rw [h0] at e r2
      exact q v H' r' e r2 hr'
end PL

-- PLh
/-! PLh: dicts with tuples as keys: list, sorted; sorted of a list of tuples of ints, any length. -/
namespace PL
open PySem PySem.Spec PyProof.Rows L2

/-- xs are the keys of kvs, in a row -/
def TK (H : Hp) (kvs : List (List Key × V)) (xs : List V) : Prop := xs.length = kvs.length ∧ ∀ (i : Nat) kv, kvs[i]? = some kv → ∃ b, xs[i]? = some (V.ref b) ∧ H b = some (.tup (kv.1.map kV))
section
variable {X : Cx} {pins : List (Addr × Obj)} {σ : L2.St} {H : Hp} {s : Shared} {a : Addr} {kvs : List (List Key × V)}
theorem paired_at {α β : Type} {F : α → β → Prop} : ∀ {l : List α} {m : List β}, Paired F l m → ∀ {j : Nat} {x : α}, l[j]? = some x → ∃ y, m[j]? = some y ∧ F x y
  | _, _, .nil, _, _, h => by simp at h
  | _, _, .cons h t, 0, _, e => by simp at e; subst e; exact ⟨_, rfl, h⟩
  | _, _, .cons h t, j + 1, x, e => by
    obtain ⟨y, e1, e2⟩ := paired_at t (j := j) (x := x) (by simpa using e)
    exact ⟨y, by simpa using e1, e2⟩
theorem dt_keys (I : Inv X pins σ H s) (e : Rd H a (.dT kvs)) : ∃ (es : Array DictEntry) (ep : Nat), (a == sysModules) = false ∧ s.heap.DictRaw a es ep ∧ es.size = kvs.length ∧ kvs.length ≤ sizeLine ∧
    ∀ us : List Value, us.length = es.size → (∀ (j : Nat) v, us[j]? = some v → ∃ hi : j < es.size, v = es[j].key) → Vals (us.map bkV) us ∧ TK H kvs (us.map bkV) := by
  obtain ⟨z, hd, xs, rel, o, es, ep, ho, hx, hdat, hes, his, hn⟩ := dt_rd I.hok e
  have l1 : kvs.length = xs.length := Paired.length rel
  have l2 : es.size = xs.length := size_of_entries hes
  refine ⟨es, ep, hd, ⟨o, ho, hx, hdat⟩, by omega, z, fun us hl hu => ?_⟩
  have key : ∀ (j : Nat) kv, kvs[j]? = some kv → ∃ b, us[j]? = some (Value.ref b) ∧ H b = some (.tup (kv.1.map kV)) := fun j kv hj => by
    obtain ⟨x, hx1, hx2, hx3, _⟩ := paired_at rel hj
    have hlt := (List.getElem?_eq_some_iff.mp hx1).1
    have hju : j < us.length := by omega
    obtain ⟨hi, ev⟩ := hu j _ (List.getElem?_eq_getElem hju)
    have e1 := entry_at hes j
    rw [hx1, Array.getElem?_eq_getElem hi] at e1
    have e2 : es[j] = entryOfKey (tupleKind (mixKind X.prog X.w)) x := Option.some.inj e1
    refine ⟨x.2.1, ?_, hx3⟩
    rw [List.getElem?_eq_getElem hju, ev, e2]
    rfl
  refine ⟨bkV_vals fun u hm => ?_, by rw [List.length_map]; omega, fun j kv hj => ?_⟩
  · obtain ⟨j, hj⟩ := List.mem_iff_getElem?.mp hm
    have hlt := (List.getElem?_eq_some_iff.mp hj).1
    obtain ⟨b, e1, _⟩ := key j _ (List.getElem?_eq_getElem (show j < kvs.length by omega))
    rw [hj] at e1
    exact ⟨b, Option.some.inj e1⟩
  · obtain ⟨b, e1, e2⟩ := key j kv hj
    exact ⟨b, by rw [List.getElem?_map, e1]; rfl, e2⟩
/-- list(d) -/
theorem call_listT (hcalm : X.calm = true) : CallR X (.type "list") (fun xs H Q => ∃ (a : Addr) (kvs : List (List Key × V)), xs = [.ref a] ∧ Rd H a (.dT kvs) ∧ ∀ ys p, TK H kvs ys → H p = none → Q (.ref p) (upd H p (.lst ys))) := by
  intro pins s σ H xs us Q I r q
  obtain ⟨a, kvs, ex, hd, q⟩ := q
  subst ex
  obtain ⟨u, eu, rx⟩ := vals1 r
  subst eu
  cases rx
  obtain ⟨es, ep, lo, raw, hs, hz, hk0⟩ := dt_keys I hd
  refine PySem.W.kdl_call (PySem.KdlSrc.rawDict (es := es) (ep := ep) lo) (I.ok.hd hcalm) raw (by omega) fun h' tk acc c' hk hD hacc => ?_
  obtain ⟨hv, ht⟩ := hk0 acc.toList (by rw [Array.length_toList]; exact hacc.1) fun j v e => hacc.2 j v (by rw [← Array.getElem?_toList]; exact e)
  exact ⟨.ref s.heap.objs.size, upd H s.heap.objs.size (.lst (acc.toList.map bkV)), I.laid (t' := tk) hk (Nat.le_refl _)
    (show ObjOk X.prog X.w _ _ _ (.lst (acc.toList.map bkV)) from ⟨by rw [ht.1]; exact hz, acc.toList, c', hv, by rw [Array.toArray_toList]; exact hD⟩), rfl, q _ _ ht (I.hok.fresh (Nat.le_refl _))⟩

/-! ### sorting tuples of ints -/
/-- a tuple of ints, one at least -/
def TIs (H : Hp) (x : V) : Prop := ∃ b n ns, x = V.ref b ∧ H b = some (.tup ((n :: ns : List Int).map V.int))
theorem tupItems_ints : ∀ {its : List Value} {ns : List Int} (i : Nat), Vals (ns.map V.int) its → PyProof.Rows.tupItems (fun _ => false) i its = some (ns.map Sum.inl)
  | _, [], i, r => by cases r; rfl
  | _, n :: ns, i, r => by
    cases r with
    | cons h t =>
      obtain ⟨tk, rfl⟩ := h
      show (if false = true then none else (PyProof.Rows.tupItems (fun _ => false) (i + 1) _).map (Sum.inl n :: ·)) = _
      rw [tupItems_ints (i + 1) t]
      rfl
theorem tis_obj (I : Inv X pins σ H s) {x : V} {v : Value} (h : TIs H x) (r : RelV x v) : ∃ f l, PyProof.Rows.TupOf s.heap (fun _ => false) v f ∧ G.tupKeyC s.heap (fun _ => false) v = some l := by
  obtain ⟨b, n, ns, rfl, hb⟩ := h
  cases r
  obtain ⟨_, its, rv, o, ho, hc, m, hd⟩ := (show ObjOk X.prog X.w H s.heap b (.tup ((n :: ns : List Int).map V.int)) from I.hok b _ hb)
  have hi := tupItems_ints 0 rv
  cases rv with
  | @cons _ v0 _ vr h0 ht =>
    obtain ⟨tk, rfl⟩ := h0
    refine ⟨.int n tk, (n :: ns).map Sum.inl, ⟨b, o, _, m, rfl, ho, hc, hd, rfl, fun _ => ⟨n, tk, rfl⟩, fun z => nomatch z⟩, ?_⟩
    unfold G.tupKeyC
    have e1 : G.isTupObj s.heap (.ref b) = true := by simp [G.isTupObj, ho, hc]
    rw [if_pos e1]
    simp only [PyProof.Rows.tupKey, ho, hd]
    exact hi
theorem tis_all (I : Inv X pins σ H s) : ∀ {xs : List V} {us : List Value}, Vals xs us → (∀ x ∈ xs, TIs H x) → ∃ fs, PyProof.Rows.TupsOf s.heap (fun _ => false) us fs ∧ ∀ v ∈ us, ∃ l, G.tupKeyC s.heap (fun _ => false) v = some l
  | _, _, .nil, _ => ⟨[], .nil, fun _ h => nomatch h⟩
  | _, _, .cons r t, h => by
    obtain ⟨f, l, h1, h2⟩ := tis_obj I (h _ List.mem_cons_self) r
    obtain ⟨fs, h3, h4⟩ := tis_all I t fun x hx => h x (List.mem_cons_of_mem _ hx)
    exact ⟨f :: fs, .cons h1 h3, fun v hv => by
      rcases List.mem_cons.mp hv with e | hv
      · subst e; exact ⟨l, h2⟩
      · exact h4 v hv⟩
theorem outs_perm {us : List Value} {arr : Array Keyed} (h : arr.Perm (pairsOf us)) : (arr.map (·.2)).toList.Perm us := by
  have e := (Array.perm_iff_toList_perm.mp h).map (fun p : Keyed => p.2)
  rw [pairsOf_toList] at e
  rw [Array.toList_map]
  refine e.trans ?_
  have : (us.zip us).map (fun p => p.2) = us := by rw [List.map_snd_zip]; exact Nat.le_refl _
  rw [this]
theorem vals_perm {xs : List V} {us out : List Value} (r : Vals xs us) (hr : ∀ x ∈ xs, ∃ b, x = V.ref b) (p : out.Perm us) : Vals (out.map bkV) out ∧ (out.map bkV).Perm xs := by
  obtain ⟨e1, e2⟩ := bkV_refs r hr
  refine ⟨bkV_vals fun u hu => e2 u (p.mem_iff.mp hu), ?_⟩
  rw [e1]
  exact p.map bkV
/-- sorted(xs), xs a list of tuples of ints -/
def rSortTL (K : PySem.W.Frag) : List V → Hp → VK → Prop := fun vs H Q => ∃ (a : Addr) (xs : List V), vs = [V.ref a] ∧ SqL K H a xs ∧ (∀ x ∈ xs, TIs H x) ∧ ∀ ys p, ys.Perm xs → H p = none → Q (.ref p) (upd H p (.lst ys))
theorem cr_sortTL : CallR X (.builtin "sorted") (rSortTL X.K) := by
  intro pins s σ H vs us Q I r h
  obtain ⟨a, xs, rfl, hs, hx, q⟩ := h
  obtain ⟨its, rv, hl, hz⟩ := I.list hs
  rw [Vals.ref1 r]
  obtain ⟨fs, h1, h2⟩ := tis_all I rv hx
  refine G.sorted_tups (shape := fun _ => false) (vs := its) hl.isList h1 h2 (by rw [← rv.length]; exact hz) fun st' hp _ _ => ?_
  obtain ⟨ep, he'⟩ := PyProof.Rows.sortedAll_at s.heap its ((arrOf st').map (·.2))
  obtain ⟨hv, hpm⟩ := vals_perm rv (fun x m => by obtain ⟨b, _, _, e, _⟩ := hx x m; exact ⟨b, e⟩) (outs_perm hp)
  refine ⟨.ref _, upd H (s.heap.objs.size + 1) (.lst (((arrOf st').map (·.2)).toList.map bkV)), I.laid (t' := s.toks) (fun _ _ => PyProof.Rows.sortedAll_old) (Nat.le_succ _) ⟨by rw [hpm.length_eq]; exact hz, ((arrOf st').map (·.2)).toList, ep, hv, by rw [Array.toArray_toList]; exact he'⟩, rfl, q _ _ hpm (I.hok.fresh (Nat.le_succ _))⟩
/-- sorted(d), its keys tuples of ints -/
theorem call_sortedDT (hcalm : X.calm = true) : CallR X (.builtin "sorted") (fun xs H Q => ∃ (a : Addr) (kvs : List (List Key × V)), xs = [.ref a] ∧ Rd H a (.dT kvs) ∧ (∀ kv ∈ kvs, ∃ (n : Int) (ns : List Int), kv.1 = (n :: ns).map Sum.inl) ∧
    ∀ xs ys p, TK H kvs xs → ys.Perm xs → H p = none → Q (.ref p) (upd H p (.lst ys))) := by
  intro pins s σ H xs us Q I r q
  obtain ⟨a, kvs, ex, hd, hints, q⟩ := q
  subst ex
  obtain ⟨u, eu, rx⟩ := vals1 r
  subst eu
  cases rx
  obtain ⟨es, ep, lo, raw, hsz, hz, hk0⟩ := dt_keys I hd
  refine Calls.call_function_entry PyProof.Rows.kind_sorted PyProof.Rows.plain_sorted PyProof.Rows.entry_sorted (PyProof.Rows.args_sorted1 _) ?_
  unfold Builtin.«sorted»
  refine wpAny_bind (m := checkCount "sorted" 1 1 _) (wpAny_pure ?_)
  refine wpAny_bind (PySem.W.kdu_collect (A := X.A.in1) (PySem.KdlSrc.rawDict (es := es) (ep := ep) lo) (I.ok.hd hcalm) raw (by omega) fun h' tk acc hk hacc => ?_)
  obtain ⟨hv, ht⟩ := hk0 acc.toList (by rw [Array.length_toList]; exact hacc.1) fun j v e => hacc.2 j v (by rw [← Array.getElem?_toList]; exact e)
  have hal : acc.toList.length ≤ sizeLine := by rw [Array.length_toList, hacc.1]; omega
  have hT : ∀ x ∈ acc.toList.map bkV, TIs H x := fun x hx => by
    obtain ⟨j, hj⟩ := List.mem_iff_getElem?.mp hx
    have hlt := (List.getElem?_eq_some_iff.mp hj).1
    have hjk : j < kvs.length := by rw [← ht.1]; exact hlt
    obtain ⟨b, e1, e2⟩ := ht.2 j _ (List.getElem?_eq_getElem hjk)
    obtain ⟨n, ns, e3⟩ := hints _ (List.getElem_mem hjk)
    rw [hj] at e1
    refine ⟨b, n, ns, Option.some.inj e1, ?_⟩
    rw [e2, e3, List.map_map]
    rfl
  have I1 : Inv X pins σ H { s with heap := h', toks := tk } := I.kept hk
  refine wpAny_bind (wpAny_newList ?_ hal)
  have hoL : (h'.push (seqObj "list" acc.toList.toArray 0)).get? h'.objs.size = some (seqObj "list" acc.toList.toArray 0) := Heap.get?_push_size _ rfl
  obtain ⟨fs, g1, g2⟩ := tis_all I1 hv hT
  have kt : G.KeepsTups h' (h'.push (seqObj "list" acc.toList.toArray 0)) := G.KeepsTups.push _ _
  have g2' : ∀ v, v ∈ acc.toList → ∃ l, G.tupKeyC (h'.push (seqObj "list" acc.toList.toArray 0)) (fun _ => false) v = some l := fun v hm => by
    obtain ⟨l, hl⟩ := g2 v hm
    obtain ⟨b, o, ys, n, rfl, ho, hc, hd', hi⟩ := G.tupKeyC_some hl
    refine ⟨l, ?_⟩
    have ho' := kt b o ho hc
    unfold G.tupKeyC
    have e1 : G.isTupObj (h'.push (seqObj "list" acc.toList.toArray 0)) (.ref b) = true := by simp [G.isTupObj, ho', hc]
    rw [if_pos e1]
    simp only [PyProof.Rows.tupKey, ho', hd']
    exact hi
  show wpAny _ _ _ _ _ { s with heap := h'.push (seqObj "list" acc.toList.toArray 0), toks := tk }
  refine wpAny_bind (wpAny_holding (wpAny_call_entry PyProof.Rows.slot_list_sort ⟨_, hoL, rfl⟩ PyProof.Rows.entry_list_sort
    (G.list_sort_tups (shape := fun _ => false) (s := { s with heap := h'.push (seqObj "list" acc.toList.toArray 0), toks := tk }) hoL (PyProof.Rows.G.TupsOf.keep kt g1) g2' hal fun st' hp hs _ => ⟨_, rfl, ?_⟩)
    (PyProof.Rows.args_list_sort _)))
  obtain ⟨e', he'⟩ := PyProof.Rows.sortedHeap_at (vs := acc.toList) (out := (arrOf st').map (·.2)) hoL
  obtain ⟨hvo, hpm⟩ := vals_perm hv (fun x m => by obtain ⟨b, _, _, e, _⟩ := hT x m; exact ⟨b, e⟩) (outs_perm hp)
  have hlen : (((arrOf st').map (·.2)).toList.map bkV).length ≤ sizeLine := by
    rw [hpm.length_eq, ht.1]
    exact hz
  refine wpAny_pure ⟨_, rfl, .ref h'.objs.size, upd H h'.objs.size (.lst (((arrOf st').map (·.2)).toList.map bkV)), I1.laid (t' := tk) (fun b u e => ?_) (Nat.le_refl _)
    (show ObjOk X.prog X.w _ _ _ (.lst (((arrOf st').map (·.2)).toList.map bkV)) from ⟨hlen, ((arrOf st').map (·.2)).toList, e', hvo, by rw [Array.toArray_toList]; exact he'⟩), rfl, q _ _ _ ht hpm (I1.hok.fresh (Nat.le_refl _))⟩
  have hb : b < h'.objs.size := Heap.lt_size e
  rw [PyProof.Rows.sortedHeap_old (Nat.ne_of_lt hb) (by rw [size_push']; exact Nat.lt_succ_of_lt hb)]
  exact Heap.get?_push_of_some _ e
end
end PL

-- PLi
/-! PLi: x = {k: v for ..} with tuples as keys, on one line. -/
namespace PL
open PySem PySem.Spec PyProof.Rows L2
/-- d[k] = v, k a tracked tuple -/
theorem d_dictSetT {X : Cx} {pins : List (Addr × Obj)} {σ : L2.St} {H : Hp} {s : Shared} {E : Value → Shared → Prop} {D b : Addr} {kvs : List (List Key × V)} {k : List Key} {v : V} {r : Value} {Q : Unit → Shared → Prop} (hu : X.A.units + 1 < cLine) (I : Inv X pins σ H s) (hD : H D = some (.dT kvs)) (hz : kvs.length < sizeLine)
    (hb : H b = some (.tup (k.map kV))) (rv : RelV v r) (h : ∀ s', Inv X pins σ (upd H D (.dT (putK kvs k v))) s' → Q () s') : wpAny (model X.prog X.w) X.A (dictSet D (.ref b) r) Q E s := by
  obtain ⟨z, hd, xs, rel, dd⟩ := dt_of I.hok hD
  have hz' : xs.length ≤ sizeLine := by rw [← Paired.length rel]; exact z
  have hl : (putK kvs k v).length ≤ sizeLine := by have := length_putK kvs k v; omega
  refine wpAny_dictSet_heap (hsz := hz') (show X.A.units < cLine from Nat.lt_of_succ_lt hu) (key_of I.hok hb) dd fun h' dd' hs => h _ ?_
  obtain ⟨q, es, ep, hq, h2, h3, h4, _, h5⟩ := dd'
  refine d_write I (by rw [hD]; exact True.intro) hs ⟨q, hq⟩ ⟨hl, hd, _, (rel.put k hb rv).keeps fun c ys ec => ?_, q, es, ep, hq, h2, h3, h4, h5⟩
  rw [upd_ne (ne_of ec hD (fun z => nomatch z))]
  exact ec
section
variable {X : Cx}
def tDcT (wi : TI) (g : TG) (tk tv : TE) (vs : List Nat) : TE := fun σ H Q => wi σ H fun J H1 => ∀ D, H1 D = none → ∃ W : Nat → Nat → Hp → Prop, (∃ m, W 0 m (upd H1 D (.dT []))) ∧ ∀ i m H, W i m H →
  (J.stop i H ∧ Q (.ref D) H) ∨ (J.go i H ∧ ∃ Nx : Hp → Prop, (∀ H', Nx H' → ∃ m', m' < m ∧ W (i + 1) m' H') ∧ ∀ x H', J.yld i H x H' → g x (wipe σ vs) H' fun σ2 H2 => wipe σ2 vs = wipe σ vs ∧
    tk σ2 H2 fun y H4 => tv σ2 H4 fun z H5 => ∃ kvs k b, y = .ref b ∧ H5 b = some (.tup (k.map kV)) ∧ H5 D = some (.dT kvs) ∧ kvs.length < sizeLine ∧ Nx (upd H5 D (.dT (putK kvs k z))))
theorem ps_setDcT {i : Nat} {y : Str} {py : Pos} {kx vx tg iter : Expr} {scope : Scope} {own : List (Str × Nat)} {pos spos : Pos} {wi : TI} {g : TG} {tk tv : TE} (hu : X.A.units + 1 < cLine) (hc : X.calm = true) (hN : X.N.Nodup) (hy : X.N[i]? = some y) (hyl : X.env.scope.names.lookup y = some .local)
    (hsw : swapsWith (.DictComp kx vx [⟨tg, iter, [], 0⟩] scope pos) (some (.Name y py)) spos.line X.env = pure true) (hi : PI X tg iter wi) (ok : BlkOk X.N X.env.scope scope own)
    (hg : ∀ (s : Shared) (H : Hp) (C : Addr) (cl : List (Str × Addr)) (fp : List Addr), PG (X.blk s H scope (compEnvC scope cl C X.env) fp) tg g)
    (hk : ∀ (s : Shared) (H : Hp) (C : Addr) (cl : List (Str × Addr)) (fp : List Addr), PE (X.blk s H scope (compEnvC scope cl C X.env) fp) kx tk)
    (he : ∀ (s : Shared) (H : Hp) (C : Addr) (cl : List (Str × Addr)) (fp : List Addr), PE (X.blk s H scope (compEnvC scope cl C X.env) fp) vx tv) (hs : ∀ x, foldedSetIterable iter X.env x = pure x := by intro _; rfl) :
    PS X (.Assign [.Name y py] (.DictComp kx vx [⟨tg, iter, [], 0⟩] scope pos) spos) (tAsg (tDcT wi g tk tv (own.map (·.2))) (gName i)) := by
  refine ⟨fun pins s σ H Dn I h => ?_⟩
  rw [exec_Assign_Name_used _ _ _ _ hsw]
  refine wpAny_bind (wpAny_standAt (wpAny_bind ?_))
  show wpAny _ X.A (do let _ ← comprehension (.DictComp kx vx [⟨tg, iter, [], 0⟩] scope pos) scope X.env (firstIterPos [⟨tg, iter, [], 0⟩] pos) newDict false (eval iter X.env) (some (assign (.Name y py) X.env))) _ _ s
  have h : tDcT wi g tk tv (own.map (·.2)) σ H (fun x H1 => gName i x σ H1 Dn.nx) := h
  have hfree : ∀ y ∈ scope.names, y.2 = .free → ∃ c, X.env.cells.lookup y.1 = some c := fun y hy e => by
    rcases ok.free y hy e with k | k
    · exact I.ok.has _ (.inl k)
    · exact I.ok.has _ (.inr k)
  refine wpAny_bind (thn (Q := fun _ s' => SP X pins Dn .next s') ?_ fun _ s' hq => wpAny_pure (wpAny_pure hq))
  refine wpAny_comprehension_free (use := some (assign (.Name y py) X.env)) rfl hs (closure_ok hfree) ok.kind (fun y hy e => by rw [ok.uniq y hy, e])
    (thn (hi.run pins s σ H _ I h) fun xv s1 hx => thn hx fun itv s2 h2 => ?_)
  obtain ⟨it, fp, tn, J, H2, e, I2, T, st2, f2, q⟩ := h2
  subst e
  refine wpAny_newObj_type (newEnv_comp ?_)
  generalize hD : s2.heap.objs.size = D
  have hDn : H2 D = none := I2.hok.fresh (Nat.le_of_eq hD)
  obtain ⟨W, ⟨m0, w0⟩, turn⟩ := q D hDn
  generalize hs3 : ({ s2 with heap := s2.heap.push { cls := .type "dict", data := .dict #[] } } : Shared) = s3
  have h3 : s3.heap = s2.heap.push { cls := .type "dict", data := .dict #[] } := by rw [← hs3]
  have I3 : Inv X pins σ (upd H2 D (.dT [])) s3 := by
    rw [← hs3]
    refine I2.laid (t' := s2.toks) (fun b o e => Heap.get?_push_of_some _ e) (Nat.le_of_eq hD) ?_
    rw [← hD]
    exact dt_empty s2.heap I2.big
  have f3 : ∀ b ∈ fp, FpOk X pins (upd H2 D (.dT [])) b ∧ b < s3.heap.objs.size := fun b hb => by
    obtain ⟨o, e, _⟩ := T.obj _ _ st2 b hb
    have hlt := Heap.lt_size e
    refine ⟨⟨?_, (f2 b hb).2⟩, by rw [h3, Heap.size_push]; exact Nat.lt_succ_of_lt hlt⟩
    rw [upd_ne (by rw [← hD]; exact Nat.ne_of_lt hlt)]
    exact (f2 b hb).1
  have st3 : tn 0 s3.heap := T.keep _ _ _ st2 fun b _ o e => by rw [h3]; exact Heap.get?_push_of_some _ e
  have I4 := block_start I3 ok hN f3
  have pg := hg s3 (upd H2 D (.dT [])) s3.heap.objs.size (cellsFrom (s3.heap.objs.size + 1) scope.names (cloFrom X.env.cells scope.names [])) fp
  have pk := hk s3 (upd H2 D (.dT [])) s3.heap.objs.size (cellsFrom (s3.heap.objs.size + 1) scope.names (cloFrom X.env.cells scope.names [])) fp
  have pe := he s3 (upd H2 D (.dT [])) s3.heap.objs.size (cellsFrom (s3.heap.objs.size + 1) scope.names (cloFrom X.env.cells scope.names [])) fp
  show codeAny _ _ (.compStart (.DictComp kx vx [⟨tg, iter, [], 0⟩] scope pos) 0 (.ref it) (.ref D) (compEnvC scope (cellsFrom (s3.heap.objs.size + 1) scope.names (cloFrom X.env.cells scope.names [])) s3.heap.objs.size X.env)) (compPost (model X.prog X.w) X.A X.xe (some (assign (.Name y py) X.env)) (fun _ s' => SP X pins Dn .next s') (.ref D) s3.heap.objs.size) { s3 with heap := pushCells (s3.heap.push { cls := .type "dict", data := .dict #[] }) scope.names }
  have nfp : ∀ b ∈ fp, (upd H2 D (.dT [])) b = none := fun b hb => (f3 b hb).1.1
  generalize hce : compEnvC scope (cellsFrom (s3.heap.objs.size + 1) scope.names (cloFrom X.env.cells scope.names [])) s3.heap.objs.size X.env = ce at I4 pg pk pe ⊢
  have cL : ce.locals = s3.heap.objs.size := by subst hce; rfl
  generalize hH3 : upd H2 D (.dT []) = H3 at I3 I4 pg pk pe w0 nfp f3
  generalize hs4 : ({ s3 with heap := pushCells (s3.heap.push { cls := .type "dict", data := .dict #[] }) scope.names } : Shared) = s4 at I4 ⊢
  have st4 : tn 0 s4.heap := T.keep _ _ _ st3 fun b _ o e => by rw [← hs4]; exact pushCells_keeps _ _ _ _ (Heap.get?_push_of_some _ e)
  have stat : ∀ {σ' : L2.St} {H' : Hp} {s' : Shared}, Inv (X.blk s3 H3 scope ce fp) [] σ' H' s' → (∀ b ∈ fp, H' b = none) → ∀ b ∈ fp, FpOk (X.blk s3 H3 scope ce fp) [] H' b := fun {σ' H' s'} I' hn b hb =>
    ⟨hn b hb, (I'.ok.exf b hb).1, I'.ok.exfs b hb, .inl hb, fun x c e => (I'.ok.exf b hb).2 x c e, fun p hp => absurd (show p ∈ ([] : List (Addr × Obj)) ++ [] from hp) (by simp)⟩
  have loop : codeAny (model X.prog X.w) X.A (.compLoop (.DictComp kx vx [⟨tg, iter, [], 0⟩] scope pos) 0 (.ref it) (.ref D) ce) (compPost (model X.prog X.w) X.A X.xe (some (assign (.Name y py) X.env)) (fun _ s' => SP X pins Dn .next s') (.ref D) s3.heap.objs.size) s4 := by
    refine compLoop_anyD (fun n s' => ∃ i H', Inv (X.blk s3 H3 scope ce fp) [] (wipe σ (own.map (·.2))) H' s' ∧ tn i s'.heap ∧ (∀ b ∈ fp, H' b = none) ∧ W i n H') ?_ m0 ⟨0, H3, I4, st4, nfp, w0⟩
    rintro n s5 ⟨i5, H5, I5, st5, n5, w5⟩
    rcases turn i5 n H5 w5 with ⟨stop, qq⟩ | ⟨go, Nx, hNx, step⟩
    · refine thnF (T.done (X.blk s3 H3 scope ce fp) rfl rfl rfl hc i5 [] s5 _ H5 (fun _ _ => False) I5 (stat I5 n5) st5 stop) fun r s6 ⟨hr, I6⟩ => ?_
      subst hr
      have I7 : Inv X pins σ H5 s6 := I3.call' (ch := fp) I6.os I6.base I6.hok I6.bare fun b hb => ⟨(f3 b hb).1.2.2.2.1, (f3 b hb).1.2.1, (f3 b hb).1.2.2.2.2.1, (f3 b hb).1.2.2.2.2.2⟩
      have nC : H5 s3.heap.objs.size = none := by
        have z : H5 ce.locals = none := I6.free
        rw [cL] at z
        exact z
      obtain ⟨m, hn, _⟩ := I6.loc
      have hn : s6.heap.Ns ce.locals m := hn
      rw [cL] at hn
      obtain ⟨f0, f1, f2', f3', f4, f5⟩ := I3.fpOk (Nat.le_refl _) nC
      -- the store of the name
      show wpAny _ _ (assign (.Name y py) X.env (.ref D)) _ _ _
      refine wpAny_assign_Name (store_ok2 (v := V.ref D) I7 hN hy (.inl hyl) rfl (fun s2 I2 ⟨a, sb, ha⟩ => ?_) (.inr hyl))
      have haC : s3.heap.objs.size ≠ a := by
        rcases ha with z | z
        · rw [z]; exact f1
        · exact fun e => f4 y a z e.symm
      refine ⟨m, hn.sameBut sb haC, fun h3 sb3 => ?_⟩
      exact ⟨_, H5, I2.turned (t' := s2.toks) (fun b o hb e => (sb3.2 b hb).trans e) f0 f1 f3' f4 f5, qq⟩
    · refine thnF (T.item (X.blk s3 H3 scope ce fp) rfl rfl rfl hc i5 [] s5 _ H5 (fun _ _ => False) I5 (stat I5 n5) st5 go) fun r s6 ⟨u, hr, h6⟩ => ?_
      subst hr
      refine thnF h6 fun _ s7 ⟨x, H7, I7, r7, y7, st7, n7⟩ => ?_
      have I7' := I7.pinned (stat I7 n7) (T.obj _ _ st7)
      refine thnF (pg.run _ s7 _ H7 x u _ I7' r7 (step x H7 y7)) fun _ s8 ⟨σ8, H8, I8, hw8, q8⟩ => ?_
      refine wpAny_pure ?_
      simp only [if_true]
      refine thnF (pk.run _ s8 σ8 H8 _ I8 q8) fun z s10 ⟨yk, H10, I10, r10, q10⟩ => ?_
      refine thnF (pe.run _ s10 σ8 H10 _ I10 q10) fun z2 s11 ⟨yv, H11, I11, r11, kvs, k, b, ek, hb11, hD11, hz11, nx⟩ => ?_
      subst ek
      cases r10
      refine d_dictSetT (X := X.blk s3 H3 scope ce fp) hu I11 hD11 hz11 hb11 r11 fun s12 I12 => ?_
      obtain ⟨m', hm, w'⟩ := hNx _ nx
      have pin' : ∀ b ∈ fp, ∀ o, s7.heap.get? b = some o → s12.heap.get? b = some o ∧ (upd H11 D (.dT (putK kvs k yv))) b = none := fun b hb o e =>
        let z := I12.pin (b, o) (List.mem_append_right _ (List.mem_append_right _ (mem_pinsAt hb e)))
        ⟨z.1, z.2.1⟩
      have hl : (wipe σ (own.map (·.2))).length = σ8.length := by rw [← hw8, wipe_length]
      refine ⟨m', hm, i5 + 1, _, (I12.unpinned (pins := [])).weak hl (fun j v e => ?_), T.keep _ _ _ st7 fun b hb o e => (pin' b hb o e).1, fun b hb => ?_, w'⟩
      · rw [← hw8] at e
        exact (wipe_some e).1
      · obtain ⟨o, e, _⟩ := T.obj _ _ st7 b hb
        exact (pin' b hb o e).2
  exact codeAny_compStart_dict loop (T.self X.A 0 _ _ _ st4 loop)
end
end PL

-- PLj
/-! PLj: sorted, list, in, not in, == of the logic. -/
namespace PL
open PySem PySem.Spec PyProof.Rows L2
abbrev encK (k : List Int) : PyData := .tuple (k.map PyData.int)
theorem ims_perm {H : Hp} : ∀ {xs ys : List V}, xs.Perm ys → ∀ {ds : List PyData}, Ims H ds xs → ∃ es : List PyData, es.Perm ds ∧ Ims H es ys := by
  intro xs ys p
  induction p with
  | nil => intro ds h; exact ⟨ds, List.Perm.refl _, h⟩
  | cons x _ ih =>
    intro ds h
    cases h with
    | cons h1 h2 =>
      obtain ⟨es, p, r⟩ := ih h2
      exact ⟨_ :: es, p.cons _, .cons h1 r⟩
  | swap x y l =>
    intro ds h
    cases h with
    | cons h1 h2 =>
      cases h2 with
      | cons h2 h3 => exact ⟨_, List.Perm.swap _ _ _, .cons h2 (.cons h1 h3)⟩
  | trans _ _ ih1 ih2 =>
    intro ds h
    obtain ⟨es, p1, r1⟩ := ih1 h
    obtain ⟨fs, p2, r2⟩ := ih2 r1
    exact ⟨fs, p2.trans p1, r2⟩
theorem perm_map_inv {α β : Type} {f : α → β} : ∀ {l m : List β}, m.Perm l → ∀ {ks : List α}, m = ks.map f → ∃ ms : List α, l = ms.map f ∧ ms.Perm ks := by
  intro l m p
  induction p with
  | nil => intro ks e; exact ⟨ks, e, List.Perm.refl _⟩
  | cons x _ ih =>
    intro ks e
    cases ks with
    | nil => cases e
    | cons k r =>
      injection e with e1 e2
      obtain ⟨ms, h1, h2⟩ := ih e2
      exact ⟨k :: ms, by rw [h1, e1]; rfl, h2.cons k⟩
  | swap x y l =>
    intro ks e
    match ks, e with
    | k :: j :: r, e =>
      injection e with e1 e2
      injection e2 with e2 e3
      exact ⟨j :: k :: r, by rw [e1, e2, e3]; rfl, List.Perm.swap k j r⟩
  | trans _ _ ih1 ih2 =>
    intro ks e
    obtain ⟨ms, h1, p1⟩ := ih1 e
    obtain ⟨ns, h2, p2⟩ := ih2 h1
    exact ⟨ns, h2, p2.trans p1⟩
theorem ims_tk {H : Hp} {ks : List (List Int)} {xs : List V} (h : TK H (ks.map fun k => ((k.map Sum.inl : List Key), V.bl true)) xs) : Ims H (ks.map encK) xs := by
  obtain ⟨h1, h2⟩ := h
  rw [List.length_map] at h1
  induction ks generalizing xs with
  | nil => cases xs with
    | nil => exact .nil
    | cons _ _ => simp at h1
  | cons k r ih => cases xs with
    | nil => simp at h1
    | cons x ys =>
      obtain ⟨b, e1, e2⟩ := h2 0 _ rfl
      simp at e1
      subst e1
      refine .cons (.tup e2 ?_) (ih (by simpa using h1) fun i kv hi => ?_)
      · rw [List.map_map]; exact Ims.of_ints k
      · obtain ⟨b, e1, e2⟩ := h2 (i + 1) kv (by simpa using hi)
        exact ⟨b, by simpa using e1, e2⟩
section
variable {X : Cx} {ρ : List SD} {Φ Ψ Θ : SD → Prop} {pos : Pos} {a b c e : Expr} {es : List Expr} {i j : Int} {x y : PyData}
/-- sorted(d), int keys -/
theorem xf_sortedK {ad : Addr} {ks : List Int} {p : Pos} (ha : XE X ρ a (fun r => r = .ok ad ks)) (h64 : ks.length < 64) (hm : X.mg "sorted" = none) (hc : X.calm = true := by rfl) (hg : Gl X "sorted" := by rfl) (hb : bootBuiltins "sorted" = some (.builtin "sorted") := by decide +kernel) (hs : starEach [a] X.env = (false, eval a X.env) :: starEach [] X.env := by rfl) :
    XF X ρ (.Call (.Name "sorted" p) [a] [] pos) (fun z => ∃ ms : List Int, z = ms.map PyData.int ∧ ms.Perm ks) :=
  PE.imp (pe_callB (call_sortedDI hc) hg hm hb (pa_cons ha pa_nil hs) (he := hs)) fun σ H Q ⟨G, S, k⟩ => ⟨G, S, fun v H1 x e1 r1 p1 => by
    subst p1
    obtain ⟨rfl, _, h1⟩ := r1
    refine ⟨ad, _, ks, rfl, .inl h1, by rw [List.map_map]; rfl, h64, fun ys p pm _ np => ?_⟩
    have e2 : Ext G H1 (upd H1 p (.lst (ys.map V.int))) := Ext.new e1.strm np
    exact k p _ _ _ (Ext.fresh S.strm e1 np) (e1.trans e2) upd_same (Ims.of_ints ys) ⟨ys, rfl, pm⟩⟩
/-- sorted(d), keys tuples of ints -/
theorem xf_sortedT {ad : Addr} {ks : List (List Int)} {p : Pos} (ha : XE X ρ a (fun r => r = .ot ad ks)) (hne : ∀ k ∈ ks, k ≠ []) (hm : X.mg "sorted" = none) (hc : X.calm = true := by rfl) (hg : Gl X "sorted" := by rfl) (hb : bootBuiltins "sorted" = some (.builtin "sorted") := by decide +kernel) (hs : starEach [a] X.env = (false, eval a X.env) :: starEach [] X.env := by rfl) :
    XF X ρ (.Call (.Name "sorted" p) [a] [] pos) (fun z => ∃ ms : List (List Int), z = ms.map encK ∧ ms.Perm ks) :=
  PE.imp (pe_callB (call_sortedDT hc) hg hm hb (pa_cons ha pa_nil hs) (he := hs)) fun σ H Q ⟨G, S, k⟩ => ⟨G, S, fun v H1 x e1 r1 p1 => by
    subst p1
    obtain ⟨rfl, _, h1⟩ := r1
    refine ⟨ad, _, rfl, .inl h1, fun kv hkv => ?_, fun xs ys p tk pm np => ?_⟩
    · obtain ⟨q, hq, rfl⟩ := List.mem_map.mp hkv
      match q, hne q hq with
      | n :: ns, _ => exact ⟨n, ns, rfl⟩
    · have e2 : Ext G H1 (upd H1 p (.lst ys)) := Ext.new e1.strm np
      obtain ⟨fs, q1, q2⟩ := ims_perm pm.symm (ims_tk tk)
      obtain ⟨ms, rfl, q3⟩ := perm_map_inv q1.symm rfl
      exact k p _ _ _ (Ext.fresh S.strm e1 np) (e1.trans e2) upd_same (q2.mono e2.tups) ⟨ms, rfl, q3⟩⟩
/-- list(d), keys tuples of ints -/
theorem xf_listT {ad : Addr} {ks : List (List Int)} {p : Pos} (ha : XE X ρ a (fun r => r = .ot ad ks)) (hm : X.mg "list" = none) (hc : X.calm = true := by rfl) (hg : Gl X "list" := by rfl) (hb : bootBuiltins "list" = some (.type "list") := by decide +kernel) (hs : starEach [a] X.env = (false, eval a X.env) :: starEach [] X.env := by rfl) :
    XF X ρ (.Call (.Name "list" p) [a] [] pos) (fun z => z = ks.map encK) :=
  PE.imp (pe_callTy (call_listT hc) hg hm hb (pa_cons ha pa_nil hs) (he := hs)) fun σ H Q ⟨G, S, k⟩ => ⟨G, S, fun v H1 x e1 r1 p1 => by
    subst p1
    obtain ⟨rfl, _, h1⟩ := r1
    refine ⟨ad, _, rfl, .inl h1, fun ys p tk np => ?_⟩
    have e2 : Ext G H1 (upd H1 p (.lst ys)) := Ext.new e1.strm np
    exact k p _ _ _ (Ext.fresh S.strm e1 np) (e1.trans e2) upd_same ((ims_tk tk).mono e2.tups) rfl⟩
theorem ims_tis {H : Hp} : ∀ {ks : List (List Int)} {xs : List V}, Ims H (ks.map encK) xs → (∀ k ∈ ks, k ≠ []) → ∀ x ∈ xs, TIs H x
  | [], _, h, _ => by cases h; exact fun _ z => nomatch z
  | k :: ks, _, h, hn => by
    cases h with
    | cons h1 h2 =>
      intro x hx
      rcases List.mem_cons.mp hx with e | hx
      · subst e
        obtain ⟨b, ys, rfl, q1, q2⟩ := Im.tup_inv h1
        match k, hn k (by simp), q2 with
        | n :: ns, _, q2 => exact ⟨b, n, ns, rfl, by rw [← q2.ints]; exact q1⟩
      · exact ims_tis h2 (fun k hk => hn k (by simp [hk])) x hx
/-- sorted(xs), a list of tuples of ints -/
theorem xf_sortedL {ks : List (List Int)} {p : Pos} {A : List (List Int) → Prop} {B : List PyData → Prop} (ha : XE X ρ a (fun r => ∃ ks, r = .l (ks.map encK) ∧ A ks)) (hne : ∀ ks, A ks → ∀ k ∈ ks, k ≠ []) (hB : ∀ (ks ms : List (List Int)), A ks → ms.Perm ks → B (ms.map encK)) (hm : X.mg "sorted" = none) (hg : Gl X "sorted" := by rfl) (hb : bootBuiltins "sorted" = some (.builtin "sorted") := by decide +kernel) (hs : starEach [a] X.env = (false, eval a X.env) :: starEach [] X.env := by rfl) :
    XF X ρ (.Call (.Name "sorted" p) [a] [] pos) B :=
  PE.imp (pe_callB cr_sortTL hg hm hb (pa_cons ha pa_nil hs) (he := hs)) fun σ H Q ⟨G, S, k⟩ => ⟨G, S, fun v H1 x e1 r1 p1 => by
    obtain ⟨ks, rfl, hA⟩ := p1
    obtain ⟨t, xs, rfl, _, h1, h2⟩ := r1
    refine ⟨t, xs, rfl, SqL.of h1, ims_tis h2 (hne ks hA), fun ys p pm np => ?_⟩
    have e2 : Ext G H1 (upd H1 p (.lst ys)) := Ext.new e1.strm np
    obtain ⟨fs, q1, q2⟩ := ims_perm pm.symm h2
    obtain ⟨ms, rfl, q3⟩ := perm_map_inv q1.symm rfl
    exact k p _ _ _ (Ext.fresh S.strm e1 np) (e1.trans e2) upd_same (q2.mono e2.tups) (hB ks ms hA q3)⟩
/-- k not in d -/
theorem xt_notinT {ad : Addr} {ks : List (List Int)} {k : List Int} (ha : XD X ρ a (encK k)) (hb : XE X ρ b (fun r => r = .ot ad ks)) (hu : X.A.units + 1 < cLine) (h1 : behindInMarks .NotIn b = false := by first | exact nobehind _ (by decide) (by decide) | rfl) : XB X ρ (.Compare a [.NotIn] [b] pos) (!decide (k ∈ ks)) :=
  PT.imp (pt_cmp (pc_dnotin hu ha hb) h1) fun σ H Q ⟨G, S, q⟩ => ⟨G, S, fun v H1 x e1 r1 p1 => ⟨G, S.mono e1, fun w H2 y e2 r2 p2 => by
    subst p1; subst p2
    obtain ⟨rfl, _, h2⟩ := r2
    obtain ⟨t, xs, rfl, h3, h4⟩ := Im.tup_inv (r1.mono e2)
    rw [h4.keys] at h3
    refine ⟨ad, _, rfl, DGet.t h2 h3, _, rfl, q _ H2 (e1.trans e2) ?_⟩
    have ea : (valV (ks.map fun k => ((k.map Sum.inl : List Key), V.bl true)) (k.map Sum.inl)).isSome = decide (k ∈ ks) := by
      rw [← valV_any, List.any_map, Bool.eq_iff_iff]
      simp only [List.any_eq_true, Function.comp_apply, decide_eq_true_eq]
      constructor
      · rintro ⟨j, hj, e⟩
        rw [← mapInl_inj e]; exact hj
      · exact fun h => ⟨k, h, rfl⟩
    rw [ea]⟩⟩

/-! ### in a list -/
theorem inV_ints (i : Int) (ns : List Int) : inV (.int i) (ns.map V.int) = decide (i ∈ ns) := by
  unfold inV
  rw [List.any_map, Bool.eq_iff_iff, List.any_eq_true]
  simp only [Function.comp_apply, eqV, beq_iff_eq, decide_eq_true_eq]
  constructor
  · rintro ⟨j, hj, e⟩; exact e ▸ hj
  · exact fun h => ⟨i, h, rfl⟩
theorem inV_bls (t : Bool) (bs : List Bool) : inV (.bl t) (bs.map V.bl) = decide (t ∈ bs) := by
  unfold inV
  rw [List.any_map, Bool.eq_iff_iff, List.any_eq_true]
  simp only [Function.comp_apply, eqV, beq_iff_eq, decide_eq_true_eq]
  constructor
  · rintro ⟨j, hj, e⟩; exact e ▸ hj
  · exact fun h => ⟨t, h, rfl⟩
theorem xt_inI {ns : List Int} (ha : XD X ρ a (.int i)) (hb : XE X ρ b (fun r => r = .l (ns.map PyData.int))) (h1 : behindInMarks .In b = false := by first | exact nobehind _ (by decide) (by decide) | rfl) : XB X ρ (.Compare a [.In] [b] pos) (decide (i ∈ ns)) :=
  xt_cmp op_in_seq h1 ha hb fun x y G H v w hx hy s rx ry Q q => by
    subst hx; subst hy
    obtain ⟨t, xs, rfl, _, h1, h2⟩ := ry
    cases Im.int_inv rx
    rw [h2.ints] at h1
    refine ⟨t, _, rfl, .inl (SqL.of h1), rfl, by simp [flatV], ?_⟩
    rw [if_neg (by decide), inV_ints]
    exact q _ H (.d (.bool _)) (Ext.refl s) (.bl _) ⟨_, rfl, rfl⟩
theorem xt_inB {t : Bool} {bs : List Bool} (ha : XD X ρ a (.bool t)) (hb : XE X ρ b (fun r => r = .l (bs.map PyData.bool))) (h1 : behindInMarks .In b = false := by first | exact nobehind _ (by decide) (by decide) | rfl) : XB X ρ (.Compare a [.In] [b] pos) (decide (t ∈ bs)) :=
  xt_cmp op_in_seq h1 ha hb fun x y G H v w hx hy s rx ry Q q => by
    subst hx; subst hy
    obtain ⟨l, xs, rfl, _, h1, h2⟩ := ry
    cases Im.bl_inv rx
    rw [h2.bls] at h1
    refine ⟨l, _, rfl, .inl (SqL.of h1), rfl, by simp [flatV], ?_⟩
    rw [if_neg (by decide), inV_bls]
    exact q _ H (.d (.bool _)) (Ext.refl s) (.bl _) ⟨_, rfl, rfl⟩
theorem canLay_int : ∀ k : List Int, PyData.canLayAll0 (k.map PyData.int) = true
  | [] => rfl
  | _ :: r => by simp [PyData.canLayAll0, PyData.canLay0, canLay_int r]
theorem depth_int : ∀ k : List Int, PyData.depthAll (k.map PyData.int) = 0
  | [] => rfl
  | _ :: r => by simp [PyData.depthAll, PyData.depth, depth_int r]
theorem shaped_k (k : List Int) : SeqAt.shaped (encK k) = true := by
  unfold SeqAt.shaped
  simp [PyData.canLay0, PyData.depth, canLay_int k, depth_int k]
theorem canLay_ks : ∀ ks : List (List Int), PyData.canLayAll0 (ks.map encK) = true
  | [] => rfl
  | k :: r => by simp [PyData.canLayAll0, PyData.canLay0, canLay_int k, canLay_ks r]
theorem depth_ks : ∀ ks : List (List Int), PyData.depthAll (ks.map encK) ≤ 1
  | [] => by simp [PyData.depthAll]
  | k :: r => by
    have := depth_ks r
    simp only [List.map_cons, PyData.depthAll, PyData.depth, depth_int k]
    omega
theorem shaped_ks (ks : List (List Int)) : SeqAt.shaped (.list (ks.map encK)) = true := by
  unfold SeqAt.shaped
  have := depth_ks ks
  simp [PyData.canLay0, PyData.depth, canLay_ks ks]
  omega
theorem eqv_int : ∀ k j : List Int, PyData.eqvAll (k.map PyData.int) (j.map PyData.int) = decide (k = j)
  | [], [] => by simp [PyData.eqvAll]
  | [], _ :: _ => by simp [PyData.eqvAll]
  | _ :: _, [] => by simp [PyData.eqvAll]
  | x :: k, y :: j => by
    rw [List.map_cons, List.map_cons]
    simp only [PyData.eqvAll, PyData.eqv, eqv_int k j]
    by_cases h : x = y
    · subst h; simp
    · simp [h]
theorem eqv_k (k j : List Int) : PyData.eqv (encK k) (encK j) = decide (k = j) := eqv_int k j
/-- k not in xs -/
theorem xt_notinL {ks : List (List Int)} {k : List Int} (ha : XD X ρ a (encK k)) (hb : XE X ρ b (fun r => r = .l (ks.map encK))) (hu : X.A.units + 65 < cLine) (h1 : behindInMarks .NotIn b = false := by first | exact nobehind _ (by decide) (by decide) | rfl) : XB X ρ (.Compare a [.NotIn] [b] pos) (!decide (k ∈ ks)) :=
  xt_cmp (op_notInD hu) h1 ha hb fun x y G H v w hx hy s rx ry Q q => by
    subst hx; subst hy
    obtain ⟨l, xs, rfl, _, h1, h2⟩ := ry
    refine ⟨encK k, ks.map encK, rx.dp, .lst (SqL.of h1) h2.dp, shaped_k k, shaped_ks ks, ?_⟩
    have e : ((ks.map encK).any fun z => PyData.eqv z (encK k)) = decide (k ∈ ks) := by
      rw [List.any_map, Bool.eq_iff_iff, List.any_eq_true]
      simp only [Function.comp_apply, eqv_k, decide_eq_true_eq]
      constructor
      · rintro ⟨j, hj, e⟩; exact e ▸ hj
      · exact fun h => ⟨k, h, rfl⟩
    rw [e]
    exact q _ H (.d (.bool _)) (Ext.refl s) (.bl _) ⟨_, rfl, rfl⟩
/-- == of tuples of ints -/
theorem xt_eqK {k j : List Int} (ha : XD X ρ a (encK k)) (hb : XD X ρ b (encK j)) (hu : X.A.units + 64 < cLine) : XB X ρ (.Compare a [.Eq] [b] pos) (decide (k = j)) :=
  xt_cmp (op_eqD hu) (nomark _) ha hb fun x y G H v w hx hy s rx ry Q q => by
    subst hx; subst hy
    refine ⟨encK k, encK j, rx.dp, ry.dp, shaped_k k, shaped_k j, ?_⟩
    rw [eqv_k]
    exact q _ H (.d (.bool _)) (Ext.refl s) (.bl _) ⟨_, rfl, rfl⟩

/-! ### x = {k: True for ..} -/
variable {tg iter kx : Expr} {scope : Scope} {own : List (Str × Nat)} {spos py : Pos} {nm : Str} {R : SD → Prop}
theorem xs_setDc (i : Nat) {ds : List PyData} {g : TG} {ok : PyData → Prop} {f : PyData → List SD → List SD} {is : List Nat} {jj : Nat} {bpos : Pos} (F : PyData → List Int) (hu : X.A.units + 1 < cLine) (hi : XIc X ρ tg iter (fun z => z = ds)) (sg : SG g ok f is)
    (hg : ∀ (s : Shared) (H : Hp) (C : Addr) (cl : List (Str × Addr)) (fp : List Addr), PG (X.blk s H scope (compEnvC scope cl C X.env) fp) tg g)
    (he : ∀ d, d ∈ ds → ok d ∧ ∀ (s : Shared) (H : Hp) (C : Addr) (cl : List (Str × Addr)) (fp : List Addr), XD (X.blk s H scope (compEnvC scope cl C X.env) fp) (f d (wipeR ρ (ownS own))) kx (encK (F d)))
    (hl : ds.length ≤ 50000) (hN : X.N.Nodup) (okb : BlkOk X.N X.env.scope scope own) (hsw : swapsWith (.DictComp kx (.Constant (.bool true) jj bpos) [⟨tg, iter, [], 0⟩] scope pos) (some (.Name nm py)) spos.line X.env = pure true) (his : ∀ i ∈ is, i ∈ ownS own := by decide)
    (hy : X.N[i]? = some nm := by rfl) (hyl : X.env.scope.names.lookup nm = some .local := by rfl) (hc : X.calm = true := by rfl) (hs : ∀ x, foldedSetIterable iter X.env x = pure x := by intro _; rfl) :
    XS X ρ (.Assign [.Name nm py] (.DictComp kx (.Constant (.bool true) jj bpos) [⟨tg, iter, [], 0⟩] scope pos) spos) (fun ρ' => ∃ ad, ρ' = ρ.set i (.ot ad (ds.foldl (fun ks d => putL ks (F d)) []))) R := by
  refine PS.imp (ps_setDcT hu hc hN hy hyl hsw hi okb hg (fun s H C cl fp => PE.uni (X := X.blk s H scope (compEnvC scope cl C X.env) fp) (e := kx) (ι := PyData) (t := fun d => tE (f d (wipeR ρ (ownS own))) (fun r => r = .d (encK (F d)))) (P := fun d => d ∈ ds) fun d hd => (he d hd).2 s H C cl fp)
    (fun s H C cl fp => pe_bl) hs) fun Dn σ H ⟨G0, G, l, s0, S, nx, rt⟩ => ⟨G, S, fun J H1 ds' Gd e1 hp hG w D nD => ?_⟩
  have hp : ds' = ds := hp
  subst hp
  have S1 := S.mono e1
  have nD0 : G.H0 D = none := S1.fresh0 nD
  have nDs : ¬ isS G D := fun ⟨sl, es⟩ => by
    obtain ⟨_, _, c, k, h3, _⟩ := S1.strm D sl es
    rw [nD] at h3; cases h3
  have noD : ∀ i, ownAt (wipeR ρ (ownS own)) i ≠ some D := fun i z => by
    obtain ⟨_, _, u, hu, _⟩ := (S1.wipe (ownS own)).owned z
    rw [nD] at hu; cases hu
  have plen : ∀ (l : List PyData), (l.foldl (fun ks d => putL ks (F d)) []).length ≤ l.length := by
    have key : ∀ (l : List PyData) (acc : List (List Int)), (l.foldl (fun ks d => putL ks (F d)) acc).length ≤ acc.length + l.length := by
      intro l
      induction l with
      | nil => intro acc; simp
      | cons d r ih =>
        intro acc
        rw [List.foldl_cons]
        have h1 := ih (putL acc (F d))
        have h2 : (putL acc (F d)).length ≤ acc.length + 1 := by
          unfold putL; split
          · omega
          · simp
        rw [List.length_cons]
        omega
    intro l
    simpa using key l []
  refine ⟨fun i m H2 => m = ds'.length - i ∧ i ≤ ds'.length ∧ StOk G H2 (L2.wipe σ (ownS own)) (wipeR ρ (ownS own)) ∧ Ext G H1 H2 ∧ H2 D = some (dTof ((ds'.take i).foldl (fun ks d => putL ks (F d)) [])),
    ⟨ds'.length, by simp, Nat.zero_le _, (S1.wipe (ownS own)).mono (Ext.new e1.strm nD), Ext.new e1.strm nD, upd_same⟩, ?_⟩
  rintro i2 m H2 ⟨rfl, hle, S2, e2, hD⟩
  obtain ⟨go, stop⟩ := w H2 (hG H2 e2) i2
  by_cases hlt : i2 < ds'.length
  · have hd := List.getElem?_eq_getElem hlt
    have hm : ds'[i2] ∈ ds' := List.getElem_mem hlt
    generalize ds'[i2] = d at hd hm
    obtain ⟨g1, g2⟩ := go _ hd
    refine .inr ⟨g1, fun H3 => i2 + 1 ≤ ds'.length ∧ StOk G H3 (L2.wipe σ (ownS own)) (wipeR ρ (ownS own)) ∧ Ext G H1 H3 ∧ H3 D = some (dTof ((ds'.take (i2 + 1)).foldl (fun ks d => putL ks (F d)) [])), fun H3 q => ⟨ds'.length - (i2 + 1), by omega, rfl, q⟩, fun v H3 y => ?_⟩
    obtain ⟨sm, iv⟩ := g2 v H3 y
    have e3 : Ext G H2 H3 := Ext.same S2.strm sm
    refine sg.run G H3 _ _ _ v _ (he d hm).1 (S2.mono e3) iv fun σ4 S4 hw => ?_
    refine ⟨by rw [hw (ownS own) his, wipe_idem], ?_⟩
    refine ⟨d, hm, G, S4, fun z H5 r e5 r5 p5 => ?_⟩
    have p5 : r = .d (encK (F d)) := p5
    subst p5
    have e25 := e3.trans e5
    have hD5 := e25.keep _ _ hD nDs
    obtain ⟨t, xs, rfl, q1, q2⟩ := Im.tup_inv r5
    rw [q2.keys] at q1
    refine ⟨_, (F d).map Sum.inl, t, rfl, q1, hD5, sz_lt ?_, hlt, (S2.mono e25).other nD0 hD5 trivial noD, ?_, ?_⟩
    · rw [List.length_map]
      have := plen (ds'.take i2)
      rw [List.length_take] at this
      omega
    · have e15 := e2.trans e25
      have ne : ∀ c u, H1 c = some u → c ≠ D := fun c u hc zz => by subst zz; rw [nD] at hc; cases hc
      exact ⟨fun c u hc hs => by rw [upd_ne (ne c u hc)]; exact e15.keep c u hc hs, ((S2.mono e25).other nD0 hD5 trivial noD).strm, fun c xs hc => by rw [upd_ne (ne c _ hc)]; exact e15.tups c xs hc⟩
    · rw [upd_same, List.take_add_one, hd, List.foldl_append]
      show some (HO.dT (putK _ _ _)) = some (dTof (putL _ (F d)))
      rw [putL_put]
  · have e : i2 = ds'.length := by omega
    subst e
    rw [List.take_length] at hD
    refine .inl ⟨stop (Nat.le_refl _), nx G _ H2 _ (Le.refl G) ((S.mono (e1.trans e2)).set i (r := .ot D _) ⟨rfl, nD0, hD⟩ fun b eb j hj => ?_) ⟨D, rfl⟩⟩
    cases eb
    obtain ⟨_, _, u, hu, _⟩ := S1.owned hj
    rw [nD] at hu; cases hu
end
end PL

-- PLk
/-! PLk: more on values not wholly known. -/
namespace PL
open PySem PySem.Spec PyProof.Rows L2
theorem cut_take (ds : List PyData) (k : Nat) : cutD ds none (some (k : Int)) = ds.take k := by
  unfold cutD
  rw [HT.sIx_none, HT.sIx_nat, List.drop_zero, Nat.sub_zero, Nat.min_def]
  split
  · rfl
  · rw [List.take_of_length_le (Nat.le_refl _), List.take_of_length_le (by omega)]
theorem cut_drop (ds : List PyData) (k : Nat) : cutD ds (some (k : Int)) none = ds.drop k := by
  unfold cutD
  rw [HT.sIx_none, HT.sIx_nat]
  by_cases h : k ≤ ds.length
  · rw [Nat.min_eq_left h, List.take_of_length_le (by rw [List.length_drop]; exact Nat.le_refl _)]
  · rw [Nat.min_eq_right (by omega), List.drop_of_length_le (Nat.le_refl _), List.drop_of_length_le (by omega)]; simp
theorem at_last {ds : List PyData} (h : 0 < ds.length) : atI ds (-1) = ds[ds.length - 1]? := by
  unfold atI ixN
  rw [if_neg (by decide), if_pos (by omega)]
  show ds[(-1 + (ds.length : Int)).toNat]? = _
  congr 1
  omega
section
variable {X : Cx} {ρ : List SD} {Φ Ψ Θ : SD → Prop} {pos : Pos} {a b c e tg iter elt : Expr} {es : List Expr} {i j : Int} {x y : PyData} {scope : Scope} {own : List (Str × Nat)}
/-- unknown items, each of a known value -/
theorem lcDN {Φ : List PyData → Prop} {g : TG} {ok : PyData → Prop} {f : PyData → List SD → List SD} {is : List Nat} (F : PyData → PyData) (hi : XIc X ρ tg iter Φ) (sg : SG g ok f is)
    (hg : ∀ (s : Shared) (H : Hp) (C : Addr) (cl : List (Str × Addr)) (fp : List Addr), PG (X.blk s H scope (compEnvC scope cl C X.env) fp) tg g)
    (he : ∀ ds, Φ ds → ∀ d, d ∈ ds → ok d ∧ ∀ (s : Shared) (H : Hp) (C : Addr) (cl : List (Str × Addr)) (fp : List Addr), XD (X.blk s H scope (compEnvC scope cl C X.env) fp) (f d (wipeR ρ (ownS own))) elt (F d))
    (hl : ∀ ds, Φ ds → ds.length ≤ 50000) (his : ∀ i ∈ is, i ∈ ownS own := by decide) : LcN X ρ tg iter elt scope own (fun z => ∃ ds, Φ ds ∧ z = ds.map F) :=
  ⟨⟨Φ, g, ok, f, is, fun ds' i out => out = (ds'.take i).map F, hi, sg, his, hg, fun ds' e => ⟨by simp, hl ds' e⟩, fun ds' i d out e hd ho => by
    obtain ⟨h1, h2⟩ := he ds' e d (List.mem_of_getElem? hd)
    refine ⟨h1, _, h2, fun r hr => ⟨F d, hr, ?_⟩⟩
    have ho : out = (ds'.take i).map F := ho
    show out ++ [F d] = (ds'.take (i + 1)).map F
    rw [List.take_add_one, hd, List.map_append, ho]
    rfl, fun ds' out e ho => ⟨ds', e, by rw [ho, List.take_length]⟩⟩⟩
theorem xe_anyN {t : Bool} {A : List Bool → Prop} {p : Pos} (ha : XE X ρ a (fun r => ∃ bs : List Bool, r = .l (bs.map PyData.bool) ∧ A bs)) (hA : ∀ bs, A bs → bs.any id = t) (hm : X.mg "any" = none) (hc : X.calm = true := by rfl) (hg : Gl X "any" := by rfl) (hb : bootBuiltins "any" = some (.builtin "any") := by decide +kernel) (hs : starEach [a] X.env = (false, eval a X.env) :: starEach [] X.env := by rfl) :
    XD X ρ (.Call (.Name "any" p) [a] [] pos) (.bool t) :=
  PE.imp (pe_callB (cr_any hc) hg hm hb (pa_cons ha pa_nil hs) (he := hs)) fun σ H Q ⟨G, S, k⟩ => ⟨G, S, fun v H1 x e1 r1 p1 => by
    obtain ⟨bs, rfl, hA'⟩ := p1
    obtain ⟨l, xs, rfl, _, h1, h2⟩ := r1
    rw [h2.bls] at h1
    exact ⟨l, bs, rfl, SqL.of h1, k _ H1 (.d (.bool (bs.any id))) e1 (.bl _) (by rw [hA bs hA'])⟩⟩
section
variable {N M : List SD → Prop} {R : SD → Prop} {A B rest : List Stmt}
theorem xss_ifY {p : Bool} (hc : XB X ρ c p) (hp : p = true) (h1 : XSs X ρ A M R) (h2 : ∀ ρ', M ρ' → XSs X ρ' rest N R) : XSs X ρ (.If c A B pos :: rest) N R :=
  xss_cons (xs_if hc (fun _ => h1) fun h => by rw [hp] at h; cases h) h2
theorem xss_ifN {p : Bool} (hc : XB X ρ c p) (hp : p = false) (h1 : XSs X ρ B M R) (h2 : ∀ ρ', M ρ' → XSs X ρ' rest N R) : XSs X ρ (.If c A B pos :: rest) N R :=
  xss_cons (xs_if hc (fun h => by rw [hp] at h; cases h) fun _ => h1) h2
/-- a loop over nothing -/
theorem xss_for0 {g : TG} {ok : PyData → Prop} {f : PyData → List SD → List SD} {is : List Nat} {body : List Stmt} (hi : XI X ρ tg iter (fun z => z = [])) (hg : PG X tg g) (sg : SG g ok f is) (h : XSs X ρ rest N R)
    (hc : X.calm = true := by rfl) (hp : PassesOwn (model X.prog X.w) X.A X.env X.xe := by exact PassesOwn.never) (hs : ∀ x, foldedSetIterable iter X.env x = pure x := by intro _; rfl) : XSs X ρ (.For tg iter body [] pos :: rest) N R :=
  xss_cons (M := fun ρ' => ρ' = ρ) (xs_forD (ds := []) (fun _ ρ' => ρ' = ρ) hi hg sg rfl (fun i d ρ' hd _ => by simp at hd) (fun ρ' e => e) hc hp hs) fun ρ' e => by rw [e]; exact h
end
/-- known items in a row -/
def XAd (X : Cx) (ρ : List SD) (es : List Expr) (ds : List PyData) : Prop := XA X ρ es (fun z => z = ds.map SD.d)
theorem xd_nil : XAd X ρ [] [] := xa_nil
theorem xd_cons {ds : List PyData} (ha : XD X ρ e x) (hr : XAd X ρ es ds) (hs : starEach (e :: es) X.env = (false, eval e X.env) :: starEach es X.env := by rfl) : XAd X ρ (e :: es) (x :: ds) := xa_cons ha hr hs
theorem xe_tupA {ds : List PyData} {k0 : Nat} (h : XAd X ρ es ds) (hl : ds.length ≤ 100000 := by first | decide | (simp only [List.length_cons, List.length_nil]; decide) | simp) : XD X ρ (.Tuple es k0 pos) (.tuple ds) := xe_tup h hl
theorem xf_lstA {ds : List PyData} (h : XAd X ρ es ds) (hl : ds.length ≤ 100000 := by first | decide | (simp only [List.length_cons, List.length_nil]; decide) | simp) : XF X ρ (.List es pos) (fun z => z = ds) := xf_lst h hl
theorem XF.toLN {A B : List PyData → Prop} (h : XF X ρ e A) (w : ∀ ds, A ds → B ds) : XE X ρ e (fun r => ∃ ds, r = .l ds ∧ B ds) := XE.weak h.toE fun r ⟨ds, e1, e2⟩ => ⟨ds, e1, w ds e2⟩
end
end PL

-- PLm
/-! PLm: the stream; whole numbers not known. -/
namespace PL
open PySem PySem.Spec PyProof.Rows L2
abbrev NN : SD → Prop := fun r => ∃ n : Nat, r = .d (.int (n : Int))
theorem Ext.strm_set {G : Gh} {H : Hp} {l sl : Addr} (s : SOk G H) (e : G.so = some (l, sl)) (c k : Nat) : Ext G H (upd H l (.lst [.ref sl, .int c, .int k])) := by
  obtain ⟨h1, ⟨ns, h2⟩, c0, k0, h3, h4⟩ := s l sl e
  refine ⟨fun a u h n => ?_, fun l' sl' e' => ?_, fun a xs h => ?_⟩
  · rw [upd_ne (fun z => n ⟨sl, by rw [z]; exact e⟩)]; exact h
  · rw [e] at e'
    cases e'
    exact ⟨h1, ⟨ns, by rw [upd_ne h1]; exact h2⟩, c, k, upd_same, by omega, by omega⟩
  · rw [upd_ne (fun z => by rw [z, h3] at h; cases h)]; exact h
section
variable {X : Cx} {ρ : List SD} {Φ Ψ Θ : SD → Prop} {pos p' : Pos} {a b c e : Expr} {i j : Int} {x y : PyData} {nm : Str} {ns : List Int} {R : SD → Prop} {N : List SD → Prop} {A B rest : List Stmt}
/-- the stream's script -/
theorem xe_st0 (ha : XE X ρ a (fun r => r = .st ns)) {k : Nat} {pc : Pos} : XE X ρ (.Subscript a (.Constant (.int 0) k pc) pos) (fun r => r = .l (ns.map PyData.int)) :=
  xe_tOp (Ψ := fun r => r = .d (.int 0)) (pe_ix ix_list ha xe_int (by intro _ _; rfl)) fun x y G H v w hx hy s rx ry Q q => by
    subst hx; subst hy
    obtain ⟨l, sl, e, rfl, h1, h2⟩ := rx
    obtain ⟨_, _, c, k, h3, _⟩ := s l sl e
    refine ⟨l, _, 0, .ref sl, rfl, Im.int_inv ry, SqL.of h3, rfl, q _ H (.l (ns.map PyData.int)) (Ext.refl s) ⟨sl, _, rfl, notS e h2, h1, Ims.of_ints ns⟩ rfl⟩
theorem xe_st1 (ha : XE X ρ a (fun r => r = .st ns)) {k : Nat} {pc : Pos} : XE X ρ (.Subscript a (.Constant (.int 1) k pc) pos) NN :=
  xe_tOp (Ψ := fun r => r = .d (.int 1)) (pe_ix ix_list ha xe_int (by intro _ _; rfl)) fun x y G H v w hx hy s rx ry Q q => by
    subst hx; subst hy
    obtain ⟨l, sl, e, rfl, h1, h2⟩ := rx
    obtain ⟨_, _, c, k, h3, h4, h5⟩ := s l sl e
    refine ⟨l, _, 1, .int c, rfl, Im.int_inv ry, SqL.of h3, rfl, q _ H (.d (.int c)) (Ext.refl s) (.int _) ⟨c.toNat, by rw [Int.toNat_of_nonneg h4]⟩⟩
theorem xe_st2 (ha : XE X ρ a (fun r => r = .st ns)) {k : Nat} {pc : Pos} : XE X ρ (.Subscript a (.Constant (.int 2) k pc) pos) NN :=
  xe_tOp (Ψ := fun r => r = .d (.int 2)) (pe_ix ix_list ha xe_int (by intro _ _; rfl)) fun x y G H v w hx hy s rx ry Q q => by
    subst hx; subst hy
    obtain ⟨l, sl, e, rfl, h1, h2⟩ := rx
    obtain ⟨_, _, c, k, h3, h4, h5⟩ := s l sl e
    refine ⟨l, _, 2, .int k, rfl, Im.int_inv ry, SqL.of h3, rfl, q _ H (.d (.int k)) (Ext.refl s) (.int _) ⟨k.toNat, by rw [Int.toNat_of_nonneg h5]⟩⟩
/-- st[1] = e, st[2] = e -/
theorem xs_stSet (jj : Nat) (h : ρ[jj]? = some (.st ns)) (hp : PE X (.Name nm p') (tVar jj)) (he : XE X ρ e NN) {i : Int} (hi : i = 1 ∨ i = 2) {kk : Nat} {ip sp : Pos}
    (hs : swapsWithSole [.Subscript (.Name nm p') (.Constant (.int i) kk ip) sp] e pos.line X.env = pure false := by rfl) (hw : swappedStores [.Subscript (.Name nm p') (.Constant (.int i) kk ip) sp] e X.env = pure none := by rfl)
    (h1 : (assignEach [.Subscript (.Name nm p') (.Constant (.int i) kk ip) sp] X.env).map (·.2) = [assign (.Subscript (.Name nm p') (.Constant (.int i) kk ip) sp) X.env] := by rfl) :
    XS X ρ (.Assign [.Subscript (.Name nm p') (.Constant (.int i) kk ip) sp] e pos) (fun ρ' => ρ' = ρ) R :=
  PS.imp (ps_asg he (pg_sub hp pe_int set_list) hs hw h1) fun D σ H ⟨G0, G, l0, s0, S, nx, rt⟩ => ⟨G, S, fun v H1 r e1 r1 p1 => by
    obtain ⟨n, rfl⟩ := p1
    cases Im.int_inv r1
    have S1 := S.mono e1
    obtain ⟨l, sl, e2, e3, _, _⟩ := S1.slot jj _ h
    obtain ⟨_, _, c, k, h3, h4, h5⟩ := S1.strm l sl e2
    refine ⟨_, join_some.mp e3, ?_⟩
    rcases hi with rfl | rfl
    · refine ⟨l, _, 1, 1, rfl, rfl, h3, rfl, nx G σ _ ρ (Le.refl G) (S1.mono ?_) rfl⟩
      have := Ext.strm_set S1.strm e2 n k.toNat
      rw [Int.toNat_of_nonneg h5] at this
      exact this
    · refine ⟨l, _, 2, 2, rfl, rfl, h3, rfl, nx G σ _ ρ (Le.refl G) (S1.mono ?_) rfl⟩
      have := Ext.strm_set S1.strm e2 c.toNat n
      rw [Int.toNat_of_nonneg h4] at this
      exact this⟩
theorem xs_ifU (hc : XT X ρ c (fun _ => True)) (h1 : XSs X ρ A N R) (h2 : XSs X ρ B N R) : XS X ρ (.If c A B pos) N R :=
  PS.imp (ps_if hc h1 h2) fun D σ H ⟨G0, G, l, s0, S, nx, rt⟩ => ⟨G, S, fun v H' e1 p1 => by
    cases v with
    | true => exact iteT ⟨G0, G, l, s0, S.mono e1, nx, rt⟩
    | false => exact iteF ⟨G0, G, l, s0, S.mono e1, nx, rt⟩⟩
theorem xt_eqU (ha : XE X ρ a NN) (hb : XE X ρ b NN) : XT X ρ (.Compare a [.Eq] [b] pos) (fun _ => True) :=
  xt_cmp op_eq (nomark _) ha hb (o2_eqI fun x y ⟨n, hx⟩ ⟨m, hy⟩ => ⟨n, m, hx, hy, _, rfl, trivial⟩)
theorem xe_nnAdd (ha : XE X ρ a NN) (hb : XE X ρ b NN) : XE X ρ (.BinOp a .Add b pos) NN :=
  xe_addN ha hb fun x y ⟨n, hx⟩ ⟨m, hy⟩ => ⟨n, m, hx, hy, n + m, by rw [Int.natCast_add]⟩
theorem xe_nn {n : Nat} (h : XD X ρ a (.int (n : Int))) : XE X ρ a NN := XE.weak h fun r e => ⟨n, e⟩
theorem xe_nnC {n : Int} (h : XD X ρ a (.int n)) (h0 : 0 ≤ n := by decide) : XE X ρ a NN := XE.weak h fun r e => ⟨n.toNat, by rw [e, Int.toNat_of_nonneg h0]⟩
theorem xe_nnMul {m : Int} (ha : XE X ρ a NN) (hb : XD X ρ b (.int m)) (h0 : 0 ≤ m ∧ m < 2 ^ 64 := by decide) : XE X ρ (.BinOp a .Mult b pos) NN :=
  xe_bin op_mul ha hb (o2_I fun x y ⟨n, hx⟩ hy => ⟨n, m, hx, hy, .inr ⟨by omega, h0.2⟩, n * m.toNat, by rw [Int.natCast_mul, Int.toNat_of_nonneg h0.1]⟩)
theorem xe_nnMod {m : Int} (ha : XE X ρ a NN) (hb : XD X ρ b (.int m)) (h0 : 0 < m) : XE X ρ (.BinOp a .Mod b pos) (fun r => ∃ n : Nat, (n : Int) < m ∧ r = .d (.int (n : Int))) :=
  xe_bin op_mod ha hb (o2_I fun x y ⟨n, hx⟩ hy => ⟨n, m, hx, hy, h0, ((n : Int) % m).toNat, by
    have h1 := Int.emod_nonneg (n : Int) (show m ≠ 0 by omega)
    have h2 := Int.emod_lt_of_pos (n : Int) h0
    rw [Int.toNat_of_nonneg h1]
    exact ⟨h2, rfl⟩⟩)
theorem xe_nnDiv {m : Int} (ha : XE X ρ a NN) (hb : XD X ρ b (.int m)) (h0 : 0 < m ∧ m < 1073741824) : XE X ρ (.BinOp a .FloorDiv b pos) NN :=
  xe_bin op_fdiv ha hb (o2_I fun x y ⟨n, hx⟩ hy => ⟨n, m, hx, hy, h0, ((n : Int) / m).toNat, by
    rw [Int.toNat_of_nonneg (Int.ediv_nonneg (by omega) (by omega))]⟩)
theorem xe_pow (ha : XD X ρ a (.int i)) (hb : XD X ρ b (.int j)) (h : CPow i j := by unfold CPow; decide) : XD X ρ (.BinOp a .Pow b pos) (.int (i ^ j.toNat)) :=
  xe_bin op_pow ha hb (o2_I fun x y hx hy => ⟨i, j, hx, hy, h, rfl⟩)
theorem xe_nnInt {p : Pos} (ha : XE X ρ a NN) (hm : X.mg "int" = none) (hg : Gl X "int" := by rfl) (hb : bootBuiltins "int" = some (.type "int") := by decide +kernel) (hs : starEach [a] X.env = (false, eval a X.env) :: starEach [] X.env := by rfl) :
    XE X ρ (.Call (.Name "int" p) [a] [] pos) NN :=
  PE.imp (pe_callTy call_int1 hg hm hb (pa_cons ha pa_nil hs) (he := hs)) fun σ H Q ⟨G, S, k⟩ => ⟨G, S, fun v H1 x e1 r1 p1 => by
    obtain ⟨n, rfl⟩ := p1
    exact .inl ⟨n, by rw [Im.int_inv r1], k _ H1 (.d (.int n)) e1 (.int _) ⟨n, rfl⟩⟩⟩
theorem xe_abs {p : Pos} (ha : XD X ρ a (.int i)) (hm : X.mg "abs" = none) (hg : Gl X "abs" := by rfl) (hb : bootBuiltins "abs" = some (.builtin "abs") := by decide +kernel) (hs : starEach [a] X.env = (false, eval a X.env) :: starEach [] X.env := by rfl) :
    XE X ρ (.Call (.Name "abs" p) [a] [] pos) NN :=
  PE.imp (pe_callB call_abs hg hm hb (pa_cons ha pa_nil hs) (he := hs)) fun σ H Q ⟨G, S, k⟩ => ⟨G, S, fun v H1 x e1 r1 p1 => by
    subst p1
    refine ⟨i, by rw [Im.int_inv r1], k _ H1 (.d (.int _)) e1 (.int _) ⟨i.natAbs, ?_⟩⟩
    congr 2
    split <;> omega⟩
theorem xe_min {p : Pos} (ha : XD X ρ a (.int i)) (hb : XD X ρ b (.int j)) (hm : X.mg "min" = none) (hc : X.calm = true := by rfl) (hg : Gl X "min" := by rfl) (hbb : bootBuiltins "min" = some (.builtin "min") := by decide +kernel) (hs : starEach [a, b] X.env = (false, eval a X.env) :: starEach [b] X.env := by rfl) (hs2 : starEach [b] X.env = (false, eval b X.env) :: starEach [] X.env := by rfl) (hpl : (backTo pos (starEach [b] X.env)).any (·.1) = false := by rfl) :
    XD X ρ (.Call (.Name "min" p) [a, b] [] pos) (.int (if j < i then j else i)) :=
  PE.imp (pe_callB (call_min2 hc) hg hm hbb (pa_cons ha (pa_cons hb pa_nil hs2) hs) (he := hs) (hpl := hpl)) fun σ H Q ⟨G, S, k⟩ => ⟨G, S, fun v H1 x e1 r1 p1 => ⟨G, S.mono e1, fun w H2 y e2 r2 p2 => by
    subst p1; subst p2
    exact ⟨i, j, by rw [Im.int_inv r1, Im.int_inv r2], k _ H2 (.d (.int _)) (e1.trans e2) (.int _) rfl⟩⟩⟩
end
end PL

-- PLn
/-! PLn: lists of lists. -/
namespace PL
open PySem PySem.Spec PyProof.Rows L2
section
variable {G : Gh} {H H' : Hp} {σ : L2.St} {ρ : List SD}
/-- a slot told otherwise, no owner -/
theorem StOk.desc (S : StOk G H σ ρ) (i : Nat) {r : SD} (hr : SlotOk G H (σ[i]?.join) r) (ho : r.own = none) : StOk G H σ (ρ.set i r) := by
  have oa : ∀ {j a}, ownAt (ρ.set i r) j = some a → ownAt ρ j = some a := fun {j a} h => by
    rw [own_set] at h
    split at h
    · rw [ho] at h; cases h
    · exact h
  refine ⟨by rw [List.length_set]; exact S.len, S.base, S.strm, S.sin, fun j q e => ?_, fun j k a hjk h1 h2 => S.apart j k a hjk (oa h1) (oa h2), S.bsub⟩
  by_cases hj : i = j
  · subst hj
    have hi : i < ρ.length := by
      have h := (List.getElem?_eq_some_iff.mp e).1
      rwa [List.length_set] at h
    rw [List.getElem?_set_self hi] at e
    cases e
    exact hr
  · rw [List.getElem?_set_ne hj] at e
    exact S.slot j q e
/-- the ghost holds one thing more -/
noncomputable def Gh.plus (G : Gh) (b : Addr) (u : HO) : Gh := ⟨fun c => by classical exact if c = b then some u else G.H0 c, G.so, G.B⟩
theorem plus_self {b : Addr} {u : HO} : (G.plus b u).H0 b = some u := by unfold Gh.plus; simp
theorem plus_ne {b c : Addr} {u : HO} (h : c ≠ b) : (G.plus b u).H0 c = G.H0 c := by unfold Gh.plus; simp [h]
theorem plus_le {b : Addr} {u : HO} (n : G.H0 b = none) : Le G (G.plus b u) := ⟨rfl, fun a v h _ => by rw [plus_ne (fun z => by rw [z, n] at h; cases h)]; exact h, rfl⟩
theorem StOk.freeze (S : StOk G H σ ρ) {b : Addr} {u : HO} (n : G.H0 b = none) (hb : H b = some u) (hno : ∀ i, ownAt ρ i ≠ some b) : StOk (G.plus b u) H σ ρ := by
  have ne : ∀ {c v}, G.H0 c = some v → c ≠ b := fun {c v} h z => by rw [z, n] at h; cases h
  have up : ∀ {c v}, G.H0 c = some v → (G.plus b u).H0 c = some v := fun {c v} h => by rw [plus_ne (ne h)]; exact h
  have fz : ∀ {rs qs}, Fz G H rs qs → Fz (G.plus b u) H rs qs := fun h => ⟨h.1, fun i q e => let ⟨r, xs, e1, e2, e3, e4⟩ := h.2 i q e; ⟨r, xs, e1, up e2, e3, e4⟩⟩
  refine ⟨S.len, fun c v h hs => ?_, S.strm, fun l sl e => ?_, fun i r e => ?_, S.apart, fun c h => ?_⟩
  · by_cases hc : c = b
    · subst hc
      rw [plus_self] at h
      cases h
      exact hb
    · rw [plus_ne hc] at h
      exact S.base c v h hs
  · obtain ⟨h1, h2⟩ := S.sin l sl e
    constructor
    · intro z
      by_cases hc : l = b
      · subst hc; rw [plus_self] at z; cases z
      · rw [plus_ne hc] at z; exact h1 z
    · intro z
      by_cases hc : sl = b
      · subst hc; rw [plus_self] at z; cases z
      · rw [plus_ne hc] at z; exact h2 z
  · have s := S.slot i r e
    have no : ∀ {a}, r.own = some a → G.H0 a = none → (G.plus b u).H0 a = none := fun {a} ho h => by
      rw [plus_ne (fun z => by
        subst z
        refine hno i ?_
        unfold ownAt; rw [e]; exact ho)]
      exact h
    cases r with
    | no => trivial
    | d x => exact s
    | l ds => obtain ⟨a, xs, e1, e2, e3, h1⟩ := s; exact ⟨a, xs, e1, up e2, e3, h1⟩
    | ol a ds => obtain ⟨e1, n1, q⟩ := s; exact ⟨e1, no rfl n1, q⟩
    | ok a ks => obtain ⟨e1, n1, q⟩ := s; exact ⟨e1, no rfl n1, q⟩
    | ot a ks => obtain ⟨e1, n1, q⟩ := s; exact ⟨e1, no rfl n1, q⟩
    | st ns => obtain ⟨l, sl, e1, e2, e3, e4⟩ := s; exact ⟨l, sl, e1, e2, up e3, e4⟩
    | rf a => exact s
    | l2 qs => obtain ⟨a, rs, e1, e2, e3, h1⟩ := s; exact ⟨a, rs, e1, up e2, e3, fz h1⟩
    | o2 a qs => obtain ⟨e1, n1, rs, e2, h1, h2⟩ := s; exact ⟨e1, no rfl n1, rs, e2, fz h1, h2⟩
  · by_cases hc : c = b
    · subst hc; rw [plus_self] at h; cases h
    · rw [plus_ne hc] at h; exact S.bsub c h
end
section
variable {X : Cx} {ρ : List SD} {Φ Ψ Θ : SD → Prop} {pos p' : Pos} {a b c e tg iter : Expr} {nm : Str} {R : SD → Prop} {N : List SD → Prop} {A B rest body : List Stmt}
theorem own_o2 {i : Nat} {ad : Addr} {qs : List (List PyData)} (h : ρ[i]? = some (.o2 ad qs)) : ownAt ρ i = some ad := by unfold ownAt; rw [h]; rfl
/-- x = [a new list] -/
theorem xs_newO2 (i : Nat) {ds : List PyData} {lp : Pos} (he : XF X ρ e (fun z => z = ds)) (hN : X.N.Nodup) (hi : X.N[i]? = some nm := by rfl) (hx : Loc X.env.scope nm := by first | exact Or.inl rfl | exact Or.inr rfl)
    (hs : swapsWith (.List [e] lp) (some (.Name nm p')) pos.line X.env = pure false := by rfl) (hf : X.fn nm = true ∨ X.env.scope.names.lookup nm = some .local := by first | exact .inl rfl | exact .inr rfl) (he1 : starEach [e] X.env = (false, eval e X.env) :: starEach [] X.env := by rfl) :
    XS X ρ (.Assign [.Name nm p'] (.List [e] lp) pos) (fun ρ' => ∃ ad, ρ' = ρ.set i (.o2 ad [ds])) R :=
  PS.imp (ps_set hN hi hx (pe_lst (pa_cons he pa_nil he1)) hs hf) fun D σ H ⟨G0, G, l, s0, S, nx, rt⟩ => ⟨G, S, fun bd xs H1 ds' n e1 h1 h2 p1 => by
    have p1 : ds' = ds := p1
    subst p1
    refine ⟨sz_of (by simp), fun p np => ?_⟩
    have e2 : Ext G H1 (upd H1 p (.lst [.ref bd])) := Ext.new e1.strm np
    have e12 := e1.trans e2
    have hb2 : (upd H1 p (.lst [.ref bd])) bd = some (.lst xs) := by rw [upd_ne (fun z => by rw [z, np] at h1; cases h1)]; exact h1
    have nb : G.H0 bd = none := S.fresh0 n
    have nsb : ¬ isS G bd := fun ⟨sl, q⟩ => (S.sin bd sl q).1 nb
    have np0 : G.H0 p = none := (S.mono e1).fresh0 np
    have npb : p ≠ bd := fun z => by rw [z, h1] at np; cases np
    have S2 := (S.mono e12).freeze nb hb2 fun j z => by
      obtain ⟨_, _, u, hu, _⟩ := S.owned z
      rw [n] at hu; cases hu
    refine nx _ _ _ _ (plus_le nb) (S2.set i (r := .o2 p [ds']) ⟨rfl, by rw [plus_ne npb]; exact np0, [bd], upd_same, ⟨rfl, fun k q hk => ?_⟩, fun r hr => ?_⟩ fun x ex j hj => ?_) ⟨p, rfl⟩
    · match k, hk with
      | 0, hk =>
        cases hk
        exact ⟨bd, xs, rfl, plus_self, nsb, h2.mono e2.tups⟩
    · simp at hr
      subst hr
      exact S.bsub r nb
    · cases ex
      obtain ⟨_, _, u, hu, _⟩ := (S.mono e1).owned hj
      rw [np] at hu; cases hu⟩
/-- xs.append(ys), ys an own list -/
theorem xs_appO2 (i j : Nat) {ad bd : Addr} {qs : List (List PyData)} {ds : List PyData} {nj : Str} {pj : Pos} (hij : i ≠ j) (h : ρ[i]? = some (.o2 ad qs)) (hp : PE X (.Name nm p') (tVar i)) (hj : ρ[j]? = some (.ol bd ds)) (hpj : PE X (.Name nj pj) (tVar j)) (hl : qs.length < 100000) {apos cpos : Pos}
    (hps : PE X (.Call (.Attribute (.Name nm p') "append" apos) [.Name nj pj] [] cpos) (tBM X.K "list" rAppend (tVar i) (tCons (tVar j) tNil))) (hs : swapsWith (.Call (.Attribute (.Name nm p') "append" apos) [.Name nj pj] [] cpos) none pos.line X.env = pure false := by rfl) :
    XS X ρ (.Expr (.Call (.Attribute (.Name nm p') "append" apos) [.Name nj pj] [] cpos) pos) (fun ρ' => ρ' = (ρ.set j (.l ds)).set i (.o2 ad (qs ++ [ds]))) R :=
  PS.imp (ps_expr hps hs) fun D σ H ⟨G0, G, l, s0, S, nx, rt⟩ => by
    obtain ⟨e1, n, rs, e0, r, hB⟩ := S.slot i _ h
    obtain ⟨e1j, nj0, xsj, e0j, rj⟩ := S.slot j _ hj
    refine ⟨_, join_some.mp e1, .inl ⟨rfl, _, SqL.of e0⟩, _, join_some.mp e1j, ad, _, _, rfl, rfl, e0, sz_lt (by rw [List.length_map, r.1]; exact hl), ?_⟩
    have nsb : ¬ isS G bd := (S.owned (own_ol hj)).2.1
    have S1 : StOk G H σ (ρ.set j .no) := S.desc j trivial rfl
    have hno : ∀ k, ownAt (ρ.set j .no) k ≠ some bd := fun k z => by
      rw [own_set] at z
      split at z
      · cases z
      · rename_i hk
        have jl : j < ρ.length := (List.getElem?_eq_some_iff.mp hj).1
        exact S.apart j k bd (fun e => hk ⟨e, jl⟩) (own_ol hj) z
    have S2 := S1.freeze nj0 e0j hno
    have S3 := S2.desc j (r := .l ds) ⟨bd, xsj, e1j, plus_self, nsb, rj⟩ rfl
    rw [List.set_set] at S3
    have hi3 : (ρ.set j (.l ds))[i]? = some (.o2 ad qs) := by rw [List.getElem?_set_ne (Ne.symm hij)]; exact h
    have hmap : rs.map V.ref ++ [V.ref bd] = (rs ++ [bd]).map V.ref := by rw [List.map_append]; rfl
    obtain ⟨_, _, rs3, e3, r3, hB3⟩ := S3.slot i _ hi3
    have hrs : rs3 = rs := by
      rw [e0] at e3
      have e3 : rs.map V.ref = rs3.map V.ref := by injection e3 with e3; injection e3
      have key : ∀ {a b : List Addr}, a.map V.ref = b.map V.ref → a = b := by
        intro a
        induction a with
        | nil => intro b h; cases b with
          | nil => rfl
          | cons _ _ => cases h
        | cons x a ih => intro b h; cases b with
          | nil => cases h
          | cons y b => injection h with h1 h2; injection h1 with h1; rw [h1, ih h2]
      exact (key e3).symm
    subst hrs
    obtain ⟨no3, _, _⟩ := S3.owned (own_o2 hi3)
    have tups : ∀ c zs, H c = some (.tup zs) → (upd H ad (.lst ((rs3 ++ [bd]).map V.ref))) c = some (.tup zs) := fun c zs hc => by rw [upd_ne (fun z => by rw [z, e0] at hc; cases hc)]; exact hc
    rw [hmap]
    refine nx _ σ _ _ (plus_le nj0) (S3.write i (r := .o2 ad (qs ++ [ds])) (own_o2 hi3) (fun _ z => nomatch z) (fun _ => ⟨rfl, no3, rs3 ++ [bd], upd_same, ⟨by rw [List.length_append, List.length_append, r3.1]; rfl, fun k q hk => ?_⟩, fun x hx => ?_⟩) rfl) rfl
    · by_cases hkl : k < qs.length
      · rw [List.getElem?_append_left hkl] at hk
        obtain ⟨x, xs, q1, q2, q3, q4⟩ := r3.2 k q hk
        exact ⟨x, xs, by rw [List.getElem?_append_left (by rw [r3.1]; exact hkl)]; exact q1, q2, q3, q4.mono tups⟩
      · rw [List.getElem?_append_right (by omega)] at hk
        have := (List.getElem?_eq_some_iff.mp hk).1
        have e0 : k - qs.length = 0 := by simpa using this
        rw [e0] at hk
        cases hk
        exact ⟨bd, xsj, by rw [List.getElem?_append_right (by rw [r3.1]; omega), r3.1, e0]; rfl, plus_self, nsb, rj.mono tups⟩
    · rcases List.mem_append.mp hx with hx | hx
      · exact hB3 x hx
      · simp at hx
        subst hx
        exact S.bsub x nj0
/-- an item of a list of lists -/
theorem xe_ixL2 {qs : List (List PyData)} {q : List PyData} {k : Int} (ha : XE X ρ a (fun r => r = .l2 qs)) (hb : XD X ρ b (.int k)) (h : atI qs k = some q) (hs : PlainIx b := by intro _ _; rfl) : XE X ρ (.Subscript a b pos) (fun r => r = .l q) :=
  xe_tOp (Ψ := fun r => r = .d (.int k)) (pe_ix ix_list ha hb hs) fun x y G H v w hx hy s rx ry Q qq => by
    subst hx; subst hy
    obtain ⟨ad, rs, rfl, ns, h1, h2⟩ := rx
    unfold atI at h
    cases e : ixN qs.length k with
    | none => rw [e] at h; cases h
    | some j =>
      rw [e] at h
      obtain ⟨r, xs, q1, q2, q3, q4⟩ := h2.2 j q h
      refine ⟨ad, _, k, .ref r, rfl, Im.int_inv ry, SqL.of h1, ?_, qq _ H (.l q) (Ext.refl s) ⟨r, xs, rfl, q3, q2, q4⟩ rfl⟩
      unfold atI
      rw [List.length_map, h2.1, e]
      show (rs.map V.ref)[j]? = _
      rw [List.getElem?_map, q1]
      rfl
/-- .. walked, of a name's list -/
theorem xi_ixO2 (i : Nat) {ad : Addr} {qs : List (List PyData)} {q : List PyData} {k : Int} (h : ρ[i]? = some (.o2 ad qs)) (hp : PE X (.Name nm p') (tVar i)) (hb : XD X ρ b (.int k)) (hq : atI qs k = some q) (hs : PlainIx b := by intro _ _; rfl) : XI X ρ tg (.Subscript (.Name nm p') b pos) (fun z => z = q) :=
  PI.imp (pi_list (pe_ix ix_list hp hb hs)) fun σ H R ⟨G, S, kk⟩ => by
    obtain ⟨e1, n, rs, e0, r, hB⟩ := S.slot i _ h
    refine ⟨_, join_some.mp e1, G, S, fun w H1 y e2 ry hy => ?_⟩
    have hy : y = .d (.int k) := hy
    subst hy
    have S1 := S.mono e2
    obtain ⟨_, _, rs1, e01, r1, _⟩ := S1.slot i _ h
    unfold atI at hq
    cases e : ixN qs.length k with
    | none => rw [e] at hq; cases hq
    | some j =>
      rw [e] at hq
      obtain ⟨x, xs, q1, q2, q3, q4⟩ := r1.2 j q hq
      have hx1 := S1.base x _ q2 q3
      refine ⟨ad, _, k, .ref x, rfl, Im.int_inv ry, SqL.of e01, ?_, x, rfl, ⟨xs, SqL.of hx1⟩, kk _ H1 q _ e2 rfl (fun H2 pr => ⟨xs, pr x _ hx1 q3 fun j' hj' => ?_, q4.mono (pr.tups S1)⟩) wk_list⟩
      · unfold atI
        rw [List.length_map, r1.1, e]
        show (rs1.map V.ref)[j]? = _
        rw [List.getElem?_map, q1]
        rfl
      · have := (S1.owned hj').1
        rw [q2] at this; cases this
/-- the list of lists, given back -/
theorem xs_retO2 (i : Nat) {ad : Addr} {qs : List (List PyData)} (h : ρ[i]? = some (.o2 ad qs)) (hp : PE X (.Name nm p') (tVar i)) (hr : R (.l2 qs)) : XS X ρ (.Return (some (.Name nm p')) pos) N R :=
  PS.imp (ps_ret hp) fun D σ H ⟨G0, G, l, s0, S, nx, rt⟩ => by
    obtain ⟨e, n, rs, e0, r, hB⟩ := S.slot i _ h
    refine ⟨_, join_some.mp e, rt _ H (.l2 qs) (S.frame l s0) ⟨ad, rs, rfl, Le.none S l n, e0, r.1, fun k q hk => ?_⟩ hr⟩
    obtain ⟨x, xs, q1, q2, q3, q4⟩ := r.2 k q hk
    refine ⟨x, xs, q1, ?_, S.base x _ q2 q3, q4⟩
    have := hB x (List.mem_of_getElem? q1)
    rw [l.2.2, s0.2] at this
    exact this

/-! ### new lists of lists -/
def tF2 (ρ : List SD) (Ψ : List (List PyData) → Prop) : TE := fun σ H Q => ∃ G, StOk G H σ ρ ∧ ∀ (a : Addr) (rs : List Addr) H' qs, H a = none → Ext G H H' → H' a = some (.lst (rs.map V.ref)) → rs.length = qs.length → (∀ (i : Nat) q, qs[i]? = some q → ∃ r xs, rs[i]? = some r ∧ H r = none ∧ H' r = some (.lst xs) ∧ Ims H' q xs) → Ψ qs → Q (.ref a) H'
def XF2 (X : Cx) (ρ : List SD) (e : Expr) (Ψ : List (List PyData) → Prop) : Prop := PE X e (tF2 ρ Ψ)
theorem xf2_call {α : Type} {F : FS α} {k j : Nat} {x : Str} {p : Pos} {es : List Expr} {Aa : List SD → Prop} {Ψ : List (List PyData) → Prop} (C : Cl X.prog X.w X.K X.mg X.base k x F.sp) (hr : Room j X.A) (ha : XA X ρ (e :: es) Aa) (h : ∀ rs, Aa rs → ∃ a, F.args a = rs ∧ ∀ r, F.res a r → ∃ qs, r = .l2 qs ∧ Ψ qs)
    (hk : k ≤ j := by decide) (hg : Gl X x := by rfl)
    (hdb : (x == ("__debug__" : Str)) = false := by decide) (he : starEach (e :: es) X.env = (false, eval e X.env) :: starEach es X.env := by rfl) (hpl : (backTo pos (starEach es X.env)).any (·.1) = false := by rfl) :
    XF2 X ρ (.Call (.Name x p) (e :: es) [] pos) Ψ :=
  PE.imp (xe_callG C hr ha hk hg hdb he hpl) fun σ H Q ⟨G, S, q⟩ => ⟨G, S, fun vs H1 rs e1 r1 p1 => by
    obtain ⟨a, ea, hq⟩ := h rs p1
    refine ⟨a, ea, fun v H' r e2 r2 p2 => ?_⟩
    obtain ⟨qs, rfl, hp⟩ := hq r p2
    obtain ⟨ad, rs', rfl, n, h1, hl, h2⟩ := r2
    exact q ad rs' H' qs (Ext.fresh S.strm e1 n) (e1.trans e2) h1 hl (fun i q hq => let ⟨r, xs, q1, q2, q3, q4⟩ := h2 i q hq; ⟨r, xs, q1, Ext.fresh S.strm e1 q2, q3, q4⟩) hp⟩
/-- a walk over one: each item a list that stands -/
theorem xs_forF2 (jv : Nat) {Φ : List (List PyData) → Prop} (I : List (List PyData) → Nat → List SD → Prop) (hi : XF2 X ρ iter Φ) (hg : PG X tg (gName jv))
    (h0 : ∀ qs, Φ qs → I qs 0 ρ) (hb : ∀ qs (i : Nat) q ρ', Φ qs → qs[i]? = some q → I qs i ρ' → XSs X (ρ'.set jv (.l q)) body (I qs (i + 1)) R) (hn : ∀ qs ρ', Φ qs → I qs qs.length ρ' → N ρ')
    (hc : X.calm = true := by rfl) (hp : PassesOwn (model X.prog X.w) X.A X.env X.xe := by exact PassesOwn.never) (hs : ∀ x, foldedSetIterable iter X.env x = pure x := by intro _; rfl) : XS X ρ (.For tg iter body [] pos) N R :=
  PS.imp (ps_for hp hc (pi_list hi) hg (PSs.uni (ι := List (List PyData) × Nat × List PyData × List SD) (t := fun z => tS (z.2.2.2.set jv (.l z.2.2.1)) (I z.1 (z.2.1 + 1)) R) (P := fun z => Φ z.1 ∧ z.1[z.2.1]? = some z.2.2.1 ∧ I z.1 z.2.1 z.2.2.2)
      fun z hz => hb z.1 z.2.1 z.2.2.1 z.2.2.2 hz.1 hz.2.1 hz.2.2) hs) fun D σ H ⟨G0, G, l, s0, S, nx, rt⟩ => ⟨G, S, fun ad rs H' qs na e1 had hlen hrows hp => by
    have S1 := S.mono e1
    have l1 : Le G (reb G ρ H') := reb_le S1
    have nown : ∀ {c}, H c = none → ∀ i, ownAt ρ i ≠ some c := fun hc i z => by
      obtain ⟨_, _, u, hu, _⟩ := S.owned z
      rw [hc] at hu; cases hu
    have nS : ∀ {c}, H c = none → ¬ isS G c := fun hc ⟨sl, q⟩ => by
      obtain ⟨_, _, c0, k0, h3, _⟩ := S.strm _ sl q
      rw [hc] at h3; cases h3
    refine ⟨ad, rfl, ⟨_, SqL.of had⟩, fun i m σ2 H2 => m = qs.length - i ∧ i ≤ qs.length ∧ ∃ G2 ρ', Le (reb G ρ H') G2 ∧ StOk G2 H2 σ2 ρ' ∧ I qs i ρ', ⟨qs.length, by simp, Nat.zero_le _, _, ρ, Le.refl _, reb_ok S1, h0 qs hp⟩, ?_⟩
    rintro i m σ2 H2 ⟨rfl, hle, G2, ρ', l2, S2, hI⟩
    have keep : ∀ {c u}, H' c = some u → H c = none → G2.H0 c = some u ∧ ¬ isS G2 c ∧ H2 c = some u := fun {c u} hc hn => by
      have ns : ¬ isS (reb G ρ H') c := fun z => nS hn z
      have h1 := l2.2.1 c u (reb_prot hc (nown hn)) ns
      have ns2 : ¬ isS G2 c := fun z => ns (l2.isS.mp z)
      exact ⟨h1, ns2, S2.base c u h1 ns2⟩
    have hsq := SqL.of (K := X.K) (keep had na).2.2
    by_cases hlt : i < qs.length
    · have hq := List.getElem?_eq_getElem hlt
      generalize qs[i] = q at hq
      obtain ⟨r, xs, q1, q2, q3, q4⟩ := hrows i q hq
      obtain ⟨k1, k2, k3⟩ := keep q3 q2
      have tups : ∀ c zs, H' c = some (.tup zs) → H2 c = some (.tup zs) := fun c zs hc => by
        have ht := S1.notTup hc
        have h1 := l2.2.1 c _ (reb_prot hc ht.2) ht.1
        exact S2.base c _ h1 fun z => ht.1 (l2.isS.mp z)
      refine .inr ⟨⟨_, .ref r, hsq, by rw [List.getElem?_map, q1]; rfl⟩, fun σ3 H3 => ∃ G3 ρ3, Le (reb G ρ H') G3 ∧ StOk G3 H3 σ3 ρ3 ∧ I qs (i + 1) ρ3, fun σ3 H3 q => ⟨qs.length - (i + 1), by omega, rfl, hlt, q⟩, fun v H3 y => ?_⟩
      obtain ⟨eH, y⟩ := y
      subst eH
      have ey := y _ hsq
      rw [List.getElem?_map, q1] at ey
      cases ey
      have S3 := S2.set jv (r := .l q) (v := .ref r) ⟨r, xs, rfl, k1, k2, q4.mono tups⟩ fun _ e => nomatch e
      exact ⟨(qs, i, q, ρ'), ⟨hp, hq, hI⟩, G0, G2, l.trans (l1.trans l2), s0, S3, fun G' σ' H'' ρ'' l' S' n => ⟨G', ρ'', l2.trans l', S', n⟩, rt⟩
    · have e : i = qs.length := by omega
      subst e
      exact .inl ⟨⟨_, hsq, by rw [List.length_map, hlen]; exact Nat.le_refl _⟩, nx G2 σ2 H2 ρ' (l1.trans l2) S2 (hn qs ρ' hp hI)⟩⟩
end
end PL

-- PLo
/-! PLo: a table of four rows that are written; ranges of unknown length. -/
namespace PL
open PySem PySem.Spec PyProof.Rows L2
abbrev rowV (q : List Nat) : List V := q.map fun (n : Nat) => V.int (n : Int)
abbrev rowsD (qs : List (List Nat)) : List (List PyData) := qs.map fun q => q.map fun (n : Nat) => PyData.int (n : Int)
def Row4 (q : List Nat) : Prop := q.length = 4 ∧ ∀ x ∈ q, x < 4
structure Tab (G : Gh) (H : Hp) (ρ : List SD) (p : Addr) (rs : List Addr) : Prop where
  pn : G.H0 p = none
  rn : ∀ r ∈ rs, G.H0 r = none
  hp : H p = some (.lst (rs.map V.ref))
  len : rs.length = 4
  rows : ∀ r ∈ rs, ∃ q, Row4 q ∧ H r = some (.lst (rowV q))
  po : ∀ i, ownAt ρ i ≠ some p
  ro : ∀ r ∈ rs, ∀ i, ownAt ρ i ≠ some r
  np : p ∉ rs
section
variable {G : Gh} {H H' : Hp} {σ : L2.St} {ρ ρ' : List SD} {p : Addr} {rs : List Addr}
theorem Tab.mono (t : Tab G H ρ p rs) (S : StOk G H σ ρ) (e : Ext G H H') : Tab G H' ρ p rs := by
  have ns : ∀ {c}, G.H0 c = none → ¬ isS G c := fun n ⟨sl, q⟩ => (S.sin _ sl q).1 n
  exact ⟨t.pn, t.rn, e.keep _ _ t.hp (ns t.pn), t.len, fun r hr => let ⟨q, h1, h2⟩ := t.rows r hr; ⟨q, h1, e.keep _ _ h2 (ns (t.rn r hr))⟩, t.po, t.ro, t.np⟩
theorem Tab.slots (t : Tab G H ρ p rs) (h : ∀ i a, ownAt ρ' i = some a → ownAt ρ i = some a) : Tab G H ρ' p rs :=
  ⟨t.pn, t.rn, t.hp, t.len, t.rows, fun i e => t.po i (h i p e), fun r hr i e => t.ro r hr i (h i r e), t.np⟩
theorem own_set_none {i : Nat} {r : SD} (hr : r.own = none) : ∀ j a, ownAt (ρ.set i r) j = some a → ownAt ρ j = some a := fun j a h => by
  rw [own_set] at h
  split at h
  · rw [hr] at h; cases h
  · exact h
/-- a row is written -/
theorem Tab.write (t : Tab G H ρ p rs) (S : StOk G H σ ρ) {r : Addr} (hr : r ∈ rs) {q : List Nat} (hq : H r = some (.lst (rowV q))) (h4 : Row4 q) {d x : Nat} (hx : x < 4) :
    StOk G (upd H r (.lst ((rowV q).set d (.int x)))) σ ρ ∧ Tab G (upd H r (.lst ((rowV q).set d (.int x)))) ρ p rs := by
  refine ⟨S.other (t.rn r hr) hq trivial (t.ro r hr), t.pn, t.rn, ?_, t.len, fun c hc => ?_, t.po, t.ro, t.np⟩
  · rw [upd_ne (fun z => t.np (by rw [z]; exact hr))]; exact t.hp
  · by_cases e : c = r
    · subst e
      refine ⟨q.set d x, ⟨by rw [List.length_set]; exact h4.1, fun y hy => ?_⟩, ?_⟩
      · rcases List.mem_or_eq_of_mem_set hy with hy | rfl
        · exact h4.2 y hy
        · exact hx
      · rw [upd_same]
        show some (HO.lst ((q.map _).set d _)) = some (HO.lst ((q.set d x).map _))
        rw [List.map_set]
    · rw [upd_ne e]; exact t.rows c hc
end
def tB (ρ : List SD) (p : Addr) (rs : List Addr) (N : List SD → Prop) (R : SD → Prop) : TS := fun D σ H => ∃ G0 Gb G, Le G0 Gb ∧ Le Gb G ∧ Ent0 G0 ∧ StOk G H σ ρ ∧ Tab G H ρ p rs ∧
  (∀ G' σ' H' ρ', Le Gb G' → StOk G' H' σ' ρ' → Tab G' H' ρ' p rs → N ρ' → D.nx σ' H') ∧ (∀ v H' r, Ext G0 G0.H0 H' → ResF G0.H0 H' v r → R r → D.rt v H')
def XSb (X : Cx) (ρ : List SD) (p : Addr) (rs : List Addr) (st : Stmt) (N : List SD → Prop) (R : SD → Prop) : Prop := PS X st (tB ρ p rs N R)
def XSsb (X : Cx) (ρ : List SD) (p : Addr) (rs : List Addr) (sts : List Stmt) (N : List SD → Prop) (R : SD → Prop) : Prop := PSs X sts (tB ρ p rs N R)
section
variable {X : Cx} {ρ : List SD} {p : Addr} {rs : List Addr} {st : Stmt} {rest body A B : List Stmt} {N M : List SD → Prop} {R : SD → Prop} {e a b tg iter : Expr} {Φ Ψ Θ : SD → Prop} {pos p' : Pos} {nm : Str}
theorem xsb_nil (h : N ρ) : XSsb X ρ p rs [] N R := PSs.imp pss_nil fun D σ H ⟨G0, Gb, G, l0, l, s0, S, t, nx, rt⟩ => nx G σ H ρ l S t h
theorem xsb_cons (h1 : XSb X ρ p rs st M R) (h2 : ∀ ρ', M ρ' → XSsb X ρ' p rs rest N R) : XSsb X ρ p rs (st :: rest) N R :=
  PSs.imp (pss_cons h1 (PSs.uni (t := fun ρ' => tB ρ' p rs N R) (P := M) h2)) fun D σ H ⟨G0, Gb, G, l0, l, s0, S, t, nx, rt⟩ => ⟨G0, Gb, G, l0, l, s0, S, t, fun G' σ' H' ρ' l' S' t' m => ⟨ρ', m, G0, Gb, G', l0, l', s0, S', t', nx, rt⟩, rt⟩
/-- the table stands from here on -/
theorem xsb_end {k : Nat} (hk : ρ[k]? = some (.rf p)) (h : ∀ qs : List (List Nat), qs.length = 4 → (∀ q ∈ qs, Row4 q) → XSs X (ρ.set k (.l2 (rowsD qs))) rest N R) :
    PSs X rest (fun D σ H => ∃ G0 Gb G, Le G0 Gb ∧ Le Gb G ∧ Ent0 G0 ∧ StOk G H σ ρ ∧ Tab G H ρ p rs ∧ (∀ G' σ' H' ρ', Le Gb G' → StOk G' H' σ' ρ' → N ρ' → D.nx σ' H') ∧ (∀ v H' r, Ext G0 G0.H0 H' → ResF G0.H0 H' v r → R r → D.rt v H')) := by
  refine PSs.imp (PSs.uni (ι := List (List Nat)) (t := fun qs => tS (ρ.set k (.l2 (rowsD qs))) N R) (P := fun qs => qs.length = 4 ∧ ∀ q ∈ qs, Row4 q) fun qs hq => h qs hq.1 hq.2) fun D σ H ⟨G0, Gb, G, l0, l, s0, S, t, nx, rt⟩ => ?_
  have pick : ∀ l : List Addr, (∀ r ∈ l, ∃ q, Row4 q ∧ H r = some (.lst (rowV q))) → ∃ qs : List (List Nat), qs.length = l.length ∧ (∀ q ∈ qs, Row4 q) ∧ ∀ (i : Nat) q, qs[i]? = some q → ∃ r, l[i]? = some r ∧ r ∈ l ∧ H r = some (.lst (rowV q)) := by
    intro l
    induction l with
    | nil => intro _; exact ⟨[], rfl, by simp, fun i q h => by simp at h⟩
    | cons r l ih =>
      intro hl
      obtain ⟨q, h1, h2⟩ := hl r (by simp)
      obtain ⟨qs, h3, h4, h5⟩ := ih fun x hx => hl x (by simp [hx])
      refine ⟨q :: qs, by rw [List.length_cons, List.length_cons, h3], fun y hy => ?_, fun i y hy => ?_⟩
      · rcases List.mem_cons.mp hy with rfl | hy
        · exact h1
        · exact h4 y hy
      · cases i with
        | zero => simp at hy; subst hy; exact ⟨r, rfl, by simp, h2⟩
        | succ i =>
          obtain ⟨x, e1, e2, e3⟩ := h5 i y (by simpa using hy)
          exact ⟨x, by simpa using e1, by simp [e2], e3⟩
  obtain ⟨qs, q1, q2, q3⟩ := pick rs t.rows
  have l1 := reb_le S
  have ns : ∀ {c}, G.H0 c = none → ¬ isS (reb G ρ H) c := fun n ⟨sl, q⟩ => (S.sin _ sl q).1 n
  have S1 := (reb_ok S).desc k (r := .l2 (rowsD qs)) ⟨p, rs, S.slot k _ hk, reb_prot t.hp t.po, ns t.pn, by rw [List.length_map, q1], fun i q hq => by
    rw [List.getElem?_map] at hq
    cases e : qs[i]? with
    | none => rw [e] at hq; cases hq
    | some q0 =>
      rw [e] at hq
      cases hq
      obtain ⟨r, e1, e2, e3⟩ := q3 i q0 e
      refine ⟨r, _, e1, reb_prot e3 (t.ro r e2), ns (t.rn r e2), ?_⟩
      have : ∀ z : List Nat, Ims H (z.map fun (n : Nat) => PyData.int (n : Int)) (rowV z) := fun z => by
        induction z with
        | nil => exact .nil
        | cons x z ih => exact .cons (.int _) ih
      exact this q0⟩ rfl
  exact ⟨qs, ⟨by rw [q1, t.len], q2⟩, G0, _, l0.trans (l.trans l1), s0, S1, fun G' σ' H' ρ' l' S' n => nx G' σ' H' ρ' ((l.trans l1).trans l') S' n, rt⟩
/-- x = a row -/
theorem xsb_row (k i : Nat) (hk : ρ[k]? = some (.rf p)) (hp : PE X (.Name nm p') (tVar k)) (hb : XE X ρ b (fun r => ∃ d : Nat, d < 4 ∧ r = .d (.int (d : Int)))) {ni : Str} {pi sp : Pos} (hN : X.N.Nodup) (hs0 : PlainIx b := by intro _ _; rfl) (hi : X.N[i]? = some ni := by rfl) (hx : Loc X.env.scope ni := by first | exact Or.inl rfl | exact Or.inr rfl)
    (hs : swapsWith (.Subscript (.Name nm p') b sp) (some (.Name ni pi)) pos.line X.env = pure false := by rfl) (hf : X.fn ni = true ∨ X.env.scope.names.lookup ni = some .local := by first | exact .inl rfl | exact .inr rfl) :
    XSb X ρ p rs (.Assign [.Name ni pi] (.Subscript (.Name nm p') b sp) pos) (fun ρ' => ∃ r ∈ rs, ρ' = ρ.set i (.rf r)) R :=
  PS.imp (ps_set hN hi hx (pe_ix ix_list hp hb hs0) hs hf) fun D σ H ⟨G0, Gb, G, l0, l, s0, S, t, nx, rt⟩ => ⟨_, join_some.mp (S.slot k _ hk), G, S, fun w H1 y e1 ry hy => by
    obtain ⟨d, hd, rfl⟩ := hy
    have t1 := t.mono S e1
    have hlt : d < rs.length := by rw [t.len]; exact hd
    have hg := List.getElem?_eq_getElem hlt
    refine ⟨p, _, d, .ref rs[d], rfl, Im.int_inv ry, SqL.of t1.hp, atI_nat (by rw [List.getElem?_map, hg]; rfl), ?_⟩
    exact nx G _ H1 _ l ((S.mono e1).set i (r := .rf rs[d]) rfl fun _ e => nomatch e) (t1.slots (own_set_none rfl)) ⟨rs[d], List.getElem_mem hlt, rfl⟩⟩
/-- row[..] = e -/
theorem xsb_put (k : Nat) {r : Addr} (hr : r ∈ rs) (hk : ρ[k]? = some (.rf r)) (hp : PE X (.Name nm p') (tVar k)) (he : XE X ρ e (fun r => ∃ d : Nat, d < 4 ∧ r = .d (.int (d : Int)))) (hb : XE X ρ b (fun r => ∃ d : Nat, d < 4 ∧ r = .d (.int (d : Int)))) {sp : Pos}
    (hs : swapsWithSole [.Subscript (.Name nm p') b sp] e pos.line X.env = pure false := by rfl) (hw : swappedStores [.Subscript (.Name nm p') b sp] e X.env = pure none := by rfl)
    (h1 : (assignEach [.Subscript (.Name nm p') b sp] X.env).map (·.2) = [assign (.Subscript (.Name nm p') b sp) X.env] := by rfl) (ha : ∀ v, assign (.Subscript (.Name nm p') b sp) X.env v = (do
      let ov ← holding [v] (eval (.Name nm p') X.env)
      let iv ← holding [v, ov] (eval b X.env)
      standAt sp
      holding [v, ov, iv] (setItem ov iv v)
      release [v, ov, iv] []) := by intro _; rfl) :
    XSb X ρ p rs (.Assign [.Subscript (.Name nm p') b sp] e pos) (fun ρ' => ρ' = ρ) R :=
  PS.imp (ps_asg he (pg_sub hp hb set_list ha) hs hw h1) fun D σ H ⟨G0, Gb, G, l0, l, s0, S, t, nx, rt⟩ => ⟨G, S, fun v H1 x e1 r1 p1 => ⟨_, join_some.mp (S.slot k _ hk), G, S.mono e1, fun w H2 y e2 r2 p2 => by
    obtain ⟨x, hx, rfl⟩ := p1
    obtain ⟨d, hd, rfl⟩ := p2
    cases Im.int_inv r1
    have t2 := (t.mono S e1).mono (S.mono e1) e2
    have S2 := (S.mono e1).mono e2
    obtain ⟨q, h4, hq⟩ := t2.rows r hr
    obtain ⟨S3, t3⟩ := t2.write S2 hr hq h4 (d := d) hx
    refine ⟨r, _, d, d, rfl, Im.int_inv r2, hq, ?_, nx G σ _ ρ l S3 t3 rfl⟩
    unfold ixN
    rw [if_pos (by omega), List.length_map, if_pos (by rw [h4.1]; omega), Int.toNat_natCast]⟩⟩
/-- table[..][..] = e, known places -/
theorem xsb_put2 (k : Nat) {i j : Nat} (hi4 : i < 4) (hj4 : j < 4) {a b : Expr} (hk : ρ[k]? = some (.rf p)) (hp : PE X (.Name nm p') (tVar k)) (he : XE X ρ e (fun r => ∃ d : Nat, d < 4 ∧ r = .d (.int (d : Int)))) (ha0 : XD X ρ a (.int (i : Int))) (hb : XD X ρ b (.int (j : Int))) {sp sp2 : Pos} (hpl : PlainIx a := by intro _ _; rfl)
    (hs : swapsWithSole [.Subscript (.Subscript (.Name nm p') a sp2) b sp] e pos.line X.env = pure false := by rfl) (hw : swappedStores [.Subscript (.Subscript (.Name nm p') a sp2) b sp] e X.env = pure none := by rfl)
    (h1 : (assignEach [.Subscript (.Subscript (.Name nm p') a sp2) b sp] X.env).map (·.2) = [assign (.Subscript (.Subscript (.Name nm p') a sp2) b sp) X.env] := by rfl) (ha : ∀ v, assign (.Subscript (.Subscript (.Name nm p') a sp2) b sp) X.env v = (do
      let ov ← holding [v] (eval (.Subscript (.Name nm p') a sp2) X.env)
      let iv ← holding [v, ov] (eval b X.env)
      standAt sp
      holding [v, ov, iv] (setItem ov iv v)
      release [v, ov, iv] []) := by intro _; rfl) :
    XSb X ρ p rs (.Assign [.Subscript (.Subscript (.Name nm p') a sp2) b sp] e pos) (fun ρ' => ρ' = ρ) R :=
  PS.imp (ps_asg he (pg_sub (pe_ix ix_list hp ha0 hpl) hb set_list ha) hs hw h1) fun D σ H ⟨G0, Gb, G, l0, l, s0, S, t, nx, rt⟩ => ⟨G, S, fun v H1 x e1 r1 p1 => ⟨_, join_some.mp (S.slot k _ hk), G, S.mono e1, fun w H2 y e2 r2 p2 => by
    obtain ⟨x, hx, rfl⟩ := p1
    have p2 : y = .d (.int (i : Int)) := p2
    subst p2
    cases Im.int_inv r1
    have S2 := (S.mono e1).mono e2
    have t2 := (t.mono S e1).mono (S.mono e1) e2
    have hlt : i < rs.length := by rw [t.len]; exact hi4
    have hg := List.getElem?_eq_getElem hlt
    refine ⟨p, _, i, .ref rs[i], rfl, Im.int_inv r2, SqL.of t2.hp, atI_nat (by rw [List.getElem?_map, hg]; rfl), G, S2, fun w3 H3 z e3 r3 p3 => ?_⟩
    have p3 : z = .d (.int (j : Int)) := p3
    subst p3
    have S3 := S2.mono e3
    have t3 := t2.mono S2 e3
    have hr := List.getElem_mem hlt
    obtain ⟨q, h4, hq⟩ := t3.rows rs[i] hr
    obtain ⟨S4, t4⟩ := t3.write S3 hr hq h4 (d := j) hx
    refine ⟨rs[i], _, j, j, rfl, Im.int_inv r3, hq, ?_, nx G σ _ ρ l S4 t4 rfl⟩
    unfold ixN
    rw [if_pos (by omega), List.length_map, if_pos (by rw [h4.1]; omega), Int.toNat_natCast]⟩⟩
/-- a, b = e -/
theorem xsb_asg {g : TG} {ok : PyData → Prop} {f : PyData → List SD → List SD} {is : List Nat} (he : XE X ρ e Φ) (hg : PG X tg g) (sg : SG g ok f is) (hok : ∀ r, Φ r → ∃ x, r = .d x ∧ ok x) (hs : swapsWithSole [tg] e pos.line X.env = pure false := by rfl) (hw : swappedStores [tg] e X.env = pure none := by rfl)
    (h1 : (assignEach [tg] X.env).map (·.2) = [assign tg X.env] := by rfl) : XSb X ρ p rs (.Assign [tg] e pos) (fun ρ' => ∃ x, Φ (.d x) ∧ ρ' = f x ρ) R :=
  PS.imp (ps_asg he hg hs hw h1) fun D σ H ⟨G0, Gb, G, l0, l, s0, S, t, nx, rt⟩ => ⟨G, S, fun v H' r e1 r1 p1 => by
    obtain ⟨x, rfl, hx⟩ := hok r p1
    exact sg.run G H' σ ρ x v _ hx (S.mono e1) r1 fun σ' S' _ => nx G σ' H' _ l S' ((t.mono S e1).slots (sg.own x ρ)) ⟨x, p1, rfl⟩⟩
/-- range of an unknown length -/
theorem xi_rangeN {A : Nat → Prop} {pp : Pos} (ha : XE X ρ a (fun r => ∃ n : Nat, (n ≤ 1000000 ∧ A n) ∧ r = .d (.int (n : Int)))) (hm : X.mg "range" = none) (hg : Gl X "range" := by rfl) (h0 : starEach [a] X.env = (false, eval a X.env) :: starEach [] X.env := by rfl) (hs : starEach [a] X.env = [(false, eval a X.env)] := by rfl) :
    XI X ρ tg (.Call (.Name "range" pp) [a] [] pos) (fun z => ∃ n, A n ∧ z = rngD 0 n) :=
  PI.imp (pi_range1 hg hm (pa_cons ha pa_nil h0) hs) fun σ H R ⟨G, S, q⟩ => ⟨G, S, fun v H1 r e1 r1 p1 => by
    obtain ⟨n, ⟨hn, hA⟩, rfl⟩ := p1
    refine ⟨n, by rw [Im.int_inv r1], by omega, by omega, ?_⟩
    exact q _ H1 _ _ e1 ⟨n, hA, rfl⟩ (fun _ _ => trivial) (by rw [Int.toNat_natCast]; exact wk_rng)⟩
/-- for i in range(..), the table in hand -/
theorem xsb_for (jv : Nat) {pp : Pos} (I : List SD → Prop) (ha : XE X ρ a (fun r => ∃ n : Nat, n ≤ 1000000 ∧ r = .d (.int (n : Int)))) (hm : X.mg "range" = none) (hgl : Gl X "range") (hg : PG X tg (gName jv)) (h0 : I ρ) (hb : ∀ (k : Nat) ρ', I ρ' → XSsb X (ρ'.set jv (.d (.int (k : Int)))) p rs body I R) (hn : ∀ ρ', I ρ' → N ρ')
    (hc : X.calm = true := by rfl) (hp : PassesOwn (model X.prog X.w) X.A X.env X.xe := by exact PassesOwn.never) (hs : ∀ x, foldedSetIterable (.Call (.Name "range" pp) [a] [] pos) X.env x = pure x := by intro _; rfl)
    (hs0 : starEach [a] X.env = (false, eval a X.env) :: starEach [] X.env := by rfl) (hs1 : starEach [a] X.env = [(false, eval a X.env)] := by rfl) {fpos : Pos} : XSb X ρ p rs (.For tg (.Call (.Name "range" pp) [a] [] pos) body [] fpos) N R :=
  PS.imp (ps_for hp hc (pi_range1 hgl hm (pa_cons ha pa_nil hs0) hs1) hg (PSs.uni (ι := Nat × List SD) (t := fun z => tB (z.2.set jv (.d (.int (z.1 : Int)))) p rs I R) (P := fun z => I z.2) fun z hz => hb z.1 z.2 hz) hs) fun D σ H ⟨G0, Gb, G, l0, l, s0, S, t, nx, rt⟩ => ⟨G, S, fun v H1 r e1 r1 p1 => by
    obtain ⟨n, hn', rfl⟩ := p1
    refine ⟨n, by rw [Im.int_inv r1], by omega, by omega, fun i m σ2 H2 => m = n - i ∧ i ≤ n ∧ ∃ G2 ρ', Le Gb G2 ∧ StOk G2 H2 σ2 ρ' ∧ Tab G2 H2 ρ' p rs ∧ I ρ', ⟨n, by simp, Nat.zero_le _, G, ρ, l, S.mono e1, t.mono S e1, h0⟩, ?_⟩
    rintro i m σ2 H2 ⟨rfl, hle, G2, ρ', l2, S2, t2, hI⟩
    by_cases hlt : i < n
    · refine .inr ⟨by show i < ((n : Int)).toNat; omega, fun σ3 H3 => ∃ G3 ρ3, Le Gb G3 ∧ StOk G3 H3 σ3 ρ3 ∧ Tab G3 H3 ρ3 p rs ∧ I ρ3, fun σ3 H3 q => ⟨n - (i + 1), by omega, rfl, hlt, q⟩, fun v H3 ⟨eH, y⟩ => ?_⟩
      subst eH; subst y
      rw [Int.zero_add]
      exact ⟨(i, ρ'), hI, G0, Gb, G2, l0, l2, s0, S2.set_d jv (.int _), t2.slots (own_set_none rfl), fun G' σ' H'' ρ'' l' S' t' n => ⟨G', ρ'', l', S', t', n⟩, rt⟩
    · exact .inl ⟨by show ((n : Int)).toNat ≤ i; omega, nx G2 σ2 H2 ρ' l2 S2 t2 (hn ρ' hI)⟩⟩
/-- a list of ints times an int -/
theorem Ims.rep {H : Hp} {ds : List PyData} {xs : List V} (h : Ims H ds xs) : ∀ k : Nat, Ims H (List.replicate k ds).flatten (List.replicate k xs).flatten
  | 0 => .nil
  | k + 1 => by
    rw [List.replicate_succ, List.replicate_succ, List.flatten_cons, List.flatten_cons]
    exact h.app (Ims.rep h k)
theorem rep_len {α : Type} (xs : List α) (k : Nat) : (List.replicate k xs).flatten.length = k * xs.length := by
  induction k with
  | zero => simp
  | succ k ih => rw [List.replicate_succ, List.flatten_cons, List.length_append, ih, Nat.succ_mul]; omega
theorem xf_rep {ds : List PyData} {k : Nat} (ha : XE X ρ a (fun r => r = .l ds)) (hb : XD X ρ b (.int (k : Int))) (hk : k ≤ 1000) (hl : ds.length ≤ 10) : XF X ρ (.BinOp a .Mult b pos) (fun z => z = (List.replicate k ds).flatten) :=
  PE.imp (pe_op op_rep ha hb) fun σ H Q ⟨G, S, q⟩ => ⟨G, S, fun v H1 x e1 r1 p1 => ⟨G, S.mono e1, fun w H2 y e2 r2 p2 => by
    subst p1; subst p2
    obtain ⟨t, xs, rfl, _, h1, h2⟩ := r1.mono e2
    have hz : xs.length * k ≤ 10 * 1000 := Nat.mul_le_mul (by rw [h2.len]; exact hl) hk
    refine ⟨t, k, xs, rfl, Im.int_inv r2, h1, by omega, by omega, by rw [Int.toNat_natCast]; exact sz_of (by omega), fun p np => ?_⟩
    rw [Int.toNat_natCast]
    have e3 : Ext G H2 (upd H2 p (.lst (List.replicate k xs).flatten)) := Ext.new e2.strm np
    exact q p _ _ _ (Ext.fresh S.strm (e1.trans e2) np) ((e1.trans e2).trans e3) upd_same ((h2.rep k).mono e3.tups) rfl⟩⟩
end
end PL

-- PLp
/-! PLp: a table made; a comprehension over a list of lists. -/
namespace PL
open PySem PySem.Spec PyProof.Rows L2
def tBe (ρ : List SD) (p : Addr) (rs : List Addr) (N : List SD → Prop) (R : SD → Prop) : TS := fun D σ H => ∃ G0 Gb G, Le G0 Gb ∧ Le Gb G ∧ Ent0 G0 ∧ StOk G H σ ρ ∧ Tab G H ρ p rs ∧ (∀ G' σ' H' ρ', Le Gb G' → StOk G' H' σ' ρ' → N ρ' → D.nx σ' H') ∧ (∀ v H' r, Ext G0 G0.H0 H' → ResF G0.H0 H' v r → R r → D.rt v H')
section
variable {X : Cx} {ρ : List SD} {p : Addr} {rs : List Addr} {st : Stmt} {rest body A B : List Stmt} {N M : List SD → Prop} {R : SD → Prop} {e a b tg iter elt : Expr} {Φ Ψ Θ : SD → Prop} {pos spos py : Pos} {nm : Str} {scope : Scope} {own : List (Str × Nat)}
theorem xbe_cons (h1 : XSb X ρ p rs st M R) (h2 : ∀ ρ', M ρ' → PSs X rest (tBe ρ' p rs N R)) : PSs X (st :: rest) (tBe ρ p rs N R) :=
  PSs.imp (pss_cons h1 (PSs.uni (t := fun ρ' => tBe ρ' p rs N R) (P := M) h2)) fun D σ H ⟨G0, Gb, G, l0, l, s0, S, t, nx, rt⟩ => ⟨G0, Gb, G, l0, l, s0, S, t, fun G' σ' H' ρ' l' S' t' m => ⟨ρ', m, G0, Gb, G', l0, l', s0, S', t', nx, rt⟩, rt⟩
theorem xbe_end {k : Nat} (hk : ρ[k]? = some (.rf p)) (h : ∀ qs : List (List Nat), qs.length = 4 → (∀ q ∈ qs, Row4 q) → XSs X (ρ.set k (.l2 (rowsD qs))) rest N R) : PSs X rest (tBe ρ p rs N R) := xsb_end hk h
abbrev threes : List PyData := [.int 3, .int 3, .int 3, .int 3]
theorem threes_row {H : Hp} {xs : List V} (h : Ims H threes xs) : xs = rowV [3, 3, 3, 3] := by
  cases h with
  | cons h1 h => cases h with
    | cons h2 h => cases h with
      | cons h3 h => cases h with
        | cons h4 h => cases h; cases h1; cases h2; cases h3; cases h4; rfl
theorem xss_newTab (i : Nat) {ds : List PyData} (h4 : ds.length = 4) {g : TG} {ok : PyData → Prop} {f : PyData → List SD → List SD} {is : List Nat} (hi : XIc X ρ tg iter (fun z => z = ds)) (sg : SG g ok f is)
    (hg : ∀ (s : Shared) (H : Hp) (C : Addr) (cl : List (Str × Addr)) (fp : List Addr), PG (X.blk s H scope (compEnvC scope cl C X.env) fp) tg g)
    (he : ∀ d, d ∈ ds → ok d ∧ ∀ (s : Shared) (H : Hp) (C : Addr) (cl : List (Str × Addr)) (fp : List Addr), XF (X.blk s H scope (compEnvC scope cl C X.env) fp) (f d (wipeR ρ (ownS own))) elt (fun z => z = threes))
    (hrest : ∀ p rs, PSs X rest (tBe (ρ.set i (.rf p)) p rs N R)) (hN : X.N.Nodup) (okb : BlkOk X.N X.env.scope scope own) (hsw : swapsWith (.ListComp elt [⟨tg, iter, [], 0⟩] scope pos) (some (.Name nm py)) spos.line X.env = pure true) (his : ∀ i ∈ is, i ∈ ownS own := by decide)
    (hy : X.N[i]? = some nm := by rfl) (hyl : X.env.scope.names.lookup nm = some .local := by rfl) (hc : X.calm = true := by rfl) (hs : ∀ x, foldedSetIterable iter X.env x = pure x := by intro _; rfl) :
    XSs X ρ (.Assign [.Name nm py] (.ListComp elt [⟨tg, iter, [], 0⟩] scope pos) spos :: rest) N R := by
  refine PSs.imp (pss_cons (ps_setLc hc hN hy hyl hsw hi okb hg (fun _ _ _ _ _ => pts_nil) (fun s H C cl fp => PE.uni (X := X.blk s H scope (compEnvC scope cl C X.env) fp) (e := elt) (ι := PyData) (t := fun d => tF (f d (wipeR ρ (ownS own))) (fun z => z = threes)) (P := fun d => d ∈ ds) fun d hd => (he d hd).2 s H C cl fp) hs)
    (PSs.uni (ι := Addr × List Addr) (t := fun z => tBe (ρ.set i (.rf z.1)) z.1 z.2 N R) (P := fun _ => True) fun z _ => hrest z.1 z.2)) fun Dn σ H ⟨G0, G, l, s0, S, nx, rt⟩ => ⟨G, S, fun J H1 ds' Gd e1 hp hG w D nD => ?_⟩
  have hp : ds' = ds := hp
  subst hp
  have S1 := S.mono e1
  have nD0 : G.H0 D = none := S1.fresh0 nD
  have nS : ∀ {c}, H1 c = none → ¬ isS G c := fun hc ⟨sl, q⟩ => by
    obtain ⟨_, _, c0, k0, h3, _⟩ := S1.strm _ sl q
    rw [hc] at h3; cases h3
  have noD : ∀ {c}, H1 c = none → ∀ i, ownAt ρ i ≠ some c := fun hc i z => by
    obtain ⟨_, _, u, hu, _⟩ := S1.owned z
    rw [hc] at hu; cases hu
  have noW : ∀ {c}, H1 c = none → ∀ i, ownAt (wipeR ρ (ownS own)) i ≠ some c := fun hc i z => by
    obtain ⟨_, _, u, hu, _⟩ := (S1.wipe (ownS own)).owned z
    rw [hc] at hu; cases hu
  refine ⟨fun i m H2 => m = ds'.length - i ∧ i ≤ ds'.length ∧ StOk G H2 (L2.wipe σ (ownS own)) (wipeR ρ (ownS own)) ∧ Ext G H1 H2 ∧ ∃ rs : List Addr, rs.length = i ∧ H2 D = some (.lst (rs.map V.ref)) ∧ (∀ r ∈ rs, H1 r = none ∧ r ≠ D ∧ H2 r = some (.lst (rowV [3, 3, 3, 3]))),
    ⟨ds'.length, by simp, Nat.zero_le _, (S1.wipe (ownS own)).mono (Ext.new e1.strm nD), Ext.new e1.strm nD, [], rfl, upd_same, by simp⟩, ?_⟩
  rintro i2 m H2 ⟨rfl, hle, S2, e2, rs, hrl, hD, hrs⟩
  obtain ⟨go, stop⟩ := w H2 (hG H2 e2) i2
  by_cases hlt : i2 < ds'.length
  · have hd := List.getElem?_eq_getElem hlt
    have hm : ds'[i2] ∈ ds' := List.getElem_mem hlt
    generalize ds'[i2] = d at hd hm
    obtain ⟨g1, g2⟩ := go _ hd
    refine .inr ⟨g1, fun H3 => i2 + 1 ≤ ds'.length ∧ StOk G H3 (L2.wipe σ (ownS own)) (wipeR ρ (ownS own)) ∧ Ext G H1 H3 ∧ ∃ rs : List Addr, rs.length = i2 + 1 ∧ H3 D = some (.lst (rs.map V.ref)) ∧ (∀ r ∈ rs, H1 r = none ∧ r ≠ D ∧ H3 r = some (.lst (rowV [3, 3, 3, 3]))), fun H3 q => ⟨ds'.length - (i2 + 1), by omega, rfl, q⟩, fun v H3 y => ?_⟩
    obtain ⟨sm, iv⟩ := g2 v H3 y
    have e3 : Ext G H2 H3 := Ext.same S2.strm sm
    refine sg.run G H3 _ _ _ v _ (he d hm).1 (S2.mono e3) iv fun σ4 S4 hw => ?_
    refine ⟨by rw [hw (ownS own) his, wipe_idem], ?_⟩
    dsimp only [tYes]
    rw [if_pos rfl]
    refine ⟨d, hm, G, S4, fun a xs H5 zs na e5 ha hz p5 => ?_⟩
    have p5 : zs = threes := p5
    subst p5
    rw [threes_row hz] at ha
    have e25 := e3.trans e5
    have nSD := nS nD
    have hD5 := e25.keep _ _ hD nSD
    have na2 : H2 a = none := Ext.fresh S2.strm e3 na
    have na1 : H1 a = none := by
      cases q : H1 a with
      | none => rfl
      | some u =>
        by_cases hs : isS G a
        · obtain ⟨sl, hs⟩ := hs
          obtain ⟨_, _, c, k, h3, _⟩ := e2.strm a sl hs
          rw [na2] at h3; cases h3
        · rw [e2.keep a u q hs] at na2; cases na2
    have naD : a ≠ D := fun z => by rw [z, hD] at na2; cases na2
    refine ⟨_, hD5, sz_lt (by rw [List.length_map]; omega), hlt, (S2.mono e25).other nD0 hD5 trivial (noW nD), ?_, rs ++ [a], by rw [List.length_append, hrl]; rfl, by rw [upd_same, List.map_append]; rfl, fun r hr => ?_⟩
    · have e15 := e2.trans e25
      have ne : ∀ c u, H1 c = some u → c ≠ D := fun c u hc zz => by subst zz; rw [nD] at hc; cases hc
      exact ⟨fun c u hc hs => by rw [upd_ne (ne c u hc)]; exact e15.keep c u hc hs, ((S2.mono e25).other nD0 hD5 trivial (noW nD)).strm, fun c xs hc => by rw [upd_ne (ne c _ hc)]; exact e15.tups c xs hc⟩
    · rcases List.mem_append.mp hr with hr | hr
      · obtain ⟨q1, q2, q3⟩ := hrs r hr
        exact ⟨q1, q2, by rw [upd_ne q2]; exact e25.keep _ _ q3 (nS q1)⟩
      · simp at hr
        subst hr
        exact ⟨na1, naD, by rw [upd_ne naD]; exact ha⟩
  · have e : i2 = ds'.length := by omega
    subst e
    have e12 := e1.trans e2
    have S3 := (S.mono e12).set i (r := .rf D) (v := .ref D) rfl fun _ e => nomatch e
    have fr : ∀ {c}, H1 c = none → G.H0 c = none := fun hc => S1.fresh0 hc
    refine .inl ⟨stop (Nat.le_refl _), (D, rs), trivial, G0, G, G, l, Le.refl G, s0, S3, ⟨fr nD, fun r hr => fr (hrs r hr).1, hD, by rw [hrl, h4], fun r hr => ⟨[3, 3, 3, 3], ⟨rfl, by decide⟩, (hrs r hr).2.2⟩, fun j z => noD nD j (own_set_none rfl j _ z), fun r hr j z => noD (hrs r hr).1 j (own_set_none rfl j _ z), fun hm => (hrs D hm).2.1 rfl⟩, fun G' σ' H' ρ' l' S' n => nx G' σ' H' ρ' l' S' n, rt⟩
/-- a comprehension over a name's list of lists -/
theorem xf_lcL2 (jv k : Nat) {nk : Str} {pk : Pos} {qs : List (List PyData)} (F : List PyData → PyData) (hk : ρ[k]? = some (.l2 qs)) (hpk : PE X (.Name nk pk) (tVar k))
    (hg : ∀ (s : Shared) (H : Hp) (C : Addr) (cl : List (Str × Addr)) (fp : List Addr), PG (X.blk s H scope (compEnvC scope cl C X.env) fp) tg (gName jv))
    (he : ∀ q, q ∈ qs → ∀ (s : Shared) (H : Hp) (C : Addr) (cl : List (Str × Addr)) (fp : List Addr), XD (X.blk s H scope (compEnvC scope cl C X.env) fp) ((wipeR ρ (ownS own)).set jv (.l q)) elt (F q))
    (hl : qs.length ≤ 50000) (hN : X.N.Nodup) (okb : BlkOk X.N X.env.scope scope own) (hj : jv ∈ ownS own := by decide) (hc : X.calm = true := by rfl) (hs : ∀ x, foldedSetIterable (.Name nk pk) X.env x = pure x := by intro _; rfl) :
    XF X ρ (.ListComp elt [⟨tg, .Name nk pk, [], 0⟩] scope pos) (fun z => z = qs.map F) := by
  refine PE.imp (pe_lc hc hN (pi_list hpk) okb hg (fun _ _ _ _ _ => pts_nil) (fun s H C cl fp => PE.uni (X := X.blk s H scope (compEnvC scope cl C X.env) fp) (e := elt) (ι := List PyData) (t := fun q => tE ((wipeR ρ (ownS own)).set jv (.l q)) (fun r => r = .d (F q))) (P := fun q => q ∈ qs) fun q hq => he q hq s H C cl fp) hs) fun σ H Q ⟨G, S, kk⟩ => ?_
  obtain ⟨ad, rs, e1, e0, ns, hfz⟩ := S.slot k _ hk
  have had := S.base ad _ e0 ns
  refine ⟨_, join_some.mp e1, ad, rfl, ⟨_, SqL.of had⟩, fun D nD => ?_⟩
  have nD0 : G.H0 D = none := S.fresh0 nD
  have nDs : ¬ isS G D := fun ⟨sl, es⟩ => by
    obtain ⟨_, _, c, k, h3, _⟩ := S.strm D sl es
    rw [nD] at h3; cases h3
  have noD : ∀ i, ownAt (wipeR ρ (ownS own)) i ≠ some D := fun i z => by
    obtain ⟨_, _, u, hu, _⟩ := (S.wipe (ownS own)).owned z
    rw [nD] at hu; cases hu
  refine ⟨fun i m H2 => m = qs.length - i ∧ i ≤ qs.length ∧ StOk G H2 (L2.wipe σ (ownS own)) (wipeR ρ (ownS own)) ∧ Ext G H H2 ∧ ∃ acc, H2 D = some (.lst acc) ∧ Ims H2 ((qs.take i).map F) acc,
    ⟨qs.length, by simp, Nat.zero_le _, (S.wipe (ownS own)).mono (Ext.new S.strm nD), Ext.new S.strm nD, [], upd_same, by simp; exact .nil⟩, ?_⟩
  rintro i m H2 ⟨rfl, hle, S2, e2, acc, hD, him⟩
  have hsq := SqL.of (K := X.K) (e2.keep _ _ had ns)
  by_cases hlt : i < qs.length
  · have hq := List.getElem?_eq_getElem hlt
    have hm : qs[i] ∈ qs := List.getElem_mem hlt
    generalize qs[i] = q at hq hm
    obtain ⟨r, xs, q1, q2, q3, q4⟩ := hfz.2 i q hq
    refine .inr ⟨⟨_, .ref r, hsq, by rw [List.getElem?_map, q1]; rfl⟩, fun H3 => i + 1 ≤ qs.length ∧ StOk G H3 (L2.wipe σ (ownS own)) (wipeR ρ (ownS own)) ∧ Ext G H H3 ∧ ∃ acc, H3 D = some (.lst acc) ∧ Ims H3 ((qs.take (i + 1)).map F) acc, fun H3 z => ⟨qs.length - (i + 1), by omega, rfl, z⟩, fun v H3 ⟨eH, y⟩ => ?_⟩
    subst eH
    have ey := y _ hsq
    rw [List.getElem?_map, q1] at ey
    cases ey
    have S4 := S2.set jv (r := .l q) (v := .ref r) ⟨r, xs, rfl, q2, q3, q4.mono e2.tups⟩ fun _ e => nomatch e
    refine ⟨by
      have := wipe_set (x := some (V.ref r)) (σ := L2.wipe σ (ownS own)) hj
      rw [this, wipe_idem], ?_⟩
    dsimp only [tYes]
    rw [if_pos rfl]
    refine ⟨q, hm, G, S4, fun z H5 rr e5 r5 p5 => ?_⟩
    have p5 : rr = .d (F q) := p5
    subst p5
    have hD5 := e5.keep _ _ hD nDs
    refine ⟨acc, hD5, sz_lt (by rw [him.len, List.length_map, List.length_take]; omega), hlt, (S2.mono e5).other nD0 hD5 trivial noD, ?_, acc ++ [z], upd_same, ?_⟩
    · have e15 := e2.trans e5
      have ne : ∀ c u, H c = some u → c ≠ D := fun c u hc zz => by subst zz; rw [nD] at hc; cases hc
      exact ⟨fun c u hc hs => by rw [upd_ne (ne c u hc)]; exact e15.keep c u hc hs, ((S2.mono e5).other (o := .lst (acc ++ [z])) nD0 hD5 trivial noD).strm, fun c xs hc => by rw [upd_ne (ne c _ hc)]; exact e15.tups c xs hc⟩
    · rw [List.take_add_one, hq, List.map_append]
      refine ((him.mono e5.tups).app (.one r5)).mono fun c xs hc => ?_
      rw [upd_ne (fun zz => by subst zz; rw [hD5] at hc; cases hc)]
      exact hc
  · have e : i = qs.length := by omega
    subst e
    exact .inl ⟨⟨_, hsq, by rw [List.length_map, hfz.1]; exact Nat.le_refl _⟩, kk D acc H2 _ nD e2 hD him (by rw [List.take_length])⟩
end
end PL

-- PLq
/-! PLq: x = [.. for .. if ..] on one line. -/
namespace PL
open PySem PySem.Spec PyProof.Rows L2
theorem xs_setLcF {X : Cx} {ρ : List SD} {tg iter elt tst : Expr} {scope : Scope} {own : List (Str × Nat)} {pos spos py : Pos} {nm : Str} {R : SD → Prop} (i : Nat) {ds : List PyData} {g : TG} {ok : PyData → Prop} {f : PyData → List SD → List SD} {is : List Nat} (F : PyData → PyData) (T : PyData → Bool) (hi : XIc X ρ tg iter (fun z => z = ds)) (sg : SG g ok f is)
    (hg : ∀ (s : Shared) (H : Hp) (C : Addr) (cl : List (Str × Addr)) (fp : List Addr), PG (X.blk s H scope (compEnvC scope cl C X.env) fp) tg g)
    (he : ∀ d, d ∈ ds → ok d ∧ (∀ (s : Shared) (H : Hp) (C : Addr) (cl : List (Str × Addr)) (fp : List Addr), XB (X.blk s H scope (compEnvC scope cl C X.env) fp) (f d (wipeR ρ (ownS own))) tst (T d)) ∧
      (T d = true → ∀ (s : Shared) (H : Hp) (C : Addr) (cl : List (Str × Addr)) (fp : List Addr), XD (X.blk s H scope (compEnvC scope cl C X.env) fp) (f d (wipeR ρ (ownS own))) elt (F d)))
    (hl : ds.length ≤ 50000) (hN : X.N.Nodup) (okb : BlkOk X.N X.env.scope scope own) (hsw : swapsWith (.ListComp elt [⟨tg, iter, [tst], 0⟩] scope pos) (some (.Name nm py)) spos.line X.env = pure true) (his : ∀ i ∈ is, i ∈ ownS own := by decide)
    (hy : X.N[i]? = some nm := by rfl) (hyl : X.env.scope.names.lookup nm = some .local := by rfl) (hc : X.calm = true := by rfl) (hs : ∀ x, foldedSetIterable iter X.env x = pure x := by intro _; rfl) :
    XS X ρ (.Assign [.Name nm py] (.ListComp elt [⟨tg, iter, [tst], 0⟩] scope pos) spos) (fun ρ' => ∃ ad, ρ' = ρ.set i (.ol ad ((ds.filter T).map F))) R := by
  refine PS.imp (ps_setLc hc hN hy hyl hsw hi okb hg (fun s H C cl fp => pts_one (PT.uni (X := X.blk s H scope (compEnvC scope cl C X.env) fp) (e := tst) (ι := PyData) (t := fun d => tT (f d (wipeR ρ (ownS own))) (fun r => r = T d)) (P := fun d => d ∈ ds) fun d hd => (he d hd).2.1 s H C cl fp))
    (fun s H C cl fp => PE.uni (X := X.blk s H scope (compEnvC scope cl C X.env) fp) (e := elt) (ι := PyData) (t := fun d => tE (f d (wipeR ρ (ownS own))) (fun r => r = .d (F d))) (P := fun d => d ∈ ds ∧ T d = true) fun d hd => (he d hd.1).2.2 hd.2 s H C cl fp) hs) fun D σ H ⟨G0, G, l, s0, S, nx, rt⟩ => ?_
  refine lc_tF (P := fun ds' i out => out = ((ds'.take i).filter T).map F) (Ψ := fun z => z = (ds.filter T).map F) sg his _ _ (fun ds' e => by simp) (fun ds' e => by rw [e]; exact hl) (fun ds' i d out e hd _ => by subst e; exact (he d (List.mem_of_getElem? hd)).1) (fun ds' i d out e hd ho => ?_) (fun ds' out e ho => by rw [ho, e, List.take_length]) ⟨G, S, fun ad xs H' ds' n e1 h1 h2 p1 => ?_⟩
  · subst e
    have hm := List.mem_of_getElem? hd
    refine ⟨T d, fun σ H Q q => ⟨d, hm, q⟩, fun ht => ⟨_, fun σ H Q q => ⟨d, ⟨hm, ht⟩, q⟩, fun r hr => ⟨F d, hr, ?_⟩⟩, fun ht => ?_⟩
    · rw [List.take_add_one, hd, List.filter_append, List.map_append, ho]
      show _ = _ ++ ([d].filter T).map F
      rw [List.filter_cons, if_pos ht]
      rfl
    · rw [List.take_add_one, hd, List.filter_append, List.map_append, ho]
      show _ = _ ++ ([d].filter T).map F
      rw [List.filter_cons, if_neg (by rw [ht]; decide)]
      simp
  · have p1 : ds' = _ := p1
    subst p1
    exact nx G _ H' _ (Le.refl G) (S.set_new e1 i n h1 h2) ⟨ad, rfl⟩
end PL

-- Ma
/-! Ma: the mathematics: automata, reached states, pairs at a depth, met triples, trees, grafts. Plain Lean. -/
namespace Ma
inductive Ent where
  | e0 (s : Nat)
  | e1 (r : List Nat)
  | e2 (rs : List (List Nat))
structure Au where
  ar : List Nat
  good : List Bool
  st : List Ent
def Au.n (A : Au) : Nat := A.good.length
def Ent.at : Ent → List Nat → Nat
  | .e0 s, [] => s
  | .e1 r, [x] => r.getD x 0
  | .e2 rs, [x, y] => (rs.getD x []).getD y 0
  | _, _ => 0
def Au.step (A : Au) (sym : Nat) (ss : List Nat) : Nat := (A.st.getD sym (.e0 0)).at ss
def Ent.ok (n a : Nat) : Ent → Prop
  | .e0 s => a = 0 ∧ s < n
  | .e1 r => a = 1 ∧ r.length = n ∧ ∀ x ∈ r, x < n
  | .e2 rs => a = 2 ∧ rs.length = n ∧ ∀ r ∈ rs, r.length = n ∧ ∀ x ∈ r, x < n
def arList : List (List Nat) := [[0, 0, 2], [0, 2], [0, 1, 2], [0, 0, 1], [0, 0, 1, 2], [2, 0, 0]]
structure Au.Wf (A : Au) : Prop where
  n1 : 1 ≤ A.n
  n4 : A.n ≤ 4
  len : A.st.length = A.ar.length
  ar : A.ar ∈ arList
  ent : ∀ (i a : Nat) (e : Ent), A.ar[i]? = some a → A.st[i]? = some e → Ent.ok A.n a e
def Au.isGood (A : Au) (s : Nat) : Bool := A.good.getD s false

section
variable {A : Au}
theorem getD_of {α : Type} {l : List α} {i : Nat} {d x : α} (h : l[i]? = some x) : l.getD i d = x := by simp [List.getD, h]
theorem getD_mem {α : Type} {l : List α} {i : Nat} {d : α} (h : i < l.length) : l.getD i d ∈ l := by
  rw [getD_of (List.getElem?_eq_getElem h)]; exact List.getElem_mem h
theorem ar_small : ∀ l ∈ arList, (∀ a ∈ l, a ≤ 2) ∧ 1 ≤ l.length ∧ l.length ≤ 4 := by decide
theorem Au.Wf.ar2 (w : A.Wf) {i a : Nat} (h : A.ar[i]? = some a) : a ≤ 2 := (ar_small _ w.ar).1 a (List.mem_of_getElem? h)
theorem Au.Wf.entry (w : A.Wf) {i a : Nat} (h : A.ar[i]? = some a) : ∃ e, A.st[i]? = some e ∧ Ent.ok A.n a e := by
  have hi := (List.getElem?_eq_some_iff.mp h).1
  have hs : i < A.st.length := by rw [w.len]; exact hi
  exact ⟨A.st[i], List.getElem?_eq_getElem hs, w.ent i a _ h (List.getElem?_eq_getElem hs)⟩
theorem Au.Wf.lt (w : A.Wf) {i a : Nat} {ss : List Nat} (h : A.ar[i]? = some a) (hl : ss.length = a) (hs : ∀ s ∈ ss, s < A.n) : A.step i ss < A.n := by
  obtain ⟨e, he, ok⟩ := w.entry h
  unfold Au.step
  rw [getD_of he]
  cases e with
  | e0 s =>
    obtain ⟨rfl, h1⟩ := ok
    have e0 : ss = [] := List.eq_nil_of_length_eq_zero hl
    subst e0
    exact h1
  | e1 r =>
    obtain ⟨rfl, h1, h2⟩ := ok
    match ss, hl, hs with
    | [x], _, hs => exact h2 _ (getD_mem (by rw [h1]; exact hs x (by simp)))
  | e2 rs =>
    obtain ⟨rfl, h1, h2⟩ := ok
    match ss, hl, hs with
    | [x, y], _, hs =>
      have h3 := h2 _ (getD_mem (d := []) (show x < rs.length by rw [h1]; exact hs x (by simp)))
      exact h3.2 _ (getD_mem (by rw [h3.1]; exact hs y (by simp)))

/-! ### reached states, pairs, triples -/
inductive Reached (A : Au) : Nat → Prop
  | mk (sym a : Nat) (ss : List Nat) : A.ar[sym]? = some a → ss.length = a → (∀ s ∈ ss, Reached A s) → Reached A (A.step sym ss)
theorem Reached.lt (w : A.Wf) : ∀ {s : Nat}, Reached A s → s < A.n
  | _, .mk sym a ss h hl hs => w.lt h hl fun s m => (hs s m).lt w
/-- what some symbol makes -/
def Made (A : Au) (L : Nat × Nat → Prop) (p : Nat × Nat) : Prop := ∃ (sym a : Nat) (qs : List (Nat × Nat)), A.ar[sym]? = some a ∧ qs.length = a ∧ (∀ q ∈ qs, L q) ∧ p = (A.step sym (qs.map (·.1)), A.step sym (qs.map (·.2)))
def PairAt (A : Au) : Nat → Nat × Nat → Prop
  | 0, p => Reached A p.1 ∧ Reached A p.2
  | J + 1, p => Made A (PairAt A J) p
inductive Met (A : Au) (L : Nat × Nat → Prop) : Nat × Nat × Nat → Prop
  | base {p q : Nat} : L (p, q) → Met A L (p, q, q)
  | up1 {sym p q r : Nat} : A.ar[sym]? = some 1 → Met A L (p, q, r) → Met A L (A.step sym [p], A.step sym [q], A.step sym [r])
  | upl {sym p q r x y : Nat} : A.ar[sym]? = some 2 → Met A L (p, q, r) → L (x, y) → Met A L (A.step sym [p, x], A.step sym [q, y], A.step sym [r, x])
  | upr {sym p q r x y : Nat} : A.ar[sym]? = some 2 → Met A L (p, q, r) → L (x, y) → Met A L (A.step sym [x, p], A.step sym [y, q], A.step sym [x, r])
def Bad (A : Au) (t : Nat × Nat × Nat) : Bool := A.isGood t.1 && (A.isGood t.2.1 && !A.isGood t.2.2)
def Closed (A : Au) (L : Nat × Nat → Prop) : Prop := ∀ t, Met A L t → Bad A t = false
theorem Made.mono {L M : Nat × Nat → Prop} (h : ∀ p, L p → M p) {p : Nat × Nat} : Made A L p → Made A M p := fun ⟨sym, a, qs, h1, h2, h3, h4⟩ => ⟨sym, a, qs, h1, h2, fun q m => h q (h3 q m), h4⟩
theorem PairAt.reached : ∀ {J : Nat} {p : Nat × Nat}, PairAt A J p → Reached A p.1 ∧ Reached A p.2
  | 0, _, h => h
  | J + 1, p, ⟨sym, a, qs, h1, h2, h3, h4⟩ => by
    subst h4
    refine ⟨.mk sym a _ h1 (by simpa using h2) fun s m => ?_, .mk sym a _ h1 (by simpa using h2) fun s m => ?_⟩
    · obtain ⟨q, hq, e⟩ := List.mem_map.mp m
      rw [← e]; exact (h3 q hq).reached.1
    · obtain ⟨q, hq, e⟩ := List.mem_map.mp m
      rw [← e]; exact (h3 q hq).reached.2
theorem PairAt.down : ∀ {J : Nat} {p : Nat × Nat}, PairAt A (J + 1) p → PairAt A J p
  | 0, _, h => h.reached
  | J + 1, _, h => Made.mono (fun _ q => PairAt.down q) h
theorem PairAt.le {I J : Nat} (h : I ≤ J) {p : Nat × Nat} (q : PairAt A J p) : PairAt A I p := by
  induction h with
  | refl => exact q
  | step _ ih => exact ih q.down
theorem Met.mono {L M : Nat × Nat → Prop} (h : ∀ p, L p → M p) {t : Nat × Nat × Nat} (m : Met A L t) : Met A M t := by
  induction m with
  | base p => exact .base (h _ p)
  | up1 a _ ih => exact .up1 a ih
  | upl a _ p ih => exact .upl a ih (h _ p)
  | upr a _ p ih => exact .upr a ih (h _ p)
theorem Closed.up {I J : Nat} (h : I ≤ J) (c : Closed A (PairAt A I)) : Closed A (PairAt A J) := fun t m => c t (m.mono fun _ q => q.le h)
theorem Closed.congr {L M : Nat × Nat → Prop} (h : ∀ p, L p ↔ M p) : Closed A L ↔ Closed A M :=
  ⟨fun c t m => c t (m.mono fun p q => (h p).mpr q), fun c t m => c t (m.mono fun p q => (h p).mp q)⟩
theorem Met.lt (w : A.Wf) {L : Nat × Nat → Prop} (hL : ∀ p, L p → p.1 < A.n ∧ p.2 < A.n) {t : Nat × Nat × Nat} (m : Met A L t) : t.1 < A.n ∧ t.2.1 < A.n ∧ t.2.2 < A.n := by
  induction m with
  | base p => exact ⟨(hL _ p).1, (hL _ p).2, (hL _ p).2⟩
  | up1 a _ ih =>
    obtain ⟨i1, i2, i3⟩ := ih
    exact ⟨w.lt a rfl (by simpa using i1), w.lt a rfl (by simpa using i2), w.lt a rfl (by simpa using i3)⟩
  | upl a _ p ih =>
    obtain ⟨i1, i2, i3⟩ := ih
    have q := hL _ p
    exact ⟨w.lt a rfl (by simpa using ⟨i1, q.1⟩), w.lt a rfl (by simpa using ⟨i2, q.2⟩), w.lt a rfl (by simpa using ⟨i3, q.1⟩)⟩
  | upr a _ p ih =>
    obtain ⟨i1, i2, i3⟩ := ih
    have q := hL _ p
    exact ⟨w.lt a rfl (by simpa using ⟨q.1, i1⟩), w.lt a rfl (by simpa using ⟨q.2, i2⟩), w.lt a rfl (by simpa using ⟨q.1, i3⟩)⟩
end

/-! ### trees -/
inductive Tr where
  | n0 (s : Nat)
  | n1 (s : Nat) (t : Tr)
  | n2 (s : Nat) (t u : Tr)
def Tr.sym : Tr → Nat
  | .n0 s => s
  | .n1 s _ => s
  | .n2 s _ _ => s
def Tr.kids : Tr → List Tr
  | .n0 _ => []
  | .n1 _ t => [t]
  | .n2 _ t u => [t, u]
def Tr.Wf (ar : List Nat) : Tr → Prop
  | .n0 s => ar[s]? = some 0
  | .n1 s t => ar[s]? = some 1 ∧ t.Wf ar
  | .n2 s t u => ar[s]? = some 2 ∧ t.Wf ar ∧ u.Wf ar
def Tr.wfB (ar : List Nat) : Tr → Bool
  | .n0 s => ar[s]? == some 0
  | .n1 s t => ar[s]? == some 1 && t.wfB ar
  | .n2 s t u => ar[s]? == some 2 && (t.wfB ar && u.wfB ar)
theorem Tr.wf_of {ar : List Nat} : ∀ {t : Tr}, t.wfB ar = true → t.Wf ar
  | .n0 s, h => eq_of_beq h
  | .n1 s t, h => by
    have h := (Bool.and_eq_true_iff.mp h)
    exact ⟨eq_of_beq h.1, Tr.wf_of h.2⟩
  | .n2 s t u, h => by
    have h := (Bool.and_eq_true_iff.mp h)
    have h2 := (Bool.and_eq_true_iff.mp h.2)
    exact ⟨eq_of_beq h.1, Tr.wf_of h2.1, Tr.wf_of h2.2⟩
def Tr.height : Tr → Nat
  | .n0 _ => 1
  | .n1 _ t => t.height + 1
  | .n2 _ t u => max t.height u.height + 1
def state (A : Au) : Tr → Nat
  | .n0 s => A.step s []
  | .n1 s t => A.step s [state A t]
  | .n2 s t u => A.step s [state A t, state A u]
theorem state_kids (A : Au) (t : Tr) : state A t = A.step t.sym (t.kids.map (state A)) := by cases t <;> rfl
theorem state_reached {A : Au} : ∀ {t : Tr}, t.Wf A.ar → Reached A (state A t)
  | .n0 s, h => .mk s 0 [] h rfl (by simp)
  | .n1 s t, h => .mk s 1 _ h.1 rfl (by simpa using state_reached h.2)
  | .n2 s t u, h => .mk s 2 _ h.1 rfl (by simpa using ⟨state_reached h.2.1, state_reached h.2.2⟩)
def part : Tr → List Nat → Option Tr
  | t, [] => some t
  | t, i :: r => match t.kids[i]? with
    | some c => part c r
    | none => none
def put : Tr → List Nat → Tr → Tr
  | _, [], u => u
  | .n0 s, _ :: _, _ => .n0 s
  | .n1 s t, _ :: r, u => .n1 s (put t r u)
  | .n2 s t v, 0 :: r, u => .n2 s (put t r u) v
  | .n2 s t v, _ :: r, u => .n2 s t (put v r u)
def same : Tr → Tr → Nat → Bool
  | _, _, 0 => true
  | .n0 s, .n0 s', _ + 1 => s == s'
  | .n1 s t, .n1 s' t', k + 1 => s == s' && same t t' k
  | .n2 s t u, .n2 s' t' u', k + 1 => s == s' && (same t t' k && same u u' k)
  | _, _, _ + 1 => false
theorem same_pair {A : Au} : ∀ (k : Nat) (t u : Tr), t.Wf A.ar → u.Wf A.ar → same t u k = true → PairAt A k (state A t, state A u)
  | 0, t, u, ht, hu, _ => ⟨state_reached ht, state_reached hu⟩
  | k + 1, .n0 s, .n0 s', ht, hu, h => by
    have e : s = s' := eq_of_beq h
    subst e
    exact ⟨s, 0, [], ht, rfl, by simp, rfl⟩
  | k + 1, .n1 s t, .n1 s' t', ht, hu, h => by
    have h := Bool.and_eq_true_iff.mp h
    have e : s = s' := eq_of_beq h.1
    subst e
    exact ⟨s, 1, [(state A t, state A t')], ht.1, rfl, by simpa using same_pair k t t' ht.2 hu.2 h.2, rfl⟩
  | k + 1, .n2 s t u, .n2 s' t' u', ht, hu, h => by
    have h := Bool.and_eq_true_iff.mp h
    have h2 := Bool.and_eq_true_iff.mp h.2
    have e : s = s' := eq_of_beq h.1
    subst e
    exact ⟨s, 2, [(state A t, state A t'), (state A u, state A u')], ht.1, rfl, by simpa using ⟨same_pair k t t' ht.2.1 hu.2.1 h2.1, same_pair k u u' ht.2.2 hu.2.2 h2.2⟩, rfl⟩
def along (t u : Tr) (pl : List Nat) (k : Nat) : Bool := (List.range pl.length).all fun i => match part t (pl.take i), part u (pl.take i) with
  | some a, some b => same a b k
  | _, _ => false
theorem along_cons {t u c d : Tr} {i : Nat} {r : List Nat} {k : Nat} (hc : t.kids[i]? = some c) (hd : u.kids[i]? = some d) (h : along t u (i :: r) k = true) : same t u k = true ∧ along c d r k = true := by
  unfold along at h
  rw [List.all_eq_true] at h
  refine ⟨h 0 (by simp), ?_⟩
  unfold along
  rw [List.all_eq_true]
  intro j hj
  have q := h (j + 1) (by simpa using hj)
  simp only [List.take_succ_cons] at q
  have e1 : part t (i :: r.take j) = part c (r.take j) := by
    cases t <;> simp only [part, hc]
  have e2 : part u (i :: r.take j) = part d (r.take j) := by
    cases u <;> simp only [part, hd]
  rw [e1, e2] at q
  exact q
theorem part_wf {ar : List Nat} : ∀ {pl : List Nat} {t x : Tr}, t.Wf ar → part t pl = some x → x.Wf ar
  | [], t, x, h, e => by cases t <;> (simp only [part] at e; cases e; exact h)
  | i :: r, t, x, h, e => by
    have key : ∀ c, t.kids[i]? = some c → c.Wf ar := fun c hc => by
      have hm := List.mem_of_getElem? hc
      cases t with
      | n0 s => simp [Tr.kids] at hm
      | n1 s t => simp [Tr.kids] at hm; subst hm; exact h.2
      | n2 s t u =>
        simp [Tr.kids] at hm
        rcases hm with rfl | rfl
        · exact h.2.1
        · exact h.2.2
    cases hc : t.kids[i]? with
    | none => cases t <;> simp [part, hc] at e
    | some c =>
      have e' : part c r = some x := by cases t <;> simpa only [part, hc] using e
      exact part_wf (key c hc) e'
theorem put_wf {ar : List Nat} : ∀ {pl : List Nat} {t u : Tr}, t.Wf ar → u.Wf ar → (put t pl u).Wf ar
  | [], t, u, _, h => by cases t <;> exact h
  | i :: r, .n0 s, u, h, _ => h
  | i :: r, .n1 s t, u, h, hu => ⟨h.1, put_wf h.2 hu⟩
  | 0 :: r, .n2 s t v, u, h, hu => ⟨h.1, put_wf h.2.1 hu, h.2.2⟩
  | (i + 1) :: r, .n2 s t v, u, h, hu => ⟨h.1, h.2.1, put_wf h.2.2 hu⟩
theorem put_height : ∀ {pl : List Nat} {t u : Tr}, (put t pl u).height ≤ t.height + u.height
  | [], t, u => by cases t <;> (simp only [put]; omega)
  | i :: r, .n0 s, u => by simp only [put]; omega
  | i :: r, .n1 s t, u => by
    have := put_height (pl := r) (t := t) (u := u)
    simp only [put, Tr.height]; omega
  | 0 :: r, .n2 s t v, u => by
    have := put_height (pl := r) (t := t) (u := u)
    simp only [put, Tr.height]; omega
  | (i + 1) :: r, .n2 s t v, u => by
    have := put_height (pl := r) (t := v) (u := u)
    simp only [put, Tr.height]; omega
theorem part_height : ∀ {pl : List Nat} {t x : Tr}, part t pl = some x → x.height ≤ t.height
  | [], t, x, e => by cases t <;> (simp only [part] at e; cases e; exact Nat.le_refl _)
  | i :: r, t, x, e => by
    cases hc : t.kids[i]? with
    | none => cases t <;> simp [part, hc] at e
    | some c =>
      have e' : part c r = some x := by cases t <;> simpa only [part, hc] using e
      have h1 := part_height e'
      have hm := List.mem_of_getElem? hc
      cases t with
      | n0 s => simp [Tr.kids] at hm
      | n1 s t => simp [Tr.kids] at hm; subst hm; simp only [Tr.height]; omega
      | n2 s t u =>
        simp [Tr.kids] at hm
        simp only [Tr.height]
        rcases hm with rfl | rfl <;> omega
/-- the triple of two trees and their graft is met -/
theorem graft_met {A : Au} (k : Nat) (y : Tr) : ∀ (pl : List Nat) (t u x : Tr), t.Wf A.ar → u.Wf A.ar → part t pl = some x → part u pl = some y → along t u pl (k + 1) = true → (pl = [] → PairAt A k (state A t, state A u)) →
    Met A (PairAt A k) (state A t, state A u, state A (put t pl y))
  | [], t, u, x, ht, hu, hx, hy, _, h0 => by
    have e : u = y := by cases u <;> (simp only [part] at hy; exact Option.some.inj hy)
    have e2 : put t [] y = y := by cases t <;> rfl
    rw [e2, ← e]
    exact .base (h0 rfl)
  | i :: r, t, u, x, ht, hu, hx, hy, ha, _ => by
    cases hc : t.kids[i]? with
    | none => cases t <;> simp [part, hc] at hx
    | some c =>
      cases hd : u.kids[i]? with
      | none => cases u <;> simp [part, hd] at hy
      | some d =>
        have hx' : part c r = some x := by cases t <;> simpa only [part, hc] using hx
        have hy' : part d r = some y := by cases u <;> simpa only [part, hd] using hy
        obtain ⟨hs, ha'⟩ := along_cons hc hd ha
        match t, u, ht, hu, hc, hd, hs with
        | .n0 s, _, _, _, hc, _, _ => simp [Tr.kids] at hc
        | .n1 s t1, .n1 s' u1, ht, hu, hc, hd, hs =>
          have i0 : i = 0 := by
            cases i with
            | zero => rfl
            | succ i => simp [Tr.kids] at hc
          subst i0
          have e1 : t1 = c := by simpa [Tr.kids] using hc
          have e2 : u1 = d := by simpa [Tr.kids] using hd
          subst e1 e2
          have hs := Bool.and_eq_true_iff.mp hs
          have e : s = s' := eq_of_beq hs.1
          subst e
          exact .up1 ht.1 (graft_met k y r t1 u1 x ht.2 hu.2 hx' hy' ha' fun _ => same_pair k t1 u1 ht.2 hu.2 hs.2)
        | .n2 s t1 t2, .n2 s' u1 u2, ht, hu, hc, hd, hs =>
          have hs := Bool.and_eq_true_iff.mp hs
          have hs2 := Bool.and_eq_true_iff.mp hs.2
          have e : s = s' := eq_of_beq hs.1
          subst e
          have p1 := same_pair k t1 u1 ht.2.1 hu.2.1 hs2.1
          have p2 := same_pair k t2 u2 ht.2.2 hu.2.2 hs2.2
          match i, hc, hd with
          | 0, hc, hd =>
            have e1 : t1 = c := by simpa [Tr.kids] using hc
            have e2 : u1 = d := by simpa [Tr.kids] using hd
            subst e1 e2
            exact .upl ht.1 (graft_met k y r t1 u1 x ht.2.1 hu.2.1 hx' hy' ha' fun _ => p1) p2
          | 1, hc, hd =>
            have e1 : t2 = c := by simpa [Tr.kids] using hc
            have e2 : u2 = d := by simpa [Tr.kids] using hd
            subst e1 e2
            exact .upr ht.1 (graft_met k y r t2 u2 x ht.2.2 hu.2.2 hx' hy' ha' fun _ => p2) p1
          | i + 2, hc, _ => simp [Tr.kids] at hc
        | .n1 _ _, .n0 _, _, _, _, _, hs => simp [same] at hs
        | .n1 _ _, .n2 _ _ _, _, _, _, _, hs => simp [same] at hs
        | .n2 _ _ _, .n0 _, _, _, _, _, hs => simp [same] at hs
        | .n2 _ _ _, .n1 _ _, _, _, _, _, hs => simp [same] at hs
/-- what is closed has no counterexample -/
theorem closed_graft {A : Au} {k : Nat} (c : Closed A (PairAt A k)) {pl : List Nat} {t u x y : Tr} (ht : t.Wf A.ar) (hu : u.Wf A.ar) (gt : A.isGood (state A t) = true) (gu : A.isGood (state A u) = true)
    (hx : part t pl = some x) (hy : part u pl = some y) (ha : along t u pl (k + 1) = true) : A.isGood (state A (put t pl y)) = true := by
  by_cases h0 : pl = []
  · subst h0
    have e : u = y := by cases u <;> (simp only [part] at hy; exact Option.some.inj hy)
    have e2 : put t [] y = y := by cases t <;> rfl
    rw [e2, ← e]; exact gu
  · have m := c _ (graft_met k y pl t u x ht hu hx hy ha fun e => absurd e h0)
    unfold Bad at m
    simp only [gt, gu, Bool.true_and] at m
    simpa using m
end Ma

-- Mb
/-! Mb: lists that stand for sets: keys put in, what a symbol makes, where triples climb. -/
namespace Ma
theorem nodup_lt : ∀ (N : Nat) (l : List Nat), l.Nodup → (∀ x ∈ l, x < N) → l.length ≤ N
  | 0, [], _, _ => Nat.le_refl _
  | 0, x :: _, _, h => absurd (h x (by simp)) (by omega)
  | N + 1, l, nd, h => by
    have h1 := nodup_lt N (l.erase N) (nd.erase N) fun x hx => by
      have := nd.mem_erase_iff.mp hx
      have := h x this.2
      omega
    have h2 := List.length_erase (a := N) (l := l)
    split at h2 <;> omega
theorem nodup_code {α : Type} (f : α → Nat) (N : Nat) {l : List α} (nd : l.Nodup) (hf : ∀ x ∈ l, f x < N) (inj : ∀ x ∈ l, ∀ y ∈ l, f x = f y → x = y) : l.length ≤ N := by
  have nd2 : (l.map f).Nodup := by
    rw [List.nodup_iff_pairwise_ne, List.pairwise_map]
    exact (List.Pairwise.imp_of_mem (fun {x y} hx hy hne e => hne (inj x hx y hy e)) nd)
  have := nodup_lt N _ nd2 fun x hx => by
    obtain ⟨y, hy, rfl⟩ := List.mem_map.mp hx
    exact hf y hy
  rwa [List.length_map] at this
/-- put in a list that stands for a set -/
def putS {α : Type} [DecidableEq α] (ks : List α) (k : α) : List α := if k ∈ ks then ks else ks ++ [k]
section
variable {α : Type} [DecidableEq α] {ks : List α} {k x : α}
theorem mem_putS : x ∈ putS ks k ↔ x ∈ ks ∨ x = k := by
  unfold putS
  split
  · constructor
    · exact .inl
    · rintro (h | rfl) <;> assumption
  · simp
theorem putS_nodup (h : ks.Nodup) : (putS ks k).Nodup := by
  unfold putS
  split
  · exact h
  · rename_i hn
    rw [List.nodup_append]
    exact ⟨h, by simp, fun a ha b hb => by simp at hb; subst hb; exact fun e => hn (e ▸ ha)⟩
theorem putS_pre : ∃ ext, putS ks k = ks ++ ext := by
  unfold putS
  split
  · exact ⟨[], by simp⟩
  · exact ⟨[k], rfl⟩
theorem putS_len : (putS ks k).length ≤ ks.length + 1 := by
  unfold putS
  split <;> simp
end
abbrev P2 := Nat × Nat
abbrev P3 := Nat × Nat × Nat
def lt4P (p : P2) : Prop := p.1 < 4 ∧ p.2 < 4
def lt4T (t : P3) : Prop := t.1 < 4 ∧ t.2.1 < 4 ∧ t.2.2 < 4
theorem nodup_P {l : List P2} (nd : l.Nodup) (h : ∀ p ∈ l, lt4P p) : l.length ≤ 16 :=
  nodup_code (fun p => 4 * p.1 + p.2) 16 nd (fun p hp => by have := h p hp; unfold lt4P at this; omega) fun p hp q hq e => by
    have h1 := h p hp
    have h2 := h q hq
    unfold lt4P at h1 h2
    have e : 4 * p.1 + p.2 = 4 * q.1 + q.2 := e
    exact Prod.ext (by omega) (by omega)
theorem nodup_T {l : List P3} (nd : l.Nodup) (h : ∀ p ∈ l, lt4T p) : l.length ≤ 64 :=
  nodup_code (fun p => 16 * p.1 + (4 * p.2.1 + p.2.2)) 64 nd (fun p hp => by have := h p hp; unfold lt4T at this; omega) fun p hp q hq e => by
    have h1 := h p hp
    have h2 := h q hq
    unfold lt4T at h1 h2
    have e : 16 * p.1 + (4 * p.2.1 + p.2.2) = 16 * q.1 + (4 * q.2.1 + q.2.2) := e
    exact Prod.ext (by omega) (Prod.ext (by omega) (by omega))
/-- ks stands for the set of D -/
structure Ok {α : Type} (ks D : List α) : Prop where
  nd : ks.Nodup
  mem : ∀ p, p ∈ ks ↔ p ∈ D
theorem Ok.put {α : Type} [DecidableEq α] {ks D : List α} (o : Ok ks D) (p : α) : Ok (putS ks p) (D ++ [p]) :=
  ⟨putS_nodup o.nd, fun q => by rw [mem_putS, o.mem]; simp⟩
/-- what a symbol of an arity makes of a layer -/
def madeSym (A : Au) (L : List P2) (sym : Nat) : Nat → List P2
  | 0 => [(A.step sym [], A.step sym [])]
  | 1 => L.map fun p => (A.step sym [p.1], A.step sym [p.2])
  | 2 => L.flatMap fun p => L.map fun q => (A.step sym [p.1, q.1], A.step sym [p.2, q.2])
  | _ => []
/-- all that stands at the first places of ar -/
def upTo {β : Type} (A : Au) (f : Nat → Nat → List β) (i : Nat) : List β := (List.range i).flatMap fun s => f s (A.ar.getD s 3)
theorem upTo_zero {β : Type} {A : Au} {f : Nat → Nat → List β} : upTo A f 0 = [] := rfl
theorem upTo_succ {β : Type} {A : Au} {f : Nat → Nat → List β} {i a : Nat} (h : A.ar[i]? = some a) : upTo A f (i + 1) = upTo A f i ++ f i a := by
  unfold upTo
  rw [List.range_succ, List.flatMap_append, List.flatMap_singleton, getD_of h]
theorem mem_upTo {β : Type} {A : Au} {f : Nat → Nat → List β} {x : β} : x ∈ upTo A f A.ar.length ↔ ∃ s a, A.ar[s]? = some a ∧ x ∈ f s a := by
  unfold upTo
  rw [List.mem_flatMap]
  constructor
  · rintro ⟨s, hs, h⟩
    have hl : s < A.ar.length := by simpa using hs
    exact ⟨s, A.ar[s], List.getElem?_eq_getElem hl, by rwa [getD_of (List.getElem?_eq_getElem hl)] at h⟩
  · rintro ⟨s, a, hs, h⟩
    exact ⟨s, by simpa using (List.getElem?_eq_some_iff.mp hs).1, by rw [getD_of hs]; exact h⟩
theorem upTo_len {β : Type} {A : Au} (w : A.Wf) {f : Nat → Nat → List β} (b : Nat) (h : ∀ s a, A.ar[s]? = some a → (f s a).length ≤ b) : ∀ i, i ≤ A.ar.length → (upTo A f i).length ≤ i * b
  | 0, _ => by simp [upTo_zero]
  | i + 1, hi => by
    have e := List.getElem?_eq_getElem hi
    rw [upTo_succ e, List.length_append, Nat.succ_mul]
    have := upTo_len w b h i (by omega)
    have := h i _ e
    omega
theorem made_iff {A : Au} (w : A.Wf) {L : List P2} {p : P2} : p ∈ upTo A (madeSym A L) A.ar.length ↔ Made A (· ∈ L) p := by
  rw [mem_upTo]
  constructor
  · rintro ⟨s, a, hs, h⟩
    have a2 := w.ar2 hs
    match a, a2, h with
    | 0, _, h => exact ⟨s, 0, [], hs, rfl, by simp, by simpa [madeSym] using h⟩
    | 1, _, h =>
      obtain ⟨q, hq, e⟩ := List.mem_map.mp h
      exact ⟨s, 1, [q], hs, rfl, by simpa using hq, e.symm⟩
    | 2, _, h =>
      obtain ⟨q, hq, h⟩ := List.mem_flatMap.mp h
      obtain ⟨r, hr, e⟩ := List.mem_map.mp h
      exact ⟨s, 2, [q, r], hs, rfl, by simpa using ⟨hq, hr⟩, e.symm⟩
  · rintro ⟨s, a, qs, hs, hl, hq, rfl⟩
    refine ⟨s, a, hs, ?_⟩
    have a2 := w.ar2 hs
    match a, a2, qs, hl, hq with
    | 0, _, [], _, _ => simp [madeSym]
    | 1, _, [q], _, hq => exact List.mem_map.mpr ⟨q, hq q (by simp), rfl⟩
    | 2, _, [q, r], _, hq => exact List.mem_flatMap.mpr ⟨q, hq q (by simp), List.mem_map.mpr ⟨r, hq r (by simp), rfl⟩⟩
theorem made_lt {A : Au} (w : A.Wf) {L : List P2} (hL : ∀ p ∈ L, p.1 < A.n ∧ p.2 < A.n) {p : P2} {s a : Nat} (hs : A.ar[s]? = some a) (h : p ∈ madeSym A L s a) : p.1 < A.n ∧ p.2 < A.n := by
  have a2 := w.ar2 hs
  match a, a2, hs, h with
  | 0, _, hs, h =>
    have e : p = (A.step s [], A.step s []) := by simpa [madeSym] using h
    subst e
    exact ⟨w.lt hs rfl (by simp), w.lt hs rfl (by simp)⟩
  | 1, _, hs, h =>
    obtain ⟨q, hq, rfl⟩ := List.mem_map.mp h
    exact ⟨w.lt hs rfl (by simpa using (hL q hq).1), w.lt hs rfl (by simpa using (hL q hq).2)⟩
  | 2, _, hs, h =>
    obtain ⟨q, hq, h⟩ := List.mem_flatMap.mp h
    obtain ⟨r, hr, rfl⟩ := List.mem_map.mp h
    exact ⟨w.lt hs rfl (by simpa using ⟨(hL q hq).1, (hL r hr).1⟩), w.lt hs rfl (by simpa using ⟨(hL q hq).2, (hL r hr).2⟩)⟩
/-- a layer -/
structure LayerOk (A : Au) (J : Nat) (L : List P2) : Prop where
  nd : L.Nodup
  mem : ∀ p, p ∈ L ↔ PairAt A J p
theorem LayerOk.lt {A : Au} (w : A.Wf) {J : Nat} {L : List P2} (h : LayerOk A J L) : ∀ p ∈ L, p.1 < A.n ∧ p.2 < A.n := fun p hp => by
  have := ((h.mem p).mp hp).reached
  exact ⟨this.1.lt w, this.2.lt w⟩
theorem LayerOk.len {A : Au} (w : A.Wf) {J : Nat} {L : List P2} (h : LayerOk A J L) : L.length ≤ 16 := nodup_P h.nd fun p hp => by
  have := h.lt w p hp
  have := w.n4
  exact ⟨by omega, by omega⟩
theorem LayerOk.next {A : Au} {J : Nat} {L M : List P2} (h : LayerOk A J L) (nd : M.Nodup) (hm : ∀ p, p ∈ M ↔ Made A (· ∈ L) p) : LayerOk A (J + 1) M :=
  ⟨nd, fun p => (hm p).trans ⟨Made.mono fun q => (h.mem q).mp, Made.mono fun q => (h.mem q).mpr⟩⟩
/-- rows of items -/
def rowsL (ks : List Nat) : Nat → List (List Nat)
  | 0 => [[]]
  | a + 1 => (rowsL ks a).flatMap fun r => ks.map fun x => r ++ [x]
theorem mem_rowsL {ks : List Nat} : ∀ {a : Nat} {r : List Nat}, r ∈ rowsL ks a ↔ r.length = a ∧ ∀ x ∈ r, x ∈ ks
  | 0, r => by
    simp only [rowsL, List.mem_singleton]
    constructor
    · rintro rfl; simp
    · rintro ⟨h, _⟩; exact List.eq_nil_of_length_eq_zero h
  | a + 1, r => by
    simp only [rowsL, List.mem_flatMap, List.mem_map]
    constructor
    · rintro ⟨q, hq, x, hx, rfl⟩
      obtain ⟨h1, h2⟩ := mem_rowsL.mp hq
      refine ⟨by simp [h1], fun y hy => ?_⟩
      rcases List.mem_append.mp hy with hy | hy
      · exact h2 y hy
      · simp at hy; subst hy; exact hx
    · rintro ⟨h1, h2⟩
      have hne : r ≠ [] := fun e => by rw [e] at h1; simp at h1
      refine ⟨r.dropLast, mem_rowsL.mpr ⟨by simp [h1], fun x hx => h2 x ((List.dropLast_sublist r).subset hx)⟩, r.getLast hne, h2 _ (List.getLast_mem hne), List.dropLast_concat_getLast hne⟩
theorem flat_const {α β : Type} {f : α → List β} {n : Nat} : ∀ {l : List α}, (∀ x ∈ l, (f x).length = n) → (l.flatMap f).length = l.length * n
  | [], _ => by simp
  | x :: r, h => by
    rw [List.flatMap_cons, List.length_append, h x (by simp), flat_const fun y hy => h y (by simp [hy]), List.length_cons, Nat.succ_mul]
    omega
theorem rowsL_len {ks : List Nat} (h : ks.length ≤ 4) : ∀ a, a ≤ 2 → (rowsL ks a).length ≤ 16
  | 0, _ => by simp [rowsL]
  | 1, _ => by simp [rowsL]; omega
  | 2, _ => by
    have e : (rowsL ks 2).length = ks.length * ks.length := by
      show ((rowsL ks 1).flatMap _).length = _
      rw [flat_const (n := ks.length) fun x _ => by simp]
      simp [rowsL]
    rw [e]
    exact Nat.mul_le_mul h h
  | _ + 3, h => by omega
theorem reached_closed {A : Au} {kn : List Nat} (h : ∀ sym row, A.ar[sym]? = some row.length → (∀ s ∈ row, s ∈ kn) → A.step sym row ∈ kn) : ∀ {s : Nat}, Reached A s → s ∈ kn
  | _, .mk sym a ss h1 h2 h3 => h sym ss (by rw [h2]; exact h1) fun s m => reached_closed h (h3 s m)
end Ma

-- Mc
/-! Mc: climbing triples. -/
namespace Ma
section
variable {A : Au}
def c1 (A : Au) (s : Nat) (t : P3) : P3 := (A.step s [t.1], A.step s [t.2.1], A.step s [t.2.2])
def cl (A : Au) (s : Nat) (t : P3) (p : P2) : P3 := (A.step s [t.1, p.1], A.step s [t.2.1, p.2], A.step s [t.2.2, p.1])
def cr (A : Au) (s : Nat) (t : P3) (p : P2) : P3 := (A.step s [p.1, t.1], A.step s [p.2, t.2.1], A.step s [p.1, t.2.2])
/-- where a triple climbs by a symbol of an arity -/
def climbT (A : Au) (L : List P2) (t : P3) (s : Nat) : Nat → List P3
  | 1 => [c1 A s t]
  | 2 => L.flatMap fun p => [cl A s t p, cr A s t p]
  | _ => []
def climbs (A : Au) (L : List P2) (t : P3) : List P3 := upTo A (climbT A L t) A.ar.length
def Up (A : Au) (L : List P2) (t u : P3) : Prop := (∃ s, A.ar[s]? = some 1 ∧ u = c1 A s t) ∨ ∃ s p, A.ar[s]? = some 2 ∧ p ∈ L ∧ (u = cl A s t p ∨ u = cr A s t p)
theorem climbs_iff (w : A.Wf) {L : List P2} {t u : P3} : u ∈ climbs A L t ↔ Up A L t u := by
  unfold climbs
  rw [mem_upTo]
  constructor
  · rintro ⟨s, a, hs, h⟩
    have a2 := w.ar2 hs
    match a, a2, h with
    | 0, _, h => simp [climbT] at h
    | 1, _, h => exact .inl ⟨s, hs, by simpa [climbT] using h⟩
    | 2, _, h =>
      obtain ⟨p, hp, h⟩ := List.mem_flatMap.mp h
      exact .inr ⟨s, p, hs, hp, by simpa using h⟩
  · rintro (⟨s, hs, rfl⟩ | ⟨s, p, hs, hp, h⟩)
    · exact ⟨s, 1, hs, by simp [climbT]⟩
    · exact ⟨s, 2, hs, List.mem_flatMap.mpr ⟨p, hp, by simpa using h⟩⟩
abbrev InL (L : List P2) : P2 → Prop := fun p => p ∈ L
theorem Met.climb {L : List P2} {t u : P3} (m : Met A (InL L) t) (h : Up A L t u) : Met A (InL L) u := by
  rcases h with ⟨s, hs, rfl⟩ | ⟨s, p, hs, hp, rfl | rfl⟩
  · exact .up1 hs m
  · exact .upl hs m hp
  · exact .upr hs m hp
/-- what holds the lowest triples and is kept by climbing holds all -/
theorem met_all {L : List P2} {ks : List P3} (h0 : ∀ p ∈ L, (p.1, p.2, p.2) ∈ ks) (h : ∀ t ∈ ks, ∀ u, Up A L t u → u ∈ ks) {t : P3} (m : Met A (InL L) t) : t ∈ ks := by
  induction m with
  | base p => exact h0 _ p
  | up1 a _ ih => exact h _ ih _ (.inl ⟨_, a, rfl⟩)
  | upl a _ p ih => exact h _ ih _ (.inr ⟨_, _, a, p, .inl rfl⟩)
  | upr a _ p ih => exact h _ ih _ (.inr ⟨_, _, a, p, .inr rfl⟩)
theorem Met.lt4 (w : A.Wf) {L : List P2} (hL : ∀ p ∈ L, p.1 < A.n ∧ p.2 < A.n) {t : P3} (m : Met A (InL L) t) : (t.1 < A.n ∧ t.2.1 < A.n ∧ t.2.2 < A.n) ∧ lt4T t := by
  have := Met.lt w (L := InL L) (fun p h => hL p h) m
  have := w.n4
  refine ⟨by assumption, ?_⟩
  unfold lt4T
  omega
def base0 (L : List P2) : List P3 := L.foldl (fun ks p => putS ks (p.1, p.2, p.2)) []
theorem base0_key : ∀ (L : List P2) (acc : List P3), acc.Nodup → ((L.foldl (fun ks p => putS ks (p.1, p.2, p.2)) acc).Nodup ∧ ∀ t, t ∈ (L.foldl (fun ks p => putS ks (p.1, p.2, p.2)) acc) ↔ t ∈ acc ∨ ∃ p ∈ L, t = (p.1, p.2, p.2))
  | [], acc, nd => ⟨nd, fun t => by simp⟩
  | p :: r, acc, nd => by
    obtain ⟨h1, h2⟩ := base0_key r (putS acc (p.1, p.2, p.2)) (putS_nodup nd)
    refine ⟨h1, fun t => ?_⟩
    rw [List.foldl_cons, h2, mem_putS]
    simp only [List.mem_cons, exists_eq_or_imp, or_assoc]
theorem base0_nodup (L : List P2) : (base0 L).Nodup := (base0_key L [] (by simp)).1
theorem mem_base0 {L : List P2} {t : P3} : t ∈ base0 L ↔ ∃ p ∈ L, t = (p.1, p.2, p.2) := by
  have := (base0_key L [] (by simp)).2 t
  simpa [base0] using this
/-- is it closed, as a truth value -/
noncomputable def closedB (A : Au) (L : P2 → Prop) : Bool := by classical exact decide (Closed A L)
theorem closedB_iff {L : P2 → Prop} : closedB A L = true ↔ Closed A L := by unfold closedB; classical simp
theorem closedB_congr {L M : P2 → Prop} (h : ∀ p, L p ↔ M p) : closedB A L = closedB A M := by
  rw [Bool.eq_iff_iff, closedB_iff, closedB_iff]
  exact Closed.congr h
theorem bad_any {L : List P2} {Ts : List P3} (h : ∀ t, t ∈ Ts ↔ Met A (InL L) t) : (!(Ts.map (Bad A)).any id) = closedB A (InL L) := by
  rw [Bool.eq_iff_iff, closedB_iff]
  unfold Closed
  simp only [Bool.not_eq_true', List.any_map, List.any_eq_false, Function.comp_apply, id_eq, Bool.not_eq_true]
  exact ⟨fun q t m => q t ((h t).mpr m), fun q t m => q t ((h t).mp m)⟩
end
end Ma

-- Md
/-! Md: the trees of a size. -/
namespace Ma
def symT (sizes : List (List Tr)) (size s : Nat) : Nat → List Tr
  | 0 => if size = 1 then [.n0 s] else []
  | 1 => (sizes.getD (size - 1) []).map (.n1 s)
  | 2 => (List.range (size - 2)).flatMap fun j => (sizes.getD (j + 1) []).flatMap fun c => (sizes.getD (size - 1 - (j + 1)) []).map fun o => .n2 s c o
  | _ => []
def upA {β : Type} (ar : List Nat) (f : Nat → Nat → List β) (i : Nat) : List β := (List.range i).flatMap fun s => f s (ar.getD s 3)
def sizesT (ar : List Nat) : Nat → List (List Tr)
  | 0 => [[]]
  | k + 1 => sizesT ar k ++ [upA ar (symT (sizesT ar k) (k + 1)) ar.length]
def mostT (ar : List Nat) : Nat := if ar.length = 4 then 4 else 5
set_option maxHeartbeats 4000000 in
theorem sizesT_ok : ∀ ar ∈ arList, ∀ row ∈ sizesT ar (mostT ar), row.length ≤ 400 ∧ ∀ t ∈ row, t.wfB ar = true ∧ t.height ≤ 5 := by decide +kernel
theorem sizesT_len (ar : List Nat) : ∀ k, (sizesT ar k).length = k + 1
  | 0 => rfl
  | k + 1 => by rw [sizesT, List.length_append, sizesT_len ar k]; rfl
theorem sizesT_pre (ar : List Nat) {k : Nat} : ∀ {m : Nat}, k ≤ m → ∀ row ∈ sizesT ar k, row ∈ sizesT ar m := by
  intro m h
  induction h with
  | refl => exact fun _ h => h
  | step _ ih => exact fun row hr => List.mem_append_left _ (ih row hr)
theorem sizesT_row {ar : List Nat} (h : ar ∈ arList) {k : Nat} (hk : k ≤ mostT ar) {row : List Tr} (hr : row ∈ sizesT ar k) : row.length ≤ 400 ∧ ∀ t ∈ row, t.Wf ar ∧ t.height ≤ 5 := by
  obtain ⟨h1, h2⟩ := sizesT_ok ar h row (sizesT_pre ar hk row hr)
  exact ⟨h1, fun t ht => ⟨Tr.wf_of (h2 t ht).1, (h2 t ht).2⟩⟩
theorem range_len {β : Type} {f : Nat → List β} {n : Nat} : ∀ {m : Nat}, m ≤ n → ((List.range m).flatMap f).length ≤ ((List.range n).flatMap f).length := by
  induction n with
  | zero => intro m h; have : m = 0 := by omega
            subst this; exact Nat.le_refl _
  | succ n ih =>
    intro m h
    by_cases e : m = n + 1
    · subst e; exact Nat.le_refl _
    · rw [List.range_succ, List.flatMap_append, List.length_append]
      exact Nat.le_trans (ih (by omega)) (Nat.le_add_right _ _)
theorem take_len {α β : Type} {f : α → List β} : ∀ (l : List α) (m : Nat), ((l.take m).flatMap f).length ≤ (l.flatMap f).length
  | [], m => by simp
  | x :: l, 0 => by simp
  | x :: l, m + 1 => by
    rw [List.take_succ_cons, List.flatMap_cons, List.flatMap_cons, List.length_append, List.length_append]
    exact Nat.add_le_add_left (take_len l m) _
theorem take_next {α : Type} {l : List α} {i : Nat} {x : α} (h : l[i]? = some x) : l.take (i + 1) = l.take i ++ [x] := by rw [List.take_add_one, h]; rfl
theorem upA_succ {β : Type} {ar : List Nat} {f : Nat → Nat → List β} {i a : Nat} (h : ar[i]? = some a) : upA ar f (i + 1) = upA ar f i ++ f i a := by
  unfold upA
  rw [List.range_succ, List.flatMap_append, List.flatMap_singleton, getD_of h]
end Ma

-- Me
/-! Me: places in trees. -/
namespace Ma
theorem kids_ok {ar : List Nat} {t : Tr} (w : t.Wf ar) : ar[t.sym]? = some t.kids.length ∧ ∀ c ∈ t.kids, c.Wf ar ∧ c.height < t.height := by
  cases t with
  | n0 s => exact ⟨w, by simp [Tr.kids]⟩
  | n1 s t => exact ⟨w.1, by simp only [Tr.kids, List.mem_singleton]; rintro c rfl; exact ⟨w.2, by simp only [Tr.height]; omega⟩⟩
  | n2 s t u =>
    refine ⟨w.1, fun c hc => ?_⟩
    simp only [Tr.kids, List.mem_cons, List.not_mem_nil, or_false] at hc
    simp only [Tr.height]
    rcases hc with rfl | rfl
    · exact ⟨w.2.1, by omega⟩
    · exact ⟨w.2.2, by omega⟩
theorem state_lt {A : Au} (w : A.Wf) {t : Tr} (ht : t.Wf A.ar) : state A t < A.n := (state_reached ht).lt w
theorem height_pos (t : Tr) : 1 ≤ t.height := by cases t <;> simp only [Tr.height] <;> omega
def partO (o : Option Tr) (i : Nat) : Option Tr := o.bind fun t => t.kids[i]?
theorem part_cons (t : Tr) (i : Nat) (r : List Nat) : part t (i :: r) = (t.kids[i]?).bind fun c => part c r := by
  cases t <;> simp only [part] <;> (cases _ : (Tr.kids _)[i]? <;> simp_all)
theorem fold_none : ∀ pl : List Nat, pl.foldl partO none = none
  | [] => rfl
  | _ :: r => fold_none r
theorem part_fold : ∀ (pl : List Nat) (t : Tr), part t pl = pl.foldl partO (some t)
  | [], t => by cases t <;> rfl
  | i :: r, t => by
    rw [part_cons, List.foldl_cons]
    show _ = r.foldl partO (t.kids[i]?)
    cases t.kids[i]? with
    | none => exact (fold_none r).symm
    | some c => exact part_fold r c
theorem part_next {t : Tr} {pl : List Nat} {i s : Nat} (h : pl[i]? = some s) : part t (pl.take (i + 1)) = partO (part t (pl.take i)) s := by
  rw [part_fold, part_fold, Ma.take_next h, List.foldl_append]
  rfl
theorem part_take {t x : Tr} {pl : List Nat} (h : part t pl = some x) (i : Nat) : ∃ y, part t (pl.take i) = some y := by
  rw [part_fold, ← List.take_append_drop i pl, List.foldl_append] at h
  rw [part_fold]
  cases e : (pl.take i).foldl partO (some t) with
  | none => rw [e, fold_none] at h; cases h
  | some y => exact ⟨y, rfl⟩
/-- all places -/
def placesT : Tr → List (List Nat)
  | .n0 _ => [[]]
  | .n1 _ t => [] :: (placesT t).map (0 :: ·)
  | .n2 _ t u => [] :: ((placesT t).map (0 :: ·) ++ (placesT u).map (1 :: ·))
def placeAt (t : Tr) (j : Nat) : List (List Nat) := match t.kids[j]? with
  | some c => (placesT c).map (j :: ·)
  | none => []
theorem places_eq (t : Tr) : placesT t = [] :: (List.range t.kids.length).flatMap (placeAt t) := by
  cases t with
  | n0 s => rfl
  | n1 s t => simp [placesT, placeAt, Tr.kids, List.range_succ]
  | n2 s t u => simp [placesT, placeAt, Tr.kids, List.range_succ]
theorem places_len : ∀ t : Tr, (placesT t).length < 2 ^ t.height
  | .n0 _ => by simp [placesT, Tr.height]
  | .n1 _ t => by
    have h1 := places_len t
    simp only [placesT, Tr.height, List.length_cons, List.length_map, Nat.pow_succ]
    omega
  | .n2 _ t u => by
    have h1 := places_len t
    have h2 := places_len u
    have h3 : 2 ^ t.height ≤ 2 ^ (max t.height u.height) := Nat.pow_le_pow_right (by decide) (Nat.le_max_left _ _)
    have h4 : 2 ^ u.height ≤ 2 ^ (max t.height u.height) := Nat.pow_le_pow_right (by decide) (Nat.le_max_right _ _)
    simp only [placesT, Tr.height, List.length_cons, List.length_append, List.length_map, Nat.pow_succ]
    omega
theorem place_len : ∀ (t : Tr) (pl : List Nat), pl ∈ placesT t → pl.length < t.height
  | .n0 _, pl, h => by simp [placesT] at h; subst h; simp [Tr.height]
  | .n1 _ t, pl, h => by
    simp only [placesT, List.mem_cons, List.mem_map] at h
    rcases h with rfl | ⟨q, hq, rfl⟩
    · simp [Tr.height]
    · have := place_len t q hq
      simp only [List.length_cons, Tr.height]; omega
  | .n2 _ t u, pl, h => by
    simp only [placesT, List.mem_cons, List.mem_append, List.mem_map] at h
    rcases h with rfl | ⟨q, hq, rfl⟩ | ⟨q, hq, rfl⟩
    · simp [Tr.height]
    · have := place_len t q hq
      simp only [List.length_cons, Tr.height]; omega
    · have := place_len u q hq
      simp only [List.length_cons, Tr.height]; omega
theorem same_succ {ar : List Nat} {t u : Tr} (wt : t.Wf ar) (wu : u.Wf ar) (k : Nat) : same t u (k + 1) = (decide (t.sym = u.sym) && (List.range t.kids.length).all fun j => same (t.kids.getD j t) (u.kids.getD j u) k) ∧ (t.sym = u.sym → t.kids.length = u.kids.length) := by
  have hl : t.sym = u.sym → t.kids.length = u.kids.length := fun e => by
    have h1 := (kids_ok wt).1
    have h2 := (kids_ok wu).1
    rw [e, h2] at h1
    exact (Option.some.inj h1).symm
  refine ⟨?_, hl⟩
  by_cases e : t.sym = u.sym
  · have hh := hl e
    rw [decide_eq_true e, Bool.true_and]
    cases t <;> cases u <;> simp_all [Tr.kids, same, List.range_succ, Tr.sym]
  · rw [decide_eq_false e, Bool.false_and]
    cases t <;> cases u <;> simp_all [same, Tr.sym]
end Ma

-- Mf
/-! Mf: reached states by turns; what is met first in a list. -/
namespace Ma
/-! ### first places -/
def ddI (D : List P2) : List P2 := ((List.range D.length).filter fun k => !decide (D.getD k (0, 0) ∈ D.take k)).map fun k => D.getD k (0, 0)
theorem mem_take_of {D : List P2} {i j : Nat} (h : i < j) (hl : i < D.length) : D.getD i (0, 0) ∈ D.take j := by
  rw [getD_of (List.getElem?_eq_getElem hl)]
  exact List.mem_of_getElem? (i := i) (by rw [List.getElem?_take, if_pos h, List.getElem?_eq_getElem hl])
theorem ddI_nodup (D : List P2) : (ddI D).Nodup := by
  unfold ddI
  rw [List.nodup_iff_pairwise_ne, List.pairwise_map]
  have h1 : (List.range D.length).Pairwise (· < ·) := List.pairwise_lt_range
  have h2 := h1.filter fun k => !decide (D.getD k (0, 0) ∈ D.take k)
  refine List.Pairwise.imp_of_mem (fun {i j} hi hj hij e => ?_) h2
  obtain ⟨hi1, _⟩ := List.mem_filter.mp hi
  obtain ⟨_, hj2⟩ := List.mem_filter.mp hj
  have hm := mem_take_of (D := D) hij (by simpa using hi1)
  rw [e] at hm
  rw [decide_eq_true hm] at hj2
  cases hj2
theorem ddI_mem (D : List P2) : ∀ p, p ∈ ddI D ↔ p ∈ D := by
  have key : ∀ n, n ≤ D.length → ∀ p, p ∈ ((List.range n).filter fun k => !decide (D.getD k (0, 0) ∈ D.take k)).map (fun k => D.getD k (0, 0)) ↔ p ∈ D.take n := by
    intro n
    induction n with
    | zero => intro _ p; simp
    | succ n ih =>
      intro hn p
      have hx := List.getElem?_eq_getElem (show n < D.length by omega)
      rw [List.range_succ, List.filter_append, List.map_append, List.mem_append, ih (by omega), Ma.take_next hx, List.mem_append]
      by_cases hm : D.getD n (0, 0) ∈ D.take n
      · have e : ([n].filter fun k => !decide (D.getD k (0, 0) ∈ D.take k)) = [] := by
          rw [List.filter_cons, decide_eq_true hm]; rfl
        rw [e, List.map_nil]
        rw [getD_of hx] at hm
        constructor
        · rintro (h | h)
          · exact .inl h
          · exact absurd h (by simp)
        · rintro (h | h)
          · exact .inl h
          · simp at h; rw [h]; exact .inl hm
      · have e : ([n].filter fun k => !decide (D.getD k (0, 0) ∈ D.take k)) = [n] := by
          rw [List.filter_cons, decide_eq_false hm]; rfl
        rw [e, List.map_singleton, getD_of hx]
  intro p
  have := key D.length (Nat.le_refl _) p
  rwa [List.take_length] at this
theorem madeSym_len {A : Au} {L : List P2} (hL : L.length ≤ 16) {s : Nat} : ∀ a, (madeSym A L s a).length ≤ 256
  | 0 => by simp [madeSym]
  | 1 => by simp [madeSym]; omega
  | 2 => by
    have e : (madeSym A L s 2).length = L.length * L.length := flat_const fun _ _ => by simp
    rw [e]
    exact Nat.mul_le_mul hL hL
  | _ + 3 => by simp [madeSym]

/-! ### reached states, by turns -/
def stepSym (A : Au) (F : List Nat) (s : Nat) : Nat → List Nat
  | 0 => [A.step s []]
  | 1 => F.map fun x => A.step s [x]
  | 2 => F.flatMap fun x => F.map fun y => A.step s [x, y]
  | _ => []
def freshR (A : Au) (F : List Nat) : List Nat := upTo A (stepSym A F) A.ar.length
def stepR (A : Au) (F : List Nat) : List Nat := (List.range A.n).filter fun s => decide (s ∈ F) || decide (s ∈ freshR A F)
def Rk (A : Au) : Nat → List Nat
  | 0 => []
  | t + 1 => stepR A (Rk A t)
theorem stepSym_len {A : Au} {F : List Nat} (hF : F.length ≤ 4) {s : Nat} : ∀ a, (stepSym A F s a).length ≤ 16
  | 0 => by simp [stepSym]
  | 1 => by simp [stepSym]; omega
  | 2 => by
    have e : (stepSym A F s 2).length = F.length * F.length := flat_const fun _ _ => by simp
    rw [e]
    exact Nat.mul_le_mul hF hF
  | _ + 3 => by simp [stepSym]
theorem stepR_nodup (A : Au) (F : List Nat) : (stepR A F).Nodup := List.nodup_iff_pairwise_ne.mpr ((List.nodup_iff_pairwise_ne.mp List.nodup_range).filter _)
theorem stepR_len (A : Au) (F : List Nat) : (stepR A F).length ≤ A.n := by
  unfold stepR
  exact Nat.le_trans (List.length_filter_le _ _) (by simp)
theorem Rk_len (A : Au) : ∀ t, (Rk A t).length ≤ A.n
  | 0 => by simp [Rk]
  | _ + 1 => stepR_len A _
theorem fresh_iff {A : Au} (w : A.Wf) {F : List Nat} {x : Nat} : x ∈ freshR A F ↔ ∃ s row, A.ar[s]? = some row.length ∧ (∀ y ∈ row, y ∈ F) ∧ x = A.step s row := by
  unfold freshR
  rw [mem_upTo]
  constructor
  · rintro ⟨s, a, hs, h⟩
    have a2 := w.ar2 hs
    match a, a2, h with
    | 0, _, h => exact ⟨s, [], hs, by simp, by simpa [stepSym] using h⟩
    | 1, _, h =>
      obtain ⟨y, hy, e⟩ := List.mem_map.mp h
      exact ⟨s, [y], hs, by simpa using hy, e.symm⟩
    | 2, _, h =>
      obtain ⟨y, hy, h⟩ := List.mem_flatMap.mp h
      obtain ⟨z, hz, e⟩ := List.mem_map.mp h
      exact ⟨s, [y, z], hs, by simpa using ⟨hy, hz⟩, e.symm⟩
  · rintro ⟨s, row, hs, h, rfl⟩
    refine ⟨s, row.length, hs, ?_⟩
    have a2 := w.ar2 hs
    match row, a2, h with
    | [], _, _ => simp [stepSym]
    | [y], _, h => exact List.mem_map.mpr ⟨y, h y (by simp), rfl⟩
    | [y, z], _, h => exact List.mem_flatMap.mpr ⟨y, h y (by simp), List.mem_map.mpr ⟨z, h z (by simp), rfl⟩⟩
    | _ :: _ :: _ :: _, a2, _ => simp at a2
theorem Rk_reached {A : Au} (w : A.Wf) : ∀ t, ∀ s ∈ Rk A t, Reached A s
  | 0, s, h => by simp [Rk] at h
  | t + 1, s, h => by
    obtain ⟨_, h2⟩ := List.mem_filter.mp h
    rcases Bool.or_eq_true_iff.mp h2 with h2 | h2
    · exact Rk_reached w t s (of_decide_eq_true h2)
    · obtain ⟨sy, row, h3, h4, rfl⟩ := (fresh_iff w).mp (of_decide_eq_true h2)
      exact .mk sy row.length row h3 rfl fun y hy => Rk_reached w t y (h4 y hy)
theorem Rk_up {A : Au} (w : A.Wf) (t : Nat) : ∀ s ∈ Rk A t, s ∈ Rk A (t + 1) := fun s h =>
  List.mem_filter.mpr ⟨by simpa using (Rk_reached w t s h).lt w, by rw [decide_eq_true h]; rfl⟩
theorem filter_eq {p q : Nat → Bool} : ∀ {l : List Nat}, (∀ x ∈ l, p x = true → q x = true) → (l.filter q).length ≤ (l.filter p).length → l.filter p = l.filter q ∧ (l.filter p).length ≤ (l.filter q).length
  | [], _, _ => ⟨rfl, Nat.le_refl _⟩
  | x :: l, h, hl => by
    have mono : ∀ {l : List Nat}, (∀ x ∈ l, p x = true → q x = true) → (l.filter p).length ≤ (l.filter q).length := by
      intro l
      induction l with
      | nil => intro _; exact Nat.le_refl _
      | cons x l ih =>
        intro h
        have h1 := ih fun y hy => h y (by simp [hy])
        rw [List.filter_cons, List.filter_cons]
        by_cases hp : p x = true
        · rw [if_pos hp, if_pos (h x (by simp) hp)]; simp; exact h1
        · rw [if_neg hp]
          split
          · simp; omega
          · exact h1
    have hm := mono fun y hy => h y (List.mem_cons_of_mem x hy)
    rw [List.filter_cons, List.filter_cons] at hl ⊢
    by_cases hp : p x = true
    · have hq := h x (by simp) hp
      rw [if_pos hp, if_pos hq] at hl ⊢
      obtain ⟨e, _⟩ := filter_eq (fun y hy => h y (List.mem_cons_of_mem x hy)) (by simpa using hl)
      rw [e]
      exact ⟨rfl, Nat.le_refl _⟩
    · rw [if_neg hp] at hl ⊢
      by_cases hq : q x = true
      · rw [if_pos hq] at hl
        simp at hl
        omega
      · rw [if_neg hq] at hl ⊢
        obtain ⟨e, _⟩ := filter_eq (fun y hy => h y (List.mem_cons_of_mem x hy)) hl
        rw [e]
        exact ⟨rfl, Nat.le_refl _⟩
theorem Rk_range {A : Au} (w : A.Wf) (t : Nat) : Rk A t = (List.range A.n).filter fun s => decide (s ∈ Rk A t) := by
  cases t with
  | zero => simp [Rk]
  | succ t =>
    show stepR A (Rk A t) = _
    unfold stepR
    refine List.filter_congr fun s hs => ?_
    rw [Bool.eq_iff_iff]
    simp only [decide_eq_true_eq]
    constructor
    · exact fun h => List.mem_filter.mpr ⟨hs, h⟩
    · exact fun h => (List.mem_filter.mp h).2
theorem Rk_grow {A : Au} (w : A.Wf) (t : Nat) (h : (Rk A (t + 1)).length ≤ (Rk A t).length) : Rk A (t + 1) = Rk A t := by
  rw [Rk_range w t, Rk_range w (t + 1)] at h
  have := (filter_eq (l := List.range A.n) (p := fun s => decide (s ∈ Rk A t)) (q := fun s => decide (s ∈ Rk A (t + 1))) (fun s _ hp => decide_eq_true (Rk_up w t s (of_decide_eq_true hp))) h).1
  rw [Rk_range w t, Rk_range w (t + 1)]
  exact this.symm
theorem Rk_stop {A : Au} (w : A.Wf) : ∀ t, t ≤ (Rk A t).length ∨ Rk A (t + 1) = Rk A t
  | 0 => .inl (Nat.zero_le _)
  | t + 1 => by
    rcases Rk_stop w t with h | h
    · by_cases hg : (Rk A (t + 1)).length ≤ (Rk A t).length
      · right
        have e := Rk_grow w t hg
        show stepR A (Rk A (t + 1)) = stepR A (Rk A t)
        rw [e]
      · left; omega
    · right
      show stepR A (Rk A (t + 1)) = stepR A (Rk A t)
      rw [h]
theorem Rk_all {A : Au} (w : A.Wf) : (Rk A (A.n + 1)).Nodup ∧ ∀ s, s ∈ Rk A (A.n + 1) ↔ Reached A s := by
  refine ⟨stepR_nodup A _, fun s => ⟨Rk_reached w _ s, fun h => ?_⟩⟩
  have hst : Rk A (A.n + 2) = Rk A (A.n + 1) := by
    rcases Rk_stop w (A.n + 1) with h | h
    · have := Rk_len A (A.n + 1); omega
    · exact h
  refine reached_closed (fun sym row h1 h2 => ?_) h
  rw [← hst]
  refine List.mem_filter.mpr ⟨?_, ?_⟩
  · have : A.step sym row < A.n := w.lt h1 rfl fun y hy => (Rk_reached w _ y (h2 y hy)).lt w
    simpa using this
  · rw [decide_eq_true ((fresh_iff w).mpr ⟨sym, row, h1, h2, rfl⟩), Bool.or_true]
end Ma

-- W0

/-! W0: the text by places. -/
namespace PW
open PySem PySem.Spec PyProof.Rows L2 PL
def topS (i : Nat) : Stmt := PySem.Challenge.pw_rootfirst_k37_whole_closed_under_exchang.main.body.getD i (.Pass ⟨0, 0, 0, 0⟩)
abbrev s_is_number : Stmt := topS 6
abbrev s_is_arities : Stmt := topS 7
abbrev s_is_row : Stmt := topS 10
abbrev s_is_automaton : Stmt := topS 11
abbrev s_next_state : Stmt := topS 12
abbrev s_rows_of : Stmt := topS 13
abbrev s_reachable : Stmt := topS 14
abbrev s_is_whole : Stmt := topS 17
abbrev s_check_automaton : Stmt := topS 18
abbrev s_check_number : Stmt := topS 19
abbrev s_made_by : Stmt := topS 20
abbrev s_layers_of : Stmt := topS 21
abbrev s_pairs_at : Stmt := topS 22
abbrev s_climbs_from : Stmt := topS 23
abbrev s_met_with : Stmt := topS 24
abbrev s_is_bad : Stmt := topS 25
abbrev s_closed_with : Stmt := topS 26
abbrev s_is_closed : Stmt := topS 28
abbrev s_law_stream : Stmt := topS 30
abbrev s_law_next : Stmt := topS 31
abbrev s_law_is_integer : Stmt := topS 32
abbrev s_law_equal : Stmt := topS 33
abbrev s_law_automaton : Stmt := topS 34
abbrev s_law_thin : Stmt := topS 35
abbrev s_law_some : Stmt := topS 36
abbrev s_law_step : Stmt := topS 37
abbrev s_law_state : Stmt := topS 38
abbrev s_law_trees : Stmt := topS 39
abbrev s_law_symbols : Stmt := topS 40
abbrev s_law_key : Stmt := topS 41
abbrev s_law_reached : Stmt := topS 42
abbrev s_law_made : Stmt := topS 43
abbrev s_law_layers : Stmt := topS 44
abbrev s_law_climbed : Stmt := topS 45
abbrev s_law_climbs : Stmt := topS 46
abbrev s_law_met : Stmt := topS 47
abbrev s_law_is_bad : Stmt := topS 48
abbrev s_law_is_closed : Stmt := topS 49
abbrev s_law_part : Stmt := topS 50
abbrev s_law_put : Stmt := topS 51
abbrev s_law_places : Stmt := topS 52
abbrev s_law_same : Stmt := topS 53
abbrev s_law_along : Stmt := topS 54
abbrev s_law_shows : Stmt := topS 55
abbrev s_law : Stmt := topS 56
-- is_number: 0 value, 1 low, 2 high
abbrev n_is_number : List Str := ["value", "low", "high"]
theorem sc_is_number : FnScope n_is_number ["value", "low", "high"] (defScope s_is_number) := ⟨rfl, rfl, rfl, by decide +kernel, rfl, by decide +kernel, by decide +kernel⟩
-- is_arities: 0 value, 1 arity
abbrev n_is_arities : List Str := ["value", "arity"]
theorem sc_is_arities : FnScope n_is_arities ["value"] (defScope s_is_arities) := ⟨rfl, rfl, rfl, by decide +kernel, rfl, by decide +kernel, by decide +kernel⟩
-- is_row: 0 value, 1 arity, 2 count, 3 rows, 4 _, 5 row, 6 one
abbrev n_is_row : List Str := ["value", "arity", "count", "rows", "_", "row", "one"]
theorem sc_is_row : FnScope n_is_row ["value", "arity", "count"] (defScope s_is_row) := ⟨rfl, rfl, rfl, by decide +kernel, rfl, by decide +kernel, by decide +kernel⟩
-- is_automaton: 0 value, 1 arities, 2 good, 3 steps, 4 one, 5 row, 6 arity
abbrev n_is_automaton : List Str := ["value", "arities", "good", "steps", "one", "row", "arity"]
theorem sc_is_automaton : FnScope n_is_automaton ["value"] (defScope s_is_automaton) := ⟨rfl, rfl, rfl, by decide +kernel, rfl, by decide +kernel, by decide +kernel⟩
-- next_state: 0 automaton, 1 symbol, 2 states, 3 entry, 4 own
abbrev n_next_state : List Str := ["automaton", "symbol", "states", "entry", "own"]
theorem sc_next_state : FnScope n_next_state ["automaton", "symbol", "states"] (defScope s_next_state) := ⟨rfl, rfl, rfl, by decide +kernel, rfl, by decide +kernel, by decide +kernel⟩
-- rows_of: 0 known, 1 arity, 2 rows, 3 _, 4 row, 5 one
abbrev n_rows_of : List Str := ["known", "arity", "rows", "_", "row", "one"]
theorem sc_rows_of : FnScope n_rows_of ["known", "arity"] (defScope s_rows_of) := ⟨rfl, rfl, rfl, by decide +kernel, rfl, by decide +kernel, by decide +kernel⟩
-- reachable: 0 automaton, 1 known, 2 before, 3 symbol, 4 arity, 5 row
abbrev n_reachable : List Str := ["automaton", "known", "before", "symbol", "arity", "row"]
theorem sc_reachable : FnScope n_reachable ["automaton"] (defScope s_reachable) := ⟨rfl, rfl, rfl, by decide +kernel, rfl, by decide +kernel, by decide +kernel⟩
-- is_whole: 0 value, 1 least, 2 most
abbrev n_is_whole : List Str := ["value", "least", "most"]
theorem sc_is_whole : FnScope n_is_whole ["value", "least", "most"] (defScope s_is_whole) := ⟨rfl, rfl, rfl, by decide +kernel, rfl, by decide +kernel, by decide +kernel⟩
-- check_automaton: 0 automaton
abbrev n_check_automaton : List Str := ["automaton"]
theorem sc_check_automaton : FnScope n_check_automaton ["automaton"] (defScope s_check_automaton) := ⟨rfl, rfl, rfl, by decide +kernel, rfl, by decide +kernel, by decide +kernel⟩
-- check_number: 0 value, 1 least, 2 most, 3 name
abbrev n_check_number : List Str := ["value", "least", "most", "name"]
theorem sc_check_number : FnScope n_check_number ["value", "least", "most", "name"] (defScope s_check_number) := ⟨rfl, rfl, rfl, by decide +kernel, rfl, by decide +kernel, by decide +kernel⟩
-- made_by: 0 automaton, 1 layer, 2 found, 3 symbol, 4 arity, 5 state, 6 one, 7 other, 8 first
abbrev n_made_by : List Str := ["automaton", "layer", "found", "symbol", "arity", "state", "one", "other", "first"]
theorem sc_made_by : FnScope n_made_by ["automaton", "layer"] (defScope s_made_by) := ⟨rfl, rfl, rfl, by decide +kernel, rfl, by decide +kernel, by decide +kernel⟩
-- layers_of: 0 automaton, 1 many, 2 states, 3 layers, 4 one, 5 other
abbrev n_layers_of : List Str := ["automaton", "many", "states", "layers", "one", "other"]
theorem sc_layers_of : FnScope n_layers_of ["automaton", "many"] (defScope s_layers_of) := ⟨rfl, rfl, rfl, by decide +kernel, rfl, by decide +kernel, by decide +kernel⟩
-- pairs_at: 0 automaton, 1 depth
abbrev n_pairs_at : List Str := ["automaton", "depth"]
theorem sc_pairs_at : FnScope n_pairs_at ["automaton", "depth"] (defScope s_pairs_at) := ⟨rfl, rfl, rfl, by decide +kernel, rfl, by decide +kernel, by decide +kernel⟩
-- climbs_from: 0 automaton, 1 triple, 2 layer, 3 found, 4 symbol, 5 arity, 6 one, 7 pair, 8 beside, 9 left, 10 other, 11 right
abbrev n_climbs_from : List Str := ["automaton", "triple", "layer", "found", "symbol", "arity", "one", "pair", "beside", "left", "other", "right"]
theorem sc_climbs_from : FnScope n_climbs_from ["automaton", "triple", "layer"] (defScope s_climbs_from) := ⟨rfl, rfl, rfl, by decide +kernel, rfl, by decide +kernel, by decide +kernel⟩
-- met_with: 0 automaton, 1 layer, 2 found, 3 one, 4 other, 5 fresh, 6 triple, 7 climb, 8 more
abbrev n_met_with : List Str := ["automaton", "layer", "found", "one", "other", "fresh", "triple", "climb", "more"]
theorem sc_met_with : FnScope n_met_with ["automaton", "layer"] (defScope s_met_with) := ⟨rfl, rfl, rfl, by decide +kernel, rfl, by decide +kernel, by decide +kernel⟩
-- is_bad: 0 automaton, 1 triple
abbrev n_is_bad : List Str := ["automaton", "triple"]
theorem sc_is_bad : FnScope n_is_bad ["automaton", "triple"] (defScope s_is_bad) := ⟨rfl, rfl, rfl, by decide +kernel, rfl, by decide +kernel, by decide +kernel⟩
-- closed_with: 0 automaton, 1 layer, 2 triple
abbrev n_closed_with : List Str := ["automaton", "layer", "triple"]
theorem sc_closed_with : FnScope n_closed_with ["automaton", "layer"] (defScope s_closed_with) := ⟨rfl, rfl, rfl, by decide +kernel, rfl, by decide +kernel, by decide +kernel⟩
-- is_closed: 0 automaton, 1 depth
abbrev n_is_closed : List Str := ["automaton", "depth"]
theorem sc_is_closed : FnScope n_is_closed ["automaton", "depth"] (defScope s_is_closed) := ⟨rfl, rfl, rfl, by decide +kernel, rfl, by decide +kernel, by decide +kernel⟩
-- law_stream: 0 _law_script
abbrev n_law_stream : List Str := ["_law_script"]
theorem sc_law_stream : FnScope n_law_stream ["_law_script"] (defScope s_law_stream) := ⟨rfl, rfl, rfl, by decide +kernel, rfl, by decide +kernel, by decide +kernel⟩
-- law_next: 0 _law_stream_here, 1 _law_many, 2 _law_k, 3 _law_cell, 4 _law_digit
abbrev n_law_next : List Str := ["_law_stream_here", "_law_many", "_law_k", "_law_cell", "_law_digit"]
theorem sc_law_next : FnScope n_law_next ["_law_stream_here", "_law_many"] (defScope s_law_next) := ⟨rfl, rfl, rfl, by decide +kernel, rfl, by decide +kernel, by decide +kernel⟩
-- law_is_integer: 0 _law_actual
abbrev n_law_is_integer : List Str := ["_law_actual"]
theorem sc_law_is_integer : FnScope n_law_is_integer ["_law_actual"] (defScope s_law_is_integer) := ⟨rfl, rfl, rfl, by decide +kernel, rfl, by decide +kernel, by decide +kernel⟩
-- law_equal: 0 _law_actual, 1 _law_due, 2 _law_at
abbrev n_law_equal : List Str := ["_law_actual", "_law_due", "_law_at"]
theorem sc_law_equal : FnScope n_law_equal ["_law_actual", "_law_due"] (defScope s_law_equal) := ⟨rfl, rfl, rfl, by decide +kernel, rfl, by decide +kernel, by decide +kernel⟩
-- law_automaton: 0 _law_stream_here, 1 _law_most, 2 _law_arities, 3 _law_many, 4 _law_good, 5 _law_k, 6 _law_steps, 7 _law_arity, 8 _law_rows, 9 _law_j
abbrev n_law_automaton : List Str := ["_law_stream_here", "_law_most", "_law_arities", "_law_many", "_law_good", "_law_k", "_law_steps", "_law_arity", "_law_rows", "_law_j"]
theorem sc_law_automaton : FnScope n_law_automaton ["_law_stream_here", "_law_most"] (defScope s_law_automaton) := ⟨rfl, rfl, rfl, by decide +kernel, rfl, by decide +kernel, by decide +kernel⟩
-- law_thin: 0 _law_stream_here, 1 _law_arities, 2 _law_pair, 3 _law_state_here, 4 _law_turn, 5 _law_row, 6 _law_one, 7 _law_other, 8 _law_single, 9 _law_steps, 10 _law_symbol, 11 _law_good
abbrev n_law_thin : List Str := ["_law_stream_here", "_law_arities", "_law_pair", "_law_state_here", "_law_turn", "_law_row", "_law_one", "_law_other", "_law_single", "_law_steps", "_law_symbol", "_law_good"]
theorem sc_law_thin : FnScope n_law_thin ["_law_stream_here"] (defScope s_law_thin) := ⟨rfl, rfl, rfl, by decide +kernel, rfl, by decide +kernel, by decide +kernel⟩
-- law_some: 0 _law_stream_here, 1 _law_most
abbrev n_law_some : List Str := ["_law_stream_here", "_law_most"]
theorem sc_law_some : FnScope n_law_some ["_law_stream_here", "_law_most"] (defScope s_law_some) := ⟨rfl, rfl, rfl, by decide +kernel, rfl, by decide +kernel, by decide +kernel⟩
-- law_step: 0 _law_automaton_here, 1 _law_symbol, 2 _law_states, 3 _law_entry, 4 _law_state_here
abbrev n_law_step : List Str := ["_law_automaton_here", "_law_symbol", "_law_states", "_law_entry", "_law_state_here"]
theorem sc_law_step : FnScope n_law_step ["_law_automaton_here", "_law_symbol", "_law_states"] (defScope s_law_step) := ⟨rfl, rfl, rfl, by decide +kernel, rfl, by decide +kernel, by decide +kernel⟩
-- law_state: 0 _law_automaton_here, 1 _law_tree, 2 _law_child
abbrev n_law_state : List Str := ["_law_automaton_here", "_law_tree", "_law_child"]
theorem sc_law_state : FnScope n_law_state ["_law_automaton_here", "_law_tree"] (defScope s_law_state) := ⟨rfl, rfl, rfl, by decide +kernel, rfl, by decide +kernel, by decide +kernel⟩
-- law_trees: 0 _law_arities, 1 _law_most, 2 _law_sizes, 3 _law_size, 4 _law_found, 5 _law_symbol, 6 _law_child, 7 _law_left, 8 _law_other
abbrev n_law_trees : List Str := ["_law_arities", "_law_most", "_law_sizes", "_law_size", "_law_found", "_law_symbol", "_law_child", "_law_left", "_law_other"]
theorem sc_law_trees : FnScope n_law_trees ["_law_arities", "_law_most"] (defScope s_law_trees) := ⟨rfl, rfl, rfl, by decide +kernel, rfl, by decide +kernel, by decide +kernel⟩
-- law_symbols: 0 _law_tree, 1 _law_found, 2 _law_child
abbrev n_law_symbols : List Str := ["_law_tree", "_law_found", "_law_child"]
theorem sc_law_symbols : FnScope n_law_symbols ["_law_tree"] (defScope s_law_symbols) := ⟨rfl, rfl, rfl, by decide +kernel, rfl, by decide +kernel, by decide +kernel⟩
-- law_key: 0 _law_tree, 1 _law_symbols_here
abbrev n_law_key : List Str := ["_law_tree", "_law_symbols_here"]
theorem sc_law_key : FnScope n_law_key ["_law_tree"] (defScope s_law_key) := ⟨rfl, rfl, rfl, by decide +kernel, rfl, by decide +kernel, by decide +kernel⟩
-- law_reached: 0 _law_automaton_here, 1 _law_found, 2 _law_turn, 3 _law_fresh, 4 _law_symbol, 5 _law_one, 6 _law_other, 7 _law_state_here
abbrev n_law_reached : List Str := ["_law_automaton_here", "_law_found", "_law_turn", "_law_fresh", "_law_symbol", "_law_one", "_law_other", "_law_state_here"]
theorem sc_law_reached : FnScope n_law_reached ["_law_automaton_here"] (defScope s_law_reached) := ⟨rfl, rfl, rfl, by decide +kernel, rfl, by decide +kernel, by decide +kernel⟩
-- law_made: 0 _law_automaton_here, 1 _law_layer, 2 _law_found, 3 _law_symbol, 4 _law_state_here, 5 _law_one, 6 _law_other, 7 _law_left, 8 _law_right, 9 _law_k
abbrev n_law_made : List Str := ["_law_automaton_here", "_law_layer", "_law_found", "_law_symbol", "_law_state_here", "_law_one", "_law_other", "_law_left", "_law_right", "_law_k"]
theorem sc_law_made : FnScope n_law_made ["_law_automaton_here", "_law_layer"] (defScope s_law_made) := ⟨rfl, rfl, rfl, by decide +kernel, rfl, by decide +kernel, by decide +kernel⟩
-- law_layers: 0 _law_automaton_here, 1 _law_many, 2 _law_states, 3 _law_first, 4 _law_one, 5 _law_other, 6 _law_layers_here, 7 _law_turn
abbrev n_law_layers : List Str := ["_law_automaton_here", "_law_many", "_law_states", "_law_first", "_law_one", "_law_other", "_law_layers_here", "_law_turn"]
theorem sc_law_layers : FnScope n_law_layers ["_law_automaton_here", "_law_many"] (defScope s_law_layers) := ⟨rfl, rfl, rfl, by decide +kernel, rfl, by decide +kernel, by decide +kernel⟩
-- law_climbed: 0 _law_automaton_here, 1 _law_triple, 2 _law_symbol, 3 _law_child, 4 _law_pair, 5 _law_one, 6 _law_beside, 7 _law_found, 8 _law_k, 9 _law_both
abbrev n_law_climbed : List Str := ["_law_automaton_here", "_law_triple", "_law_symbol", "_law_child", "_law_pair", "_law_one", "_law_beside", "_law_found", "_law_k", "_law_both"]
theorem sc_law_climbed : FnScope n_law_climbed ["_law_automaton_here", "_law_triple", "_law_symbol", "_law_child", "_law_pair"] (defScope s_law_climbed) := ⟨rfl, rfl, rfl, by decide +kernel, rfl, by decide +kernel, by decide +kernel⟩
-- law_climbs: 0 _law_automaton_here, 1 _law_triple, 2 _law_layer, 3 _law_found, 4 _law_symbol, 5 _law_pair
abbrev n_law_climbs : List Str := ["_law_automaton_here", "_law_triple", "_law_layer", "_law_found", "_law_symbol", "_law_pair"]
theorem sc_law_climbs : FnScope n_law_climbs ["_law_automaton_here", "_law_triple", "_law_layer"] (defScope s_law_climbs) := ⟨rfl, rfl, rfl, by decide +kernel, rfl, by decide +kernel, by decide +kernel⟩
-- law_met: 0 _law_automaton_here, 1 _law_layer, 2 _law_found, 3 _law_one, 4 _law_other, 5 _law_known, 6 _law_triple, 7 _law_k, 8 _law_more
abbrev n_law_met : List Str := ["_law_automaton_here", "_law_layer", "_law_found", "_law_one", "_law_other", "_law_known", "_law_triple", "_law_k", "_law_more"]
theorem sc_law_met : FnScope n_law_met ["_law_automaton_here", "_law_layer"] (defScope s_law_met) := ⟨rfl, rfl, rfl, by decide +kernel, rfl, by decide +kernel, by decide +kernel⟩
-- law_is_bad: 0 _law_automaton_here, 1 _law_triple
abbrev n_law_is_bad : List Str := ["_law_automaton_here", "_law_triple"]
theorem sc_law_is_bad : FnScope n_law_is_bad ["_law_automaton_here", "_law_triple"] (defScope s_law_is_bad) := ⟨rfl, rfl, rfl, by decide +kernel, rfl, by decide +kernel, by decide +kernel⟩
-- law_is_closed: 0 _law_automaton_here, 1 _law_layer, 2 _law_triple
abbrev n_law_is_closed : List Str := ["_law_automaton_here", "_law_layer", "_law_triple"]
theorem sc_law_is_closed : FnScope n_law_is_closed ["_law_automaton_here", "_law_layer"] (defScope s_law_is_closed) := ⟨rfl, rfl, rfl, by decide +kernel, rfl, by decide +kernel, by decide +kernel⟩
-- law_part: 0 _law_tree, 1 _law_place, 2 _law_step_here
abbrev n_law_part : List Str := ["_law_tree", "_law_place", "_law_step_here"]
theorem sc_law_part : FnScope n_law_part ["_law_tree", "_law_place"] (defScope s_law_part) := ⟨rfl, rfl, rfl, by decide +kernel, rfl, by decide +kernel, by decide +kernel⟩
-- law_put: 0 _law_tree, 1 _law_place, 2 _law_part_here, 3 _law_at
abbrev n_law_put : List Str := ["_law_tree", "_law_place", "_law_part_here", "_law_at"]
theorem sc_law_put : FnScope n_law_put ["_law_tree", "_law_place", "_law_part_here"] (defScope s_law_put) := ⟨rfl, rfl, rfl, by decide +kernel, rfl, by decide +kernel, by decide +kernel⟩
-- law_places: 0 _law_tree, 1 _law_found, 2 _law_at, 3 _law_place
abbrev n_law_places : List Str := ["_law_tree", "_law_found", "_law_at", "_law_place"]
theorem sc_law_places : FnScope n_law_places ["_law_tree"] (defScope s_law_places) := ⟨rfl, rfl, rfl, by decide +kernel, rfl, by decide +kernel, by decide +kernel⟩
-- law_same: 0 _law_first, 1 _law_second, 2 _law_depth, 3 _law_at
abbrev n_law_same : List Str := ["_law_first", "_law_second", "_law_depth", "_law_at"]
theorem sc_law_same : FnScope n_law_same ["_law_first", "_law_second", "_law_depth"] (defScope s_law_same) := ⟨rfl, rfl, rfl, by decide +kernel, rfl, by decide +kernel, by decide +kernel⟩
-- law_along: 0 _law_first, 1 _law_second, 2 _law_place, 3 _law_depth, 4 _law_at
abbrev n_law_along : List Str := ["_law_first", "_law_second", "_law_place", "_law_depth", "_law_at"]
theorem sc_law_along : FnScope n_law_along ["_law_first", "_law_second", "_law_place", "_law_depth"] (defScope s_law_along) := ⟨rfl, rfl, rfl, by decide +kernel, rfl, by decide +kernel, by decide +kernel⟩
-- law_shows: 0 _law_automaton_here, 1 _law_depth, 2 _law_base, 3 _law_other, 4 _law_place
abbrev n_law_shows : List Str := ["_law_automaton_here", "_law_depth", "_law_base", "_law_other", "_law_place"]
theorem sc_law_shows : FnScope n_law_shows ["_law_automaton_here", "_law_depth", "_law_base", "_law_other", "_law_place"] (defScope s_law_shows) := ⟨rfl, rfl, rfl, by decide +kernel, rfl, by decide +kernel, by decide +kernel⟩
-- law: 0 _law_script, 1 _law_stream_here, 2 _law_automaton_here, 3 _law_layers_here, 4 _law_told, 5 _law_depth, 6 _law_trees_here, 7 _law_row, 8 _law_tree, 9 _law_turn, 10 _law_base, 11 _law_other, 12 _law_place
abbrev n_law : List Str := ["_law_script", "_law_stream_here", "_law_automaton_here", "_law_layers_here", "_law_told", "_law_depth", "_law_trees_here", "_law_row", "_law_tree", "_law_turn", "_law_base", "_law_other", "_law_place"]
theorem sc_law : FnScope n_law ["_law_script"] (defScope s_law) := ⟨rfl, rfl, rfl, by decide +kernel, rfl, by decide +kernel, by decide +kernel⟩
structure Tx (K : PySem.W.Frag) (mg : Str → Option Value) : Prop where
  b_abs : mg "abs" = none
  b_all : mg "all" = none
  b_any : mg "any" = none
  b_bool : mg "bool" = none
  b_enumerate : mg "enumerate" = none
  b_int : mg "int" = none
  b_isinstance : mg "isinstance" = none
  b_len : mg "len" = none
  b_list : mg "list" = none
  b_min : mg "min" = none
  b_range : mg "range" = none
  b_sorted : mg "sorted" = none
  b_str : mg "str" = none
  b_tuple : mg "tuple" = none
  b_zip : mg "zip" = none
  g_MOST_SYMBOLS : ∃ t, mg "MOST_SYMBOLS" = some (.int 4 t)
  g_MOST_ARITY : ∃ t, mg "MOST_ARITY" = some (.int 2 t)
  g_MOST_STATES : ∃ t, mg "MOST_STATES" = some (.int 4 t)
  g_MOST_DEPTH : ∃ t, mg "MOST_DEPTH" = some (.int 12 t)
  f_is_number : Df K mg "is_number" s_is_number ["value", "low", "high"]
  f_is_arities : Df K mg "is_arities" s_is_arities ["value"]
  f_is_row : Df K mg "is_row" s_is_row ["value", "arity", "count"]
  f_is_automaton : Df K mg "is_automaton" s_is_automaton ["value"]
  f_next_state : Df K mg "next_state" s_next_state ["automaton", "symbol", "states"]
  f_rows_of : Df K mg "rows_of" s_rows_of ["known", "arity"]
  f_reachable : Df K mg "reachable" s_reachable ["automaton"]
  f_is_whole : Df K mg "is_whole" s_is_whole ["value", "least", "most"]
  f_check_automaton : Df K mg "check_automaton" s_check_automaton ["automaton"]
  f_check_number : Df K mg "check_number" s_check_number ["value", "least", "most", "name"]
  f_made_by : Df K mg "made_by" s_made_by ["automaton", "layer"]
  f_layers_of : Df K mg "layers_of" s_layers_of ["automaton", "many"]
  f_pairs_at : Df K mg "pairs_at" s_pairs_at ["automaton", "depth"]
  f_climbs_from : Df K mg "climbs_from" s_climbs_from ["automaton", "triple", "layer"]
  f_met_with : Df K mg "met_with" s_met_with ["automaton", "layer"]
  f_is_bad : Df K mg "is_bad" s_is_bad ["automaton", "triple"]
  f_closed_with : Df K mg "closed_with" s_closed_with ["automaton", "layer"]
  f_is_closed : Df K mg "is_closed" s_is_closed ["automaton", "depth"]
  f_law_stream : Df K mg "_law_stream" s_law_stream ["_law_script"]
  f_law_next : Df K mg "_law_next" s_law_next ["_law_stream_here", "_law_many"]
  f_law_is_integer : Df K mg "_law_is_integer" s_law_is_integer ["_law_actual"]
  f_law_equal : Df K mg "_law_equal" s_law_equal ["_law_actual", "_law_due"]
  f_law_automaton : Df K mg "_law_automaton" s_law_automaton ["_law_stream_here", "_law_most"]
  f_law_thin : Df K mg "_law_thin" s_law_thin ["_law_stream_here"]
  f_law_some : Df K mg "_law_some" s_law_some ["_law_stream_here", "_law_most"]
  f_law_step : Df K mg "_law_step" s_law_step ["_law_automaton_here", "_law_symbol", "_law_states"]
  f_law_state : Df K mg "_law_state" s_law_state ["_law_automaton_here", "_law_tree"]
  f_law_trees : Df K mg "_law_trees" s_law_trees ["_law_arities", "_law_most"]
  f_law_reached : Df K mg "_law_reached" s_law_reached ["_law_automaton_here"]
  f_law_made : Df K mg "_law_made" s_law_made ["_law_automaton_here", "_law_layer"]
  f_law_layers : Df K mg "_law_layers" s_law_layers ["_law_automaton_here", "_law_many"]
  f_law_climbed : Df K mg "_law_climbed" s_law_climbed ["_law_automaton_here", "_law_triple", "_law_symbol", "_law_child", "_law_pair"]
  f_law_climbs : Df K mg "_law_climbs" s_law_climbs ["_law_automaton_here", "_law_triple", "_law_layer"]
  f_law_met : Df K mg "_law_met" s_law_met ["_law_automaton_here", "_law_layer"]
  f_law_is_bad : Df K mg "_law_is_bad" s_law_is_bad ["_law_automaton_here", "_law_triple"]
  f_law_is_closed : Df K mg "_law_is_closed" s_law_is_closed ["_law_automaton_here", "_law_layer"]
  f_law_part : Df K mg "_law_part" s_law_part ["_law_tree", "_law_place"]
  f_law_put : Df K mg "_law_put" s_law_put ["_law_tree", "_law_place", "_law_part_here"]
  f_law_places : Df K mg "_law_places" s_law_places ["_law_tree"]
  f_law_same : Df K mg "_law_same" s_law_same ["_law_first", "_law_second", "_law_depth"]
  f_law_along : Df K mg "_law_along" s_law_along ["_law_first", "_law_second", "_law_place", "_law_depth"]
  f_law_shows : Df K mg "_law_shows" s_law_shows ["_law_automaton_here", "_law_depth", "_law_base", "_law_other", "_law_place"]
end PW

-- W1
/-! W1: encodings; the small defs of the program. -/
namespace PW
open PySem PySem.Spec PyProof.Rows L2 PL Ma
abbrev nt (n : Nat) : PyData := .int (n : Int)
abbrev nts (l : List Nat) : List PyData := l.map nt
def encE : Ent → PyData
  | .e0 s => nt s
  | .e1 r => .tuple (nts r)
  | .e2 rs => .tuple (rs.map fun r => .tuple (nts r))
def encA (A : Au) : PyData := .tuple [.tuple (nts A.ar), .tuple (A.good.map PyData.bool), .tuple (A.st.map encE)]
theorem nts_at {l : List Nat} {i x : Nat} (h : l[i]? = some x) : atI (nts l) (i : Int) = some (nt x) := atI_nat (by rw [List.getElem?_map, h]; rfl)
theorem map_at {α : Type} {l : List α} {f : α → PyData} {i : Nat} {x : α} (h : l[i]? = some x) : atI (l.map f) (i : Int) = some (f x) := atI_nat (by rw [List.getElem?_map, h]; rfl)
theorem ix_at {ds : List PyData} {i : Nat} {d : PyData} (h : ds[i]? = some d) : atI ds (i : Int) = some d := atI_nat h
theorem flat_len {ds : List PyData} {es : PyData → List PyData} {F : PyData → PyData → PyData} (b : Nat) (h : ∀ d ∈ ds, (es d).length ≤ b) : (ds.flatMap fun d => (es d).map (F d)).length ≤ ds.length * b := by
  induction ds with
  | nil => simp
  | cons d r ih =>
    rw [List.flatMap_cons, List.length_append, List.length_map, List.length_cons, Nat.succ_mul]
    have h1 := h d (by simp)
    have h2 := ih fun x hx => h x (by simp [hx])
    omega
theorem flat_le {ds : List PyData} {es : PyData → List PyData} {F : PyData → PyData → PyData} (a b : Nat) (ha : ds.length ≤ a) (h : ∀ d ∈ ds, (es d).length ≤ b) (hab : a * b ≤ 50000) (i : Nat) : ((ds.take i).flatMap fun d => (es d).map (F d)).length ≤ 50000 := by
  have h1 := flat_len (ds := ds.take i) (es := es) (F := F) b fun d hd => h d (List.mem_of_mem_take hd)
  have h2 : (ds.take i).length * b ≤ a * b := Nat.mul_le_mul_right b (by rw [List.length_take]; omega)
  omega
section
variable {P : Program} {w : World} {K : PySem.W.Frag} {mg : Str → Option Value} {base : Heap}
def F_is_number : FS (Int × Int × Int) := ⟨fun a => [.d (.int a.1), .d (.int a.2.1), .d (.int a.2.2)], fun a r => r = .d (.bool (decide (a.2.1 ≤ a.1) && decide (a.1 ≤ a.2.2)))⟩
theorem c_is_number (T : Tx K mg) : Cl P w K mg base 1 "is_number" F_is_number.sp := by
  refine cl_mk F_is_number T.f_is_number sc_is_number (fun _ => rfl) (fun _ => rfl) (by decide) ?_
  intro f cdv A outer s H E hr a
  refine xss_one (xs_retD (xe_and (xe_isi (T := "int") (t := true) (xe_var 0 rfl (pv 0)) (by rfl) T.b_isinstance T.b_int (by decide +kernel)) fun _ => (xe_and (xe_not (xe_isi (T := "bool") (t := false) (xe_var 0 rfl (pv 0)) (by rfl) T.b_isinstance T.b_bool (by decide +kernel))) fun _ => (xe_and1 (xe_chain (xe_var 1 rfl (pv 1)) (xe_var 0 rfl (pv 0)) (xe_var 2 rfl (pv 2)))))) ?_)
  rfl
def F_is_whole : FS (Int × Int × Int) := ⟨fun a => [.d (.int a.1), .d (.int a.2.1), .d (.int a.2.2)], fun a r => r = .d (.bool (decide (a.2.1 ≤ a.1) && decide (a.1 ≤ a.2.2)))⟩
theorem c_is_whole (T : Tx K mg) : Cl P w K mg base 1 "is_whole" F_is_whole.sp := by
  refine cl_mk F_is_whole T.f_is_whole sc_is_whole (fun _ => rfl) (fun _ => rfl) (by decide) ?_
  intro f cdv A outer s H E hr a
  refine xss_one (xs_retD (xe_and (xe_isi (T := "int") (t := true) (xe_var 0 rfl (pv 0)) (by rfl) T.b_isinstance T.b_int (by decide +kernel)) fun _ => (xe_and (xe_not (xe_isi (T := "bool") (t := false) (xe_var 0 rfl (pv 0)) (by rfl) T.b_isinstance T.b_bool (by decide +kernel))) fun _ => (xe_and1 (xe_chain (xe_var 1 rfl (pv 1)) (xe_var 0 rfl (pv 0)) (xe_var 2 rfl (pv 2)))))) ?_)
  rfl
def F_is_arities : FS {l : List Nat // l ∈ arList} := ⟨fun a => [.d (.tuple (nts a.1))], fun a r => r = .d (.bool true)⟩
theorem c_is_arities (T : Tx K mg) : Cl P w K mg base 2 "is_arities" F_is_arities.sp := by
  refine cl_mk F_is_arities T.f_is_arities sc_is_arities (fun _ => rfl) (fun _ => rfl) (by decide) ?_
  intro f cdv A outer s H E hr ⟨l, hl⟩
  have h3 := ar_small l hl
  have hlen : (nts l).length = l.length := List.length_map ..
  refine xss_ifF (xw_pt (xw_or (xt_not (xt_val (xe_isi (T := "tuple") (t := true) (xe_var 0 rfl (pv 0)) (by rfl) T.b_isinstance T.b_tuple (by decide +kernel)))) fun _ => (xw_or1 (xt_not (xt_chain xe_int (xe_lenT (xe_var 0 rfl (pv 0)) T.b_len) (xe_glob rfl T.g_MOST_SYMBOLS)))))) ?_ ?_
  · rw [hlen, decide_eq_true (by omega), decide_eq_true (by omega)]; rfl
  · refine xss_one (xs_retD (xe_allG (fun _ => true) (XF.toL (xf_lcN (own := [("arity", 1)]) (lcD (F := fun _ => .bool true) (XI.toC (xi_tupD (xe_var 0 rfl (pv 0)))) (sg_name 1) (fun _ _ _ _ _ => (pg_name (i := 1) sc_is_arities.nd rfl (.inl rfl))) (fun d hd => ⟨trivial, fun _ _ _ _ _ => ?_⟩) ?_) sc_is_arities.nd (blkOk_by (N := n_is_arities) (sc := defScope s_is_arities) (by decide +kernel)))) T.b_all) ?_)
    · obtain ⟨x, hx, rfl⟩ := List.mem_map.mp hd
      refine xe_callD (c_is_number T) hr ((x : Int), 0, 2) (xa_cons (xe_var 1 rfl (pv 1)) (xa_cons xe_int (xa_cons (xe_glob rfl T.g_MOST_ARITY) xa_nil))) fun r hr => ?_
      rw [hr]
      have := h3.1 x hx
      show SD.d (.bool (decide ((0 : Int) ≤ x) && decide ((x : Int) ≤ 2))) = _
      rw [decide_eq_true (by omega), decide_eq_true (by omega)]; rfl
    · show (nts l).length ≤ 50000
      rw [hlen]; omega
    · simp [F_is_arities]
/-- the items one place down -/
def kidsD : PyData → List PyData
  | .tuple ds => ds
  | _ => []
def levD (v : PyData) : Nat → List PyData
  | 0 => [v]
  | i + 1 => (levD v i).flatMap fun d => (kidsD d).map fun e => e
theorem lev_ok {e : Ent} {n a : Nat} (ok : Ent.ok n a e) (hn : n ≤ 4) : (∀ i, i < a → (∀ d ∈ levD (encE e) i, ∃ ds, d = .tuple ds ∧ ds.length = n) ∧ (levD (encE e) i).length ≤ 4) ∧ (∀ d ∈ levD (encE e) a, ∃ k, k < n ∧ d = nt k) ∧ (levD (encE e) a).length ≤ 16 ∧ a ≤ 2 := by
  cases e with
  | e0 s =>
    obtain ⟨rfl, h1⟩ := ok
    exact ⟨fun i hi => absurd hi (by omega), fun d hd => ⟨s, h1, by simpa [levD, encE] using hd⟩, by simp [levD], by omega⟩
  | e1 r =>
    obtain ⟨rfl, h1, h2⟩ := ok
    refine ⟨fun i hi => ?_, fun d hd => ?_, ?_, by omega⟩
    · have e : i = 0 := by omega
      subst e
      exact ⟨fun d hd => ⟨nts r, by simpa [levD, encE] using hd, by simp [h1]⟩, by simp [levD]⟩
    · simp only [levD, encE, List.flatMap_cons, List.flatMap_nil, kidsD, List.map_id', List.append_nil, List.mem_map] at hd
      obtain ⟨x, hx, rfl⟩ := hd
      exact ⟨x, h2 x hx, rfl⟩
    · simp [levD, encE, kidsD]; omega
  | e2 rs =>
    obtain ⟨rfl, h1, h2⟩ := ok
    have l1 : levD (encE (.e2 rs)) 1 = rs.map fun r => .tuple (nts r) := by
      simp only [levD, encE, List.flatMap_cons, List.flatMap_nil, kidsD, List.map_id', List.append_nil]
    refine ⟨fun i hi => ?_, fun d hd => ?_, ?_, by omega⟩
    · have e : i = 0 ∨ i = 1 := by omega
      rcases e with rfl | rfl
      · exact ⟨fun d hd => ⟨_, by simpa [levD, encE] using hd, by simp [h1]⟩, by simp [levD]⟩
      · rw [l1]
        refine ⟨fun d hd => ?_, by simp; omega⟩
        obtain ⟨r, hr, rfl⟩ := List.mem_map.mp hd
        exact ⟨_, rfl, by simp [(h2 r hr).1]⟩
    · have hd : d ∈ (levD (encE (.e2 rs)) 1).flatMap fun d => (kidsD d).map fun e => e := hd
      rw [l1] at hd
      obtain ⟨q, hq, hd⟩ := List.mem_flatMap.mp hd
      obtain ⟨r, hr, rfl⟩ := List.mem_map.mp hq
      rw [List.map_id'] at hd
      obtain ⟨x, hx, rfl⟩ := List.mem_map.mp hd
      exact ⟨x, (h2 r hr).2 x hx, rfl⟩
    · have := flat_len (ds := levD (encE (.e2 rs)) 1) (es := kidsD) (F := fun _ e => e) 4 fun d hd => by
        rw [l1] at hd
        obtain ⟨r, hr, rfl⟩ := List.mem_map.mp hd
        show (nts r).length ≤ 4
        rw [List.length_map, (h2 r hr).1]; exact hn
      rw [l1, List.length_map] at this
      show ((levD (encE (.e2 rs)) 1).flatMap fun d => (kidsD d).map fun e => e).length ≤ 16
      rw [l1]
      omega
def F_is_row : FS {x : Ent × Nat × Nat // Ent.ok x.2.2 x.2.1 x.1 ∧ 1 ≤ x.2.2 ∧ x.2.2 ≤ 4} := ⟨fun a => [.d (encE a.1.1), .d (nt a.1.2.1), .d (nt a.1.2.2)], fun a r => r = .d (.bool true)⟩
theorem c_is_row (T : Tx K mg) : Cl P w K mg base 2 "is_row" F_is_row.sp := by
  refine cl_mk F_is_row T.f_is_row sc_is_row (fun _ => rfl) (fun _ => rfl) (by decide) ?_
  intro f cdv A outer s H E hr ⟨⟨e, a, n⟩, ok, n1, n4⟩
  dsimp only at ok n1 n4
  obtain ⟨hlo, hhi, h16, ha2⟩ := lev_ok ok n4
  refine xss_setF 3 (xf_lst (ds := levD (encE e) 0) (xa_cons (xe_var 0 rfl (pv 0)) xa_nil) (by simp [levD])) (fun ad ds e1 => ?_) sc_is_row.nd
  subst e1
  refine xss_cons (M := fun ρ => ∃ ad s4, ρ = [.d (encE e), .d (nt a), .d (nt n), .ol ad (levD (encE e) a), s4, .no, .no]) (xs_forD (I := fun i ρ => ∃ ad s4, ρ = [.d (encE e), .d (nt a), .d (nt n), .ol ad (levD (encE e) i), s4, .no, .no]) (xi_range1 (n := a) (xe_var 1 rfl (pv 1)) (by omega) T.b_range) (pg_name (i := 4) sc_is_row.nd rfl (.inl rfl)) (sg_name 4) ⟨_, _, rfl⟩ (fun i d ρ1 hd hI => ⟨trivial, ?_⟩) (fun ρ1 hI => by rw [rngD_len] at hI; exact hI)) (fun ρ1 e1 => ?_)
  · obtain ⟨hi, rfl⟩ := rngD_get hd
    obtain ⟨ad, s4, rfl⟩ := hI
    obtain ⟨h1, h2⟩ := hlo i hi
    refine xss_ifF (xt_not (xt_val (xe_allG (fun _ => true) (XF.toL (xf_lcN (own := [("row", 5)]) (lcD (F := fun _ => .bool true) (xc_listD (xe_varO 3 rfl (pv 3))) (sg_name 5) (fun _ _ _ _ _ => (pg_name (i := 5) sc_is_row.nd rfl (.inl rfl))) (fun d hd => ⟨trivial, fun _ _ _ _ _ => ?_⟩) ?_) sc_is_row.nd (blkOk_by (N := n_is_row) (sc := defScope s_is_row) (by decide +kernel)))) T.b_all))) (by simp) ?_
    · obtain ⟨ds, rfl, hl⟩ := h1 d hd
      refine XE.weak (xe_and (xe_isi (T := "tuple") (t := true) (xe_var 5 rfl (pv 5)) (by rfl) T.b_isinstance T.b_tuple (by decide +kernel)) fun _ => (xe_and1 (xe_eqI (xe_lenT (ds := ds) (xe_var 5 rfl (pv 5)) T.b_len) (xe_var (x := nt n) 2 rfl (pv 2))))) fun r h => ?_
      rw [h, hl, decide_eq_true rfl]; rfl
    · omega
    · refine xss_cons (xs_setLc2 3 (lc2_mk (own := [("row", 5), ("one", 6)]) (vs1 := [6]) kidsD (fun _ e => e) (xc_listD (xe_varO 3 rfl (pv 3))) (sg_name 5) (sg_name 6) (flat_le 4 4 h2 ?_ (by decide)) ?_ (fun _ _ _ _ _ => (pg_name (i := 5) sc_is_row.nd rfl (.inl rfl))) (fun _ _ _ _ _ => (pg_name (i := 6) sc_is_row.nd rfl (.inl rfl)))
        (fun d hd => ⟨trivial, fun _ _ _ _ _ => ?_, fun e he => ⟨trivial, fun _ _ _ _ _ => xe_var 6 rfl (pv 6)⟩⟩)) sc_is_row.nd (blkOk_by (N := n_is_row) (sc := defScope s_is_row) (by decide +kernel)) (sw_true rfl rfl rfl (by decide +kernel))) (fun ρ1 ⟨ad, e1⟩ => ?_)
      · intro d hd; obtain ⟨ds, rfl, hl⟩ := h1 d hd; show ds.length ≤ 4; omega
      · intro d hd; obtain ⟨ds, rfl, hl⟩ := h1 d hd; show ds.length ≤ 40000; omega
      · obtain ⟨ds, rfl, hl⟩ := h1 d hd
        exact xj_tup (xe_var 5 rfl (pv 5))
      · subst e1
        exact xss_nil ⟨_, _, rfl⟩
  · obtain ⟨ad, s4, rfl⟩ := e1
    refine xss_one (xs_retD (xe_allG (fun _ => true) (XF.toL (xf_lcN (own := [("one", 6)]) (lcD (F := fun _ => .bool true) (xc_listD (xe_varO 3 rfl (pv 3))) (sg_name 6) (fun _ _ _ _ _ => (pg_name (i := 6) sc_is_row.nd rfl (.inl rfl))) (fun d hd => ⟨trivial, fun _ _ _ _ _ => ?_⟩) ?_) sc_is_row.nd (blkOk_by (N := n_is_row) (sc := defScope s_is_row) (by decide +kernel)))) T.b_all) ?_)
    · obtain ⟨k, hk, rfl⟩ := hhi d hd
      refine xe_callD (c_is_number T) hr ((k : Int), 0, (n : Int) - 1) (xa_cons (xe_var 6 rfl (pv 6)) (xa_cons xe_int (xa_cons (xe_sub (xe_var 2 rfl (pv 2)) xe_int) xa_nil))) fun r hr => ?_
      rw [hr]
      show SD.d (.bool (decide ((0 : Int) ≤ k) && decide ((k : Int) ≤ (n : Int) - 1))) = _
      rw [decide_eq_true (by omega), decide_eq_true (by omega)]; rfl
    · omega
    · simp [F_is_row]
end
end PW

-- W2
/-! W2: is_automaton, the checks, next_state, is_bad. -/
namespace PW
open PySem PySem.Spec PyProof.Rows L2 PL Ma
section
variable {P : Program} {w : World} {K : PySem.W.Frag} {mg : Str → Option Value} {base : Heap}
abbrev WfA := {A : Au // A.Wf}
theorem enc_ar {A : Au} : atI [PyData.tuple (nts A.ar), .tuple (A.good.map PyData.bool), .tuple (A.st.map encE)] 0 = some (.tuple (nts A.ar)) := rfl
theorem enc_good {A : Au} : atI [PyData.tuple (nts A.ar), .tuple (A.good.map PyData.bool), .tuple (A.st.map encE)] 1 = some (.tuple (A.good.map PyData.bool)) := rfl
theorem enc_st {A : Au} : atI [PyData.tuple (nts A.ar), .tuple (A.good.map PyData.bool), .tuple (A.st.map encE)] 2 = some (.tuple (A.st.map encE)) := rfl
def F_is_automaton : FS WfA := ⟨fun a => [.d (encA a.1)], fun a r => r = .d (.bool true)⟩
theorem c_is_automaton (T : Tx K mg) : Cl P w K mg base 3 "is_automaton" F_is_automaton.sp := by
  refine cl_mk F_is_automaton T.f_is_automaton sc_is_automaton (fun _ => rfl) (fun _ => rfl) (by decide) ?_
  intro f cdv A outer s H E hr ⟨M, hM⟩
  have h3 := ar_small _ hM.ar
  have hl1 : (nts M.ar).length = M.ar.length := List.length_map ..
  have hl2 : (M.good.map PyData.bool).length = M.n := List.length_map ..
  have hl3 : (M.st.map encE).length = M.ar.length := by rw [List.length_map]; exact hM.len
  have n1 := hM.n1
  have n4 := hM.n4
  refine xss_ifF (xw_pt (xw_or (xt_not (xt_val (xe_isi (T := "tuple") (t := true) (xe_var 0 rfl (pv 0)) (by rfl) T.b_isinstance T.b_tuple (by decide +kernel)))) fun _ => (xw_or (xt_neI (xe_lenT (xe_var 0 rfl (pv 0)) T.b_len) xe_int) fun _ => (xw_or1 (xt_not (xt_val (xe_callD (c_is_arities T) hr ⟨M.ar, hM.ar⟩ (xa_cons (xe_ixT (xe_var 0 rfl (pv 0)) xe_int enc_ar) xa_nil) fun r h => h))))))) rfl ?_
  refine xss_cons (xs_asg (xe_var 0 rfl (pv 0)) (pg_tup rfl (pgs_cons (pg_name (i := 1) sc_is_automaton.nd rfl (.inl rfl)) (pgs_cons (pg_name (i := 2) sc_is_automaton.nd rfl (.inr rfl)) (pgs_cons (pg_name (i := 3) sc_is_automaton.nd rfl (.inl rfl)) pgs_nil)))) (sg_trip 1 2 3) ⟨_, _, _, rfl⟩) (fun ρ1 e1 => ?_)
  subst e1
  refine xss_ifF (xw_pt (xw_or (xt_not (xt_val (xe_isi (T := "tuple") (t := true) (xe_var 2 rfl (pv 2)) (by rfl) T.b_isinstance T.b_tuple (by decide +kernel)))) fun _ => (xw_or1 (xt_not (xt_chain xe_int (xe_lenT (xe_var 2 rfl (pv 2)) T.b_len) (xe_glob rfl T.g_MOST_STATES)))))) ?_ ?_
  · rw [hl2, decide_eq_true (by omega), decide_eq_true (by omega)]; rfl
  refine xss_ifF (xt_not (xt_val (xe_allG (fun _ => true) (XF.toL (xf_lcN (own := [("one", 4)]) (lcD (F := fun _ => .bool true) (XI.toC (xi_tupD (xe_var 2 rfl (pv 2)))) (sg_name 4) (fun _ _ _ _ _ => (pg_name (i := 4) sc_is_automaton.nd rfl (.inl rfl))) (fun d hd => ⟨trivial, fun _ _ _ _ _ => ?_⟩) ?_) sc_is_automaton.nd (blkOk_by (N := n_is_automaton) (sc := defScope s_is_automaton) (by decide +kernel)))) T.b_all))) (by simp) ?_
  · obtain ⟨b, _, rfl⟩ := List.mem_map.mp hd
    exact (xe_isi (T := "bool") (t := true) (xe_var 4 rfl (pv 4)) (by rfl) T.b_isinstance T.b_bool (by decide +kernel))
  · show (M.good.map PyData.bool).length ≤ 50000
    omega
  refine xss_ifF (xw_pt (xw_or (xt_not (xt_val (xe_isi (T := "tuple") (t := true) (xe_var 3 rfl (pv 3)) (by rfl) T.b_isinstance T.b_tuple (by decide +kernel)))) fun _ => (xw_or1 (xt_neI (xe_lenT (xe_var 3 rfl (pv 3)) T.b_len) (xe_lenT (xe_var 1 rfl (pv 1)) T.b_len))))) ?_ ?_
  · rw [hl1, hl3, decide_eq_true rfl]; rfl
  refine xss_one (xs_retD (xe_allG (fun _ => true) (XF.toL (xf_lcN (own := [("row", 5), ("arity", 6)]) (lcD (F := fun _ => .bool true) (XI.toC (xi_zip (xe_var 3 rfl (pv 3)) (xe_var 1 rfl (pv 1)) T.b_zip)) (sg_pair 5 6) (fun _ _ _ _ _ => (pg_tup rfl (pgs_cons (pg_name (i := 5) sc_is_automaton.nd rfl (.inl rfl)) (pgs_cons (pg_name (i := 6) sc_is_automaton.nd rfl (.inl rfl)) pgs_nil)))) (fun d hd => ?_) ?_) sc_is_automaton.nd (blkOk_by (N := n_is_automaton) (sc := defScope s_is_automaton) (by decide +kernel)))) T.b_all) ?_)
  · obtain ⟨i, hi⟩ := List.mem_iff_getElem?.mp hd
    obtain ⟨x, y, hx, hy, rfl⟩ := zipD_get hi
    rw [List.getElem?_map] at hx hy
    cases ha : M.ar[i]? with
    | none => rw [ha] at hy; cases hy
    | some a =>
      obtain ⟨e, he, ok⟩ := hM.entry ha
      rw [he] at hx
      rw [ha] at hy
      cases hx
      cases hy
      refine ⟨⟨_, _, rfl⟩, fun _ _ _ _ _ => ?_⟩
      refine xe_callD (c_is_row T) hr ⟨(e, a, M.n), ok, n1, n4⟩ (xa_cons (xe_var 5 rfl (pv 5)) (xa_cons (xe_var 6 rfl (pv 6)) (xa_cons (xe_lenT (xe_var 2 rfl (pv 2)) T.b_len) xa_nil))) (fun r h => h) ?_
      rw [hl2]; rfl
  · show (zipD (M.st.map encE) (nts M.ar)).length ≤ 50000
    unfold zipD
    rw [List.length_zipWith]
    omega
  · show SD.d _ = _
    simp
def F_check_automaton : FS WfA := ⟨fun a => [.d (encA a.1)], fun a r => r = .d .none⟩
theorem c_check_automaton (T : Tx K mg) : Cl P w K mg base 4 "check_automaton" F_check_automaton.sp := by
  refine cl_mk F_check_automaton T.f_check_automaton sc_check_automaton (fun _ => rfl) (fun _ => rfl) (by decide) ?_
  intro f cdv A outer s H E hr ⟨M, hM⟩
  exact xss_ifF (xt_not (xt_val (xe_callD (c_is_automaton T) hr ⟨M, hM⟩ (xa_cons (xe_var 0 rfl (pv 0)) xa_nil) fun r h => h))) rfl (xss_nil rfl)
def F_check_number : FS ({x : Int // 1 ≤ x ∧ x ≤ 12}) := ⟨fun a => [.d (.int a.1), .d (.int 1), .d (.int 12), .d (.str "depth")], fun a r => r = .d .none⟩
theorem c_check_number (T : Tx K mg) : Cl P w K mg base 2 "check_number" F_check_number.sp := by
  refine cl_mk F_check_number T.f_check_number sc_check_number (fun _ => rfl) (fun _ => rfl) (by decide) ?_
  intro f cdv A outer s H E hr ⟨x, h1, h2⟩
  refine xss_ifF (xt_not (xt_val (xe_callD (y := .bool true) (c_is_whole T) hr (x, 1, 12) (xa_cons (xe_var 0 rfl (pv 0)) (xa_cons (xe_var 1 rfl (pv 1)) (xa_cons (xe_var 2 rfl (pv 2)) xa_nil))) fun r h => ?_))) rfl (xss_nil rfl)
  rw [h]
  show SD.d (.bool (decide ((1 : Int) ≤ x) && decide (x ≤ 12))) = _
  rw [decide_eq_true h1, decide_eq_true h2]; rfl
/-- the places an entry is read through -/
theorem step_path {A : Au} (w : A.Wf) {sym : Nat} {ss : List Nat} (h : A.ar[sym]? = some ss.length) (hs : ∀ s ∈ ss, s < A.n) : ∃ (e : Ent) (cur : Nat → PyData), A.st[sym]? = some e ∧ cur 0 = encE e ∧ (∀ (i x : Nat), ss[i]? = some x → ∃ ds, cur i = .tuple ds ∧ ds[x]? = some (cur (i + 1))) ∧ cur ss.length = nt (A.step sym ss) := by
  obtain ⟨e, he, ok⟩ := w.entry h
  have st : A.step sym ss = e.at ss := by unfold Au.step; rw [getD_of he]
  rw [st]
  cases e with
  | e0 s =>
    have e0 : ss = [] := List.eq_nil_of_length_eq_zero ok.1
    subst e0
    exact ⟨.e0 s, fun _ => nt s, he, rfl, fun i x hx => by simp at hx, rfl⟩
  | e1 r =>
    obtain ⟨h0, h1, h2⟩ := ok
    match ss, h0, hs with
    | [x], _, hs =>
      have hx : x < r.length := by rw [h1]; exact hs x (by simp)
      refine ⟨.e1 r, fun i => if i = 0 then .tuple (nts r) else nt (r.getD x 0), he, rfl, fun i y hy => ?_, rfl⟩
      match i, hy with
      | 0, hy =>
        have e : x = y := by simpa using hy
        subst e
        refine ⟨nts r, rfl, ?_⟩
        rw [List.getElem?_map, List.getElem?_eq_getElem hx]
        show some (nt _) = some (nt _)
        rw [getD_of (List.getElem?_eq_getElem hx)]
      | i + 1, hy => simp at hy
  | e2 rs =>
    obtain ⟨h0, h1, h2⟩ := ok
    match ss, h0, hs with
    | [x, y], _, hs =>
      have hx : x < rs.length := by rw [h1]; exact hs x (by simp)
      have hr := (h2 _ (List.getElem_mem hx))
      have hy : y < rs[x].length := by rw [hr.1]; exact hs y (by simp)
      refine ⟨.e2 rs, fun i => if i = 0 then .tuple (rs.map fun r => .tuple (nts r)) else if i = 1 then .tuple (nts (rs.getD x [])) else nt ((rs.getD x []).getD y 0), he, rfl, fun i z hz => ?_, rfl⟩
      match i, hz with
      | 0, hz =>
        have e : x = z := by simpa using hz
        subst e
        refine ⟨_, rfl, ?_⟩
        rw [List.getElem?_map, List.getElem?_eq_getElem hx, getD_of (List.getElem?_eq_getElem hx)]
        rfl
      | 1, hz =>
        have e : y = z := by simpa using hz
        subst e
        refine ⟨_, rfl, ?_⟩
        rw [List.getElem?_map, getD_of (List.getElem?_eq_getElem hx), List.getElem?_eq_getElem hy, getD_of (List.getElem?_eq_getElem hy)]
        rfl
      | i + 2, hz => simp at hz
theorem nts_get {l : List Nat} {i : Nat} {d : PyData} (h : (nts l)[i]? = some d) : ∃ x, l[i]? = some x ∧ d = nt x := by
  rw [List.getElem?_map] at h
  cases e : l[i]? with
  | none => rw [e] at h; cases h
  | some x => rw [e] at h; exact ⟨x, rfl, (Option.some.inj h).symm⟩
/-- a place of the table, read rightly -/
structure StepArg where
  A : Au
  wf : A.Wf
  sym : Nat
  ss : List Nat
  h : A.ar[sym]? = some ss.length
  lt : ∀ s ∈ ss, s < A.n
def F_next_state : FS StepArg := ⟨fun a => [.d (encA a.A), .d (nt a.sym), .d (.tuple (nts a.ss))], fun a r => r = .d (nt (a.A.step a.sym a.ss))⟩
theorem c_next_state (T : Tx K mg) : Cl P w K mg base 1 "next_state" F_next_state.sp := by
  refine cl_mk F_next_state T.f_next_state sc_next_state (fun _ => rfl) (fun _ => rfl) (by decide) ?_
  intro f cdv A outer s H E hr ⟨M, hM, sym, ss, h, lt⟩
  obtain ⟨e, cur, he, h0, hst, hend⟩ := step_path hM h lt
  refine xss_set 3 (x := encE e) (xe_ixT (xe_ixT (xe_var 0 rfl (pv 0)) xe_int enc_st) (xe_var 1 rfl (pv 1)) (map_at he)) ?_ sc_next_state.nd
  rw [← h0]
  refine xss_cons (M := fun ρ => ∃ s4, ρ = [.d (encA M), .d (nt sym), .d (.tuple (nts ss)), .d (cur ss.length), s4]) (xs_forD (I := fun i ρ => ∃ s4, ρ = [.d (encA M), .d (nt sym), .d (.tuple (nts ss)), .d (cur i), s4]) (xi_tupD (xe_var 2 rfl (pv 2))) (pg_name (i := 4) sc_next_state.nd rfl (.inl rfl)) (sg_name 4) ⟨_, rfl⟩ (fun i d ρ1 hd hI => ⟨trivial, ?_⟩) (fun ρ1 hI => by rw [List.length_map] at hI; exact hI)) (fun ρ1 e1 => ?_)
  · obtain ⟨x, hx, rfl⟩ := nts_get hd
    obtain ⟨s4, rfl⟩ := hI
    obtain ⟨ds, e1, e2⟩ := hst i x hx
    rw [e1]
    exact xss_set 3 (xe_ixT (xe_var 3 rfl (pv 3)) (xe_var 4 rfl (pv 4)) (ix_at e2)) (xss_nil ⟨_, rfl⟩) sc_next_state.nd
  · obtain ⟨s4, rfl⟩ := e1
    exact xss_one (xs_retD (xe_var 3 rfl (pv 3)) (by rw [hend]; rfl))
abbrev encP (p : Nat × Nat) : PyData := .tuple [nt p.1, nt p.2]
abbrev encT (t : Nat × Nat × Nat) : PyData := .tuple [nt t.1, nt t.2.1, nt t.2.2]
structure BadArg where
  A : Au
  wf : A.Wf
  t : Nat × Nat × Nat
  lt : t.1 < A.n ∧ t.2.1 < A.n ∧ t.2.2 < A.n
theorem good_at {A : Au} {s : Nat} (h : s < A.n) : A.good[s]? = some (A.isGood s) := by
  have h' : s < A.good.length := h
  unfold Au.isGood
  rw [getD_of (List.getElem?_eq_getElem h')]
  exact List.getElem?_eq_getElem h'
def F_is_bad : FS BadArg := ⟨fun a => [.d (encA a.A), .d (encT a.t)], fun a r => r = .d (.bool (Bad a.A a.t))⟩
theorem c_is_bad (T : Tx K mg) : Cl P w K mg base 1 "is_bad" F_is_bad.sp := by
  refine cl_mk F_is_bad T.f_is_bad sc_is_bad (fun _ => rfl) (fun _ => rfl) (by decide) ?_
  intro f cdv A outer s H E hr ⟨M, hM, ⟨p, q, u⟩, l1, l2, l3⟩
  refine xss_one (xs_retD (xe_and (xe_ixT (xe_ixT (xe_var 0 rfl (pv 0)) xe_int enc_good) (xe_ixT (xe_var 1 rfl (pv 1)) xe_int rfl) (map_at (good_at l1))) fun _ => (xe_and (xe_ixT (xe_ixT (xe_var 0 rfl (pv 0)) xe_int enc_good) (xe_ixT (xe_var 1 rfl (pv 1)) xe_int rfl) (map_at (good_at l2))) fun _ => (xe_and1 (xe_not (xe_ixT (xe_ixT (xe_var 0 rfl (pv 0)) xe_int enc_good) (xe_ixT (xe_var 1 rfl (pv 1)) xe_int rfl) (map_at (good_at l3))))))) ?_)
  rfl
end
end PW

-- W3
/-! W3: rows_of, reachable. -/
namespace PW
open PySem PySem.Spec PyProof.Rows L2 PL Ma
section
variable {P : Program} {w : World} {K : PySem.W.Frag} {mg : Str → Option Value} {base : Heap}
abbrev encR (r : List Nat) : PyData := .tuple (nts r)
abbrev encRs (rs : List (List Nat)) : List PyData := rs.map encR
theorem rows_next (ks : List Nat) (a : Nat) : ((encRs (rowsL ks a)).flatMap fun d => (nts ks).map fun e => PyData.tuple (kidsD d ++ [e])) = encRs (rowsL ks (a + 1)) := by
  simp only [encRs, rowsL, List.flatMap_map, List.map_flatMap, List.map_map]
  refine congrArg (fun f => List.flatMap f (rowsL ks a)) (funext fun r => ?_)
  refine List.map_congr_left fun x _ => ?_
  simp [Function.comp, kidsD, encR]
def F_rows_of : FS {x : List Nat × Nat // x.1.length ≤ 4 ∧ x.2 ≤ 2} := ⟨fun a => [.l (nts a.1.1), .d (nt a.1.2)], fun a r => r = .l (encRs (rowsL a.1.1 a.1.2))⟩
theorem c_rows_of (T : Tx K mg) : Cl P w K mg base 1 "rows_of" F_rows_of.sp := by
  refine cl_mk F_rows_of T.f_rows_of sc_rows_of (fun _ => rfl) (fun _ => rfl) (by decide) ?_
  intro f cdv A outer s H E hr ⟨⟨ks, a⟩, h4, h2⟩
  dsimp only at h4 h2
  refine xss_setF 2 (xf_lst (ds := encRs (rowsL ks 0)) (xa_cons (xe_tup xa_nil) xa_nil) (by simp [rowsL])) (fun ad ds e1 => ?_) sc_rows_of.nd
  subst e1
  refine xss_cons (M := fun ρ => ∃ ad s3, ρ = [.l (nts ks), .d (nt a), .ol ad (encRs (rowsL ks a)), s3, .no, .no]) (xs_forD (I := fun i ρ => ∃ ad s3, ρ = [.l (nts ks), .d (nt a), .ol ad (encRs (rowsL ks i)), s3, .no, .no]) (xi_range1 (n := a) (xe_var 1 rfl (pv 1)) (by omega) T.b_range) (pg_name (i := 3) sc_rows_of.nd rfl (by first | exact .inl rfl | exact .inr rfl)) (sg_name 3) ⟨_, _, rfl⟩ (fun i d ρ1 hd hI => ⟨trivial, ?_⟩) (fun ρ1 hI => by rw [rngD_len] at hI; exact hI)) (fun ρ1 e1 => ?_)
  · obtain ⟨hi, rfl⟩ := rngD_get hd
    obtain ⟨ad, s3, rfl⟩ := hI
    have hlen := rowsL_len h4 i (by omega)
    have hk : (nts ks).length ≤ 4 := by rw [List.length_map]; exact h4
    have hle : (encRs (rowsL ks i)).length ≤ 16 := by rw [List.length_map]; exact hlen
    refine xss_cons (xs_setLc2 2 (lc2_mk (own := [("row", 4), ("one", 5)]) (vs1 := [5]) (fun _ => nts ks) (fun d e => .tuple (kidsD d ++ [e])) (xc_listD (xe_varO 2 rfl (pv 2))) (sg_name 4) (sg_name 5) (flat_le 16 4 hle (fun _ _ => hk) (by decide)) (fun _ _ => by omega) (fun _ _ _ _ _ => (pg_name (i := 4) sc_rows_of.nd rfl (.inl rfl))) (fun _ _ _ _ _ => (pg_name (i := 5) sc_rows_of.nd rfl (.inl rfl)))
        (fun d hd => ⟨trivial, fun _ _ _ _ _ => xj_name 0 rfl (pv 0), fun e he => ⟨trivial, fun _ _ _ _ _ => ?_⟩⟩)) sc_rows_of.nd (blkOk_by (N := n_rows_of) (sc := defScope s_rows_of) (by decide +kernel)) (sw_true rfl rfl rfl (by decide +kernel))) (fun ρ1 ⟨ad, e1⟩ => ?_)
    · obtain ⟨r, hr, rfl⟩ := List.mem_map.mp hd
      refine xe_catT (xe_var 4 rfl (pv 4)) (xe_tup (ds := [e]) (xa_cons (xe_var 5 rfl (pv 5)) xa_nil) (by simp)) ?_
      have := (mem_rowsL.mp hr).1
      show (nts r).length + 1 ≤ 100000
      rw [List.length_map]
      omega
    · rw [rows_next] at e1
      subst e1
      exact xss_nil ⟨_, _, rfl⟩
  · obtain ⟨ad, s3, rfl⟩ := e1
    exact xss_one (xs_retO 2 rfl (pv 2) rfl)
abbrev zs (l : List Nat) : List Int := l.map fun (n : Nat) => (n : Int)
theorem zs_put (l : List Nat) (k : Nat) : putI (zs l) k = zs (putS l k) := by
  unfold putI putS
  have : ((k : Int) ∈ zs l) ↔ k ∈ l := by
    unfold zs
    rw [List.mem_map]
    constructor
    · rintro ⟨n, hn, e⟩; have e : n = k := by omega
      exact e ▸ hn
    · exact fun h => ⟨k, h, rfl⟩
  by_cases h : k ∈ l
  · rw [if_pos h, if_pos (this.mpr h)]
  · rw [if_neg h, if_neg (fun z => h (this.mp z)), zs, zs, List.map_append]; rfl
theorem zs_int (l : List Nat) : (zs l).map PyData.int = nts l := by unfold zs nts; rw [List.map_map]; rfl
/-- the known states: distinct, reached -/
structure Kn (A : Au) (kn : List Nat) : Prop where
  nd : kn.Nodup
  re : ∀ s ∈ kn, Reached A s
theorem Kn.len {A : Au} (w : A.Wf) {kn : List Nat} (h : Kn A kn) : kn.length ≤ 4 := Nat.le_trans (nodup_lt A.n kn h.nd fun s m => (h.re s m).lt w) w.n4
theorem Kn.put {A : Au} {kn : List Nat} {k : Nat} (h : Kn A kn) (r : Reached A k) : Kn A (putS kn k) := ⟨putS_nodup h.nd, fun s m => by
  rcases mem_putS.mp m with m | rfl
  · exact h.re s m
  · exact r⟩
def stepsIn (A : Au) (prev kn : List Nat) (i : Nat) : Prop := ∀ (sym : Nat) (row : List Nat), sym < i → A.ar[sym]? = some row.length → (∀ s ∈ row, s ∈ prev) → A.step sym row ∈ kn
def F_reachable : FS WfA := ⟨fun a => [.d (encA a.1)], fun a r => ∃ rs : List Nat, r = .d (.tuple (nts rs)) ∧ rs.Nodup ∧ ∀ s, s ∈ rs ↔ Reached a.1 s⟩
theorem xf_sortedZ {X : Cx} {ρ : List SD} {a : Expr} {pos p : Pos} {ad : Addr} {kn : List Nat} (ha : XE X ρ a (fun r => r = .ok ad (zs kn))) (h64 : kn.length < 64) (hm : X.mg "sorted" = none) (hc : X.calm = true := by rfl) (hg : Gl X "sorted" := by rfl) (hb : bootBuiltins "sorted" = some (.builtin "sorted") := by decide +kernel) (hs : starEach [a] X.env = (false, eval a X.env) :: starEach [] X.env := by rfl) :
    XF X ρ (.Call (.Name "sorted" p) [a] [] pos) (fun z => ∃ ms : List Nat, z = nts ms ∧ ms.Perm kn) :=
  XF.weak (xf_sortedK ha (by rw [List.length_map]; exact h64) hm hc hg hb hs) fun z ⟨ms, e, p⟩ => by
    obtain ⟨ns, rfl, q⟩ := perm_map_inv p.symm rfl
    exact ⟨ns, by rw [e, zs_int], q⟩
theorem c_reachable (T : Tx K mg) : Cl P w K mg base 2 "reachable" F_reachable.sp := by
  refine cl_mk F_reachable T.f_reachable sc_reachable (fun _ => rfl) (fun _ => rfl) (by decide) ?_
  intro f cdv A outer s H E hr ⟨M, hM⟩
  refine xss_cons (xs_newK 1 sc_reachable.nd) (fun ρ1 ⟨ad, e1⟩ => ?_)
  subst e1
  refine xss_set 2 xe_neg ?_ sc_reachable.nd
  refine xss_cons (M := fun ρ => ∃ ad kn s2 s3 s4 s5, ρ = [.d (encA M), .ok ad (zs kn), s2, s3, s4, s5] ∧ Kn M kn ∧ ∀ s, Reached M s → s ∈ kn)
    (xs_while (I := fun m ρ => ∃ ad kn, ∃ b : Int, ∃ s3 s4 s5, ρ = [.d (encA M), .ok ad (zs kn), .d (.int b), s3, s4, s5] ∧ Kn M kn ∧ m = (4 - b).toNat ∧ b ≤ kn.length ∧ (b = -1 ∨ ∃ prev ext, kn = prev ++ ext ∧ b = (prev.length : Int) ∧ stepsIn M prev kn M.ar.length))
      ((4 - (-1 : Int)).toNat) ⟨ad, [], -1, .no, .no, .no, rfl, ⟨by simp, by simp⟩, rfl, by simp, .inl rfl⟩ (fun m ρ1 hI => ?_)) (fun ρ1 e1 => ?_)
  · obtain ⟨ad, kn, b, s3, s4, s5, rfl, hk, rfl, hb, hprev⟩ := hI
    refine ⟨_, (xt_gtI (xe_lenK (xe_varK 1 rfl (pv 1)) T.b_len) (xe_var 2 rfl (pv 2))), fun hb1 => ?_, fun hb1 => ?_⟩
    · have hlt : b < kn.length := by simpa using hb1
      have hlen := hk.len hM
      refine xss_set 2 (xe_lenK (xe_varK 1 rfl (pv 1)) T.b_len) ?_ sc_reachable.nd
      refine xss_cons (M := fun ρ => ∃ ad kn' ext s3 s4 s5, ρ = [.d (encA M), .ok ad (zs kn'), .d (nt kn.length), s3, s4, s5] ∧ Kn M kn' ∧ kn' = kn ++ ext ∧ stepsIn M kn kn' M.ar.length)
        (xs_forD (I := fun i ρ => ∃ ad kn' ext s3 s4 s5, ρ = [.d (encA M), .ok ad (zs kn'), .d (nt kn.length), s3, s4, s5] ∧ Kn M kn' ∧ kn' = kn ++ ext ∧ stepsIn M kn kn' i) (xi_enum (xe_ixT (xe_var 0 rfl (pv 0)) xe_int enc_ar) T.b_enumerate) (pg_tup rfl (pgs_cons (pg_name (i := 3) sc_reachable.nd rfl (by first | exact .inl rfl | exact .inr rfl)) (pgs_cons (pg_name (i := 4) sc_reachable.nd rfl (by first | exact .inl rfl | exact .inr rfl)) pgs_nil))) (sg_pair 3 4)
        ⟨ad, kn, [], s3, s4, s5, ?_, hk, by simp, fun sym row h => absurd h (by omega)⟩ (fun i d ρ1 hd hI => ?_) (fun ρ1 hI => by rw [enumD_len, List.length_map] at hI; exact hI)) (fun ρ1 e1 => ?_)
      · show [_, _, SD.d (.int ((zs kn).length : Nat)), _, _, _] = _
        rw [List.length_map]
      · obtain ⟨x, hx, rfl⟩ := enumD_get hd
        obtain ⟨a, ha, rfl⟩ := nts_get hx
        rw [Nat.zero_add]
        refine ⟨⟨_, _, rfl⟩, ?_⟩
        obtain ⟨ad, k1, ext, s3, s4, s5, rfl, hk1, e1, hst⟩ := hI
        have a2 := hM.ar2 ha
        have l1 := hk1.len hM
        refine xss_one (xs_for (I := fun ds j ρ => ∃ ad kn' ext s5, ρ = [.d (encA M), .ok ad (zs kn'), .d (nt kn.length), .d (nt i), .d (nt a), s5] ∧ Kn M kn' ∧ kn' = kn ++ ext ∧ stepsIn M kn kn' i ∧ ∀ (j' : Nat) (row : List Nat), j' < j → ds[j']? = some (encR row) → M.step i row ∈ kn')
          (xi_new (Φ := fun z => ∃ ms : List Nat, ms.Perm k1 ∧ z = encRs (rowsL ms a)) (xf_call (c_rows_of T) hr (Aa := fun rs => ∃ ms : List Nat, ms.Perm k1 ∧ rs = [.l (nts ms), .d (nt a)]) (xa_consN (XF.toE (xf_sortedZ (xe_varK 1 rfl (pv 1)) (by omega) T.b_sorted)) (xa_cons (xe_var 4 rfl (pv 4)) xa_nil) ?_) ?_)) (pg_name (i := 5) sc_reachable.nd rfl (by first | exact .inl rfl | exact .inr rfl)) (sg_name 5) ?_ (fun ds j d ρ1 hp hd hI => ⟨trivial, ?_⟩) (fun ds ρ1 hp hI => ?_))
        · rintro r rs ⟨ds, rfl, ms, rfl, pm⟩ rfl
          exact ⟨ms, pm, rfl⟩
        · rintro rs ⟨ms, pm, rfl⟩
          exact ⟨⟨(ms, a), by rw [pm.length_eq]; exact l1, a2⟩, rfl, fun r hr => ⟨_, hr, ms, pm, rfl⟩⟩
        · rintro ds ⟨ms, pm, rfl⟩
          exact ⟨ad, k1, ext, s5, rfl, hk1, e1, hst, fun j' row h => absurd h (by omega)⟩
        · obtain ⟨ms, pm, rfl⟩ := hp
          rw [List.getElem?_map] at hd
          cases hrow : (rowsL ms a)[j]? with
          | none => rw [hrow] at hd; cases hd
          | some row =>
            rw [hrow] at hd
            cases hd
            obtain ⟨ad, k2, ext2, s5, rfl, hk2, e2, hst2, hdone⟩ := hI
            obtain ⟨r1, r2⟩ := mem_rowsL.mp (List.mem_of_getElem? hrow)
            have hre : ∀ s ∈ row, Reached M s := fun s m => hk1.re s (pm.mem_iff.mp (r2 s m))
            have hars : M.ar[i]? = some row.length := by rw [r1]; exact ha
            have l2 := hk2.len hM
            refine xss_cons (xs_putI 1 rfl (pv 1) (xe_callD (c_next_state T) hr ⟨M, hM, i, row, hars, fun s m => (hre s m).lt hM⟩ (xa_cons (xe_var 0 rfl (pv 0)) (xa_cons (xe_var 3 rfl (pv 3)) (xa_cons (xe_var 5 rfl (pv 5)) xa_nil))) fun r h => h) ?_ ?_ (hu_of hr)) (fun ρ1 ⟨k, hk, e3⟩ => ?_)
            · exact fun r hr => ⟨_, hr⟩
            · rw [List.length_map]; omega
            · subst e3
              cases hk
              obtain ⟨ex, hex⟩ := putS_pre (ks := k2) (k := M.step i row)
              refine xss_nil ⟨ad, putS k2 (M.step i row), ext2 ++ ex, .d (encR row), ?_, hk2.put (.mk i row.length row hars rfl hre), by rw [hex, e2, List.append_assoc], fun sym rw' h1 h2 h3 => ?_, fun j' rw' h1 h2 => ?_⟩
              · show [_, SD.ok ad (putI (zs k2) ((M.step i row : Nat) : Int)), _, _, _, _] = _
                rw [zs_put]
              · exact mem_putS.mpr (.inl (hst2 sym rw' h1 h2 h3))
              · rcases Nat.lt_succ_iff_lt_or_eq.mp h1 with h1 | rfl
                · exact mem_putS.mpr (.inl (hdone j' rw' h1 h2))
                · rw [List.getElem?_map, hrow] at h2
                  have e3 : encR row = encR rw' := Option.some.inj h2
                  injection e3 with e3
                  have e4 : row = rw' := by
                    have inj : ∀ {p q : List Nat}, nts p = nts q → p = q := by
                      intro p
                      induction p with
                      | nil => intro q h; cases q with
                        | nil => rfl
                        | cons _ _ => cases h
                      | cons x p ih => intro q h; cases q with
                        | nil => cases h
                        | cons y q =>
                          injection h with h1 h2
                          injection h1 with h1
                          rw [ih h2, Int.ofNat.inj h1]
                    exact inj e3
                  rw [← e4]
                  exact mem_putS.mpr (.inr rfl)
        · obtain ⟨ms, pm, rfl⟩ := hp
          obtain ⟨ad, k2, ext2, s5, rfl, hk2, e2, hst2, hdone⟩ := hI
          refine ⟨ad, k2, ext2, _, _, s5, rfl, hk2, e2, fun sym row h1 h2 h3 => ?_⟩
          rcases Nat.lt_succ_iff_lt_or_eq.mp h1 with h1 | rfl
          · exact hst2 sym row h1 h2 h3
          · rw [ha] at h2
            have hm : row ∈ rowsL ms a := mem_rowsL.mpr ⟨(Option.some.inj h2).symm, fun s m => pm.mem_iff.mpr (by rw [e1]; exact List.mem_append_left _ (h3 s m))⟩
            obtain ⟨j, hj⟩ := List.mem_iff_getElem?.mp hm
            refine hdone j row ?_ (by rw [List.getElem?_map, hj]; rfl)
            rw [List.length_map]
            exact (List.getElem?_eq_some_iff.mp hj).1
      · obtain ⟨ad, k1, ext, s3, s4, s5, rfl, hk1, e1, hst⟩ := e1
        refine xss_nil ⟨(4 - (kn.length : Int)).toNat, by omega, ad, k1, _, s3, s4, s5, rfl, hk1, rfl, ?_, .inr ⟨kn, ext, e1, rfl, hst⟩⟩
        rw [e1, List.length_append]
        omega
    · have hge : ¬ b < kn.length := by simpa using hb1
      refine ⟨ad, kn, _, s3, s4, s5, rfl, hk, fun s hs => ?_⟩
      rcases hprev with e | ⟨prev, ext, e1, e2, hst⟩
      · omega
      · have : ext = [] := by
          refine List.eq_nil_of_length_eq_zero ?_
          rw [e1, List.length_append] at hge
          omega
        subst this
        rw [List.append_nil] at e1
        subst e1
        exact reached_closed (fun sym row h1 h2 => hst sym row (List.getElem?_eq_some_iff.mp h1).1 h1 h2) hs
  · obtain ⟨ad, kn, s2, s3, s4, s5, rfl, hk, hall⟩ := e1
    have l1 := hk.len hM
    refine xss_one (xs_ret (xe_tupleN (Θ := fun r => ∃ rs : List Nat, r = .d (.tuple (nts rs)) ∧ rs.Nodup ∧ ∀ s, s ∈ rs ↔ Reached M s) (XF.toE (xf_sortedZ (xe_varK 1 rfl (pv 1)) (by omega) T.b_sorted)) ?_ T.b_tuple) ?_)
    · rintro ds ⟨ms, rfl, pm⟩
      exact ⟨ms, rfl, pm.nodup_iff.mpr hk.nd, fun s => ⟨fun m => hk.re s (pm.mem_iff.mp m), fun m => pm.mem_iff.mpr (hall s m)⟩⟩
    · rintro r ⟨rs, rfl, h⟩
      exact ⟨⟨_, rfl⟩, rs, rfl, h⟩
end
end PW

-- W4
/-! W4: made_by, layers_of, pairs_at. -/
namespace PW
open PySem PySem.Spec PyProof.Rows L2 PL Ma
section
variable {P : Program} {w : World} {K : PySem.W.Frag} {mg : Str → Option Value} {base : Heap}
abbrev encL (L : List P2) : PyData := .tuple (L.map encP)
def kp (p : P2) : List Int := [(p.1 : Int), (p.2 : Int)]
theorem kp_inj {p q : P2} (h : kp p = kp q) : p = q := by
  unfold kp at h
  injection h with h1 h2
  injection h2 with h2 _
  exact Prod.ext (by omega) (by omega)
theorem put_map {α : Type} [DecidableEq α] (f : α → List Int) (inj : ∀ p q, f p = f q → p = q) (l : List α) (k : α) : putL (l.map f) (f k) = (putS l k).map f := by
  unfold putL putS
  have : (f k ∈ l.map f) ↔ k ∈ l := by
    rw [List.mem_map]
    constructor
    · rintro ⟨n, hn, e⟩; exact inj _ _ e ▸ hn
    · exact fun h => ⟨k, h, rfl⟩
  by_cases h : k ∈ l
  · rw [if_pos h, if_pos (this.mpr h)]
  · rw [if_neg h, if_neg (fun z => h (this.mp z)), List.map_append]; rfl
theorem kp_put (l : List P2) (p : P2) : putL (l.map kp) (kp p) = (putS l p).map kp := put_map kp (fun _ _ => kp_inj) l p
theorem encL_kp (l : List P2) : (l.map kp).map encK = l.map encP := by rw [List.map_map]; rfl
/-- a layer of pairs below n, distinct -/
structure Lay (A : Au) (L : List P2) : Prop where
  nd : L.Nodup
  lt : ∀ p ∈ L, p.1 < A.n ∧ p.2 < A.n
theorem Lay.len {A : Au} (w : A.Wf) {L : List P2} (h : Lay A L) : L.length ≤ 16 := nodup_P h.nd fun p hp => by
  have := h.lt p hp
  have := w.n4
  exact ⟨by omega, by omega⟩
theorem mapInt_inj : ∀ {a b : List Int}, a.map PyData.int = b.map PyData.int → a = b
  | [], [], _ => rfl
  | [], _ :: _, h => by cases h
  | _ :: _, [], h => by cases h
  | x :: a, y :: b, h => by
    injection h with h1 h2
    injection h1 with h1
    rw [h1, mapInt_inj h2]
theorem kT_inj {p : P2} {k : List Int} (h : SD.d (.tuple (k.map PyData.int)) = SD.d (encP p)) : k = kp p := by
  injection h with h
  injection h with h
  exact mapInt_inj (b := kp p) h
def F_made_by : FS {x : Au × List P2 // x.1.Wf ∧ Lay x.1 x.2} := ⟨fun a => [.d (encA a.1.1), .d (encL a.1.2)], fun a r => ∃ L : List P2, r = .d (encL L) ∧ L.Nodup ∧ ∀ p, p ∈ L ↔ Made a.1.1 (· ∈ a.1.2) p⟩
/-- the found pairs stand for D -/
structure Fd (A : Au) (ks D : List P2) : Prop where
  ok : Ok ks D
  lt : ∀ p ∈ ks, p.1 < A.n ∧ p.2 < A.n
theorem Fd.len {A : Au} (w : A.Wf) {ks D : List P2} (h : Fd A ks D) : ks.length ≤ 16 := Lay.len w ⟨h.ok.nd, h.lt⟩
theorem Fd.put {A : Au} {ks D : List P2} (h : Fd A ks D) {p : P2} (l : p.1 < A.n ∧ p.2 < A.n) : Fd A (putS ks p) (D ++ [p]) := ⟨h.ok.put p, fun q m => by
  rcases mem_putS.mp m with m | rfl
  · exact h.lt q m
  · exact l⟩
theorem encL_get {L : List P2} {i : Nat} {d : PyData} (h : (L.map encP)[i]? = some d) : ∃ p, L[i]? = some p ∧ d = encP p := by
  rw [List.getElem?_map] at h
  cases e : L[i]? with
  | none => rw [e] at h; cases h
  | some x => rw [e] at h; exact ⟨x, rfl, (Option.some.inj h).symm⟩
theorem take_snoc {α : Type} {l : List α} {i : Nat} {x : α} (h : l[i]? = some x) : l.take (i + 1) = l.take i ++ [x] := by rw [List.take_add_one, h]; rfl
theorem c_made_by (T : Tx K mg) : Cl P w K mg base 2 "made_by" F_made_by.sp := by
  refine cl_mk F_made_by T.f_made_by sc_made_by (fun _ => rfl) (fun _ => rfl) (by decide) ?_
  intro f cdv A outer s H E hr ⟨⟨M, L⟩, hM, hL⟩
  dsimp only at hM hL
  have hn4 := hM.n4
  refine xss_cons (xs_newT 2 sc_made_by.nd) (fun ρ1 ⟨ad, e1⟩ => ?_)
  subst e1
  refine xss_cons (M := fun ρ => ∃ ad ks s3 s4 s5 s6 s7 s8, ρ = [.d (encA M), .d (encL L), .ot ad (ks.map kp), s3, s4, s5, s6, s7, s8] ∧ Fd M ks (upTo M (madeSym M L) M.ar.length))
    (xs_forD (I := fun i ρ => ∃ ad ks s3 s4 s5 s6 s7 s8, ρ = [.d (encA M), .d (encL L), .ot ad (ks.map kp), s3, s4, s5, s6, s7, s8] ∧ Fd M ks (upTo M (madeSym M L) i)) (xi_enum (xe_ixT (xe_var 0 rfl (pv 0)) xe_int enc_ar) T.b_enumerate) (pg_tup rfl (pgs_cons (pg_name (i := 3) sc_made_by.nd rfl (by first | exact .inl rfl | exact .inr rfl)) (pgs_cons (pg_name (i := 4) sc_made_by.nd rfl (by first | exact .inl rfl | exact .inr rfl)) pgs_nil))) (sg_pair 3 4)
      ⟨ad, [], .no, .no, .no, .no, .no, .no, rfl, ⟨⟨by simp, by simp [upTo_zero]⟩, by simp⟩⟩ (fun i d ρ1 hd hI => ?_) (fun ρ1 hI => by rw [enumD_len, List.length_map] at hI; exact hI)) (fun ρ1 e1 => ?_)
  · obtain ⟨x, hx, rfl⟩ := enumD_get hd
    obtain ⟨a, ha, rfl⟩ := nts_get hx
    rw [Nat.zero_add]
    refine ⟨⟨_, _, rfl⟩, ?_⟩
    obtain ⟨ad, ks, s3, s4, s5, s6, s7, s8, rfl, hk⟩ := hI
    have a2 := hM.ar2 ha
    rw [upTo_succ ha]
    generalize hD : upTo M (madeSym M L) i = D at hk ⊢
    rcases (by omega : a = 0 ∨ a = 1 ∨ a = 2) with rfl | rfl | rfl
    · -- no place
      have l0 := hk.len hM
      refine xss_ifY (M := fun ρ => ∃ ad ks s5, ρ = [.d (encA M), .d (encL L), .ot ad (ks.map kp), .d (nt i), .d (nt 0), s5, s6, s7, s8] ∧ Fd M ks (D ++ madeSym M L i 0)) (xt_eqI (xe_var 4 rfl (pv 4)) xe_int) rfl ?_ (fun ρ1 e1 => ?_)
      · refine xss_set 5 (xe_callD (c_next_state T) hr ⟨M, hM, i, [], ha, by simp⟩ (xa_cons (xe_var 0 rfl (pv 0)) (xa_cons (xe_var 3 rfl (pv 3)) (xa_cons (xe_tupA xd_nil) xa_nil))) fun r h => h) ?_ sc_made_by.nd
        refine xss_cons (xs_putL 2 rfl (pv 2) (xe_tupA (xd_cons (xe_var 5 rfl (pv 5)) (xd_cons (xe_var 5 rfl (pv 5)) xd_nil))) (fun r h => ⟨kp (M.step i [], M.step i []), h⟩) ?_ (hu_of hr)) (fun ρ1 ⟨k, e1, e2⟩ => ?_)
        · rw [List.length_map]; omega
        · cases kT_inj (p := (M.step i [], M.step i [])) e1
          subst e2
          exact xss_nil ⟨ad, putS ks (M.step i [], M.step i []), .d (nt (M.step i [])), by rw [← kp_put]; rfl, hk.put ⟨hM.lt ha rfl (by simp), hM.lt ha rfl (by simp)⟩⟩
      · obtain ⟨ad, ks, s5, rfl, hk⟩ := e1
        refine xss_for0 (xi_tupD (xe_if (xt_gtI (xe_var 4 rfl (pv 4)) xe_int) (fun h => absurd h (by decide)) (fun _ => (xe_tupA xd_nil)))) (pg_name (i := 6) sc_made_by.nd rfl (by first | exact .inl rfl | exact .inr rfl)) (sg_name 6) ?_
        exact xss_nil ⟨ad, ks, _, _, _, _, _, _, rfl, hk⟩
    · -- one place
      refine xss_ifF (xt_eqI (xe_var 4 rfl (pv 4)) xe_int) rfl ?_
      refine xss_one (xs_forD (I := fun j ρ => ∃ ad ks s5 s6 s7 s8, ρ = [.d (encA M), .d (encL L), .ot ad (ks.map kp), .d (nt i), .d (nt 1), s5, s6, s7, s8] ∧ Fd M ks (D ++ (L.take j).map fun p => (M.step i [p.1], M.step i [p.2]))) (xi_tupD (ds := L.map encP) (xe_if (xt_gtI (xe_var 4 rfl (pv 4)) xe_int) (fun _ => (xe_var 1 rfl (pv 1))) (fun h => absurd h (by decide)))) (pg_name (i := 6) sc_made_by.nd rfl (by first | exact .inl rfl | exact .inr rfl)) (sg_name 6)
        ⟨ad, ks, s5, s6, s7, s8, rfl, by simpa using hk⟩ (fun j d ρ1 hd hI => ⟨trivial, ?_⟩) (fun ρ1 hI => ?_))
      · obtain ⟨p, hp, rfl⟩ := encL_get hd
        obtain ⟨ad, ks, s5, s6, s7, s8, rfl, hk⟩ := hI
        have l0 := hk.len hM
        have hpl := hL.lt p (List.mem_of_getElem? hp)
        refine xss_ifY (M := fun ρ => ∃ ad ks s5 s6 s7 s8, ρ = [.d (encA M), .d (encL L), .ot ad (ks.map kp), .d (nt i), .d (nt 1), s5, s6, s7, s8] ∧ Fd M ks (D ++ (L.take (j + 1)).map fun p => (M.step i [p.1], M.step i [p.2]))) (xt_eqI (xe_var 4 rfl (pv 4)) xe_int) rfl ?_ (fun ρ1 e1 => ?_)
        · refine xss_cons (xs_putL 2 rfl (pv 2) (xe_tupA (xd_cons (xe_callD (c_next_state T) hr ⟨M, hM, i, [p.1], ha, by simpa using hpl.1⟩ (xa_cons (xe_var 0 rfl (pv 0)) (xa_cons (xe_var 3 rfl (pv 3)) (xa_cons (xe_slT (xe_var 6 rfl (pv 6)) xo_none (xo_some xe_int)) xa_nil))) fun r h => h) (xd_cons (xe_callD (c_next_state T) hr ⟨M, hM, i, [p.2], ha, by simpa using hpl.2⟩ (xa_cons (xe_var 0 rfl (pv 0)) (xa_cons (xe_var 3 rfl (pv 3)) (xa_cons (xe_slT (xe_var 6 rfl (pv 6)) (xo_some xe_int) xo_none) xa_nil))) fun r h => h) xd_nil))) (fun r h => ⟨kp (M.step i [p.1], M.step i [p.2]), h⟩) ?_ (hu_of hr)) (fun ρ1 ⟨k, e1, e2⟩ => ?_)
          · rw [List.length_map]; omega
          · cases kT_inj (p := (M.step i [p.1], M.step i [p.2])) e1
            subst e2
            refine xss_nil ⟨ad, putS ks (M.step i [p.1], M.step i [p.2]), s5, .d (encP p), s7, s8, by rw [← kp_put]; rfl, ?_⟩
            rw [take_snoc hp, List.map_append, ← List.append_assoc]
            exact hk.put ⟨hM.lt ha rfl (by simpa using hpl.1), hM.lt ha rfl (by simpa using hpl.2)⟩
        · obtain ⟨ad, ks, s5, s6, s7, s8, rfl, hk⟩ := e1
          refine xss_for0 (xi_tupD (xe_if (xt_eqI (xe_var 4 rfl (pv 4)) xe_int) (fun h => absurd h (by decide)) (fun _ => (xe_tupA xd_nil)))) (pg_name (i := 7) sc_made_by.nd rfl (by first | exact .inl rfl | exact .inr rfl)) (sg_name 7) ?_
          exact xss_nil ⟨ad, ks, _, _, _, _, rfl, hk⟩
      · rw [List.length_map, List.take_length] at hI
        obtain ⟨ad, ks, s5, s6, s7, s8, rfl, hk⟩ := hI
        exact ⟨ad, ks, _, _, _, _, _, _, rfl, hk⟩
    · -- two places
      refine xss_ifF (xt_eqI (xe_var 4 rfl (pv 4)) xe_int) rfl ?_
      refine xss_one (xs_forD (I := fun j ρ => ∃ ad ks s5 s6 s7 s8, ρ = [.d (encA M), .d (encL L), .ot ad (ks.map kp), .d (nt i), .d (nt 2), s5, s6, s7, s8] ∧ Fd M ks (D ++ (L.take j).flatMap fun p => L.map fun q => (M.step i [p.1, q.1], M.step i [p.2, q.2]))) (xi_tupD (ds := L.map encP) (xe_if (xt_gtI (xe_var 4 rfl (pv 4)) xe_int) (fun _ => (xe_var 1 rfl (pv 1))) (fun h => absurd h (by decide)))) (pg_name (i := 6) sc_made_by.nd rfl (by first | exact .inl rfl | exact .inr rfl)) (sg_name 6)
        ⟨ad, ks, s5, s6, s7, s8, rfl, by simpa using hk⟩ (fun j d ρ1 hd hI => ⟨trivial, ?_⟩) (fun ρ1 hI => ?_))
      · obtain ⟨p, hp, rfl⟩ := encL_get hd
        obtain ⟨ad, ks, s5, s6, s7, s8, rfl, hk⟩ := hI
        have hpl := hL.lt p (List.mem_of_getElem? hp)
        refine xss_ifF (xt_eqI (xe_var 4 rfl (pv 4)) xe_int) rfl ?_
        refine xss_one (xs_forD (I := fun jj ρ => ∃ ad ks s5 s7 s8, ρ = [.d (encA M), .d (encL L), .ot ad (ks.map kp), .d (nt i), .d (nt 2), s5, .d (encP p), s7, s8] ∧ Fd M ks ((D ++ (L.take j).flatMap fun p => L.map fun q => (M.step i [p.1, q.1], M.step i [p.2, q.2])) ++ (L.take jj).map fun q => (M.step i [p.1, q.1], M.step i [p.2, q.2]))) (xi_tupD (ds := L.map encP) (xe_if (xt_eqI (xe_var 4 rfl (pv 4)) xe_int) (fun _ => (xe_var 1 rfl (pv 1))) (fun h => absurd h (by decide)))) (pg_name (i := 7) sc_made_by.nd rfl (by first | exact .inl rfl | exact .inr rfl)) (sg_name 7)
          ⟨ad, ks, s5, s7, s8, rfl, by simpa using hk⟩ (fun jj d ρ1 hd hI => ⟨trivial, ?_⟩) (fun ρ1 hI => ?_))
        · obtain ⟨q, hq, rfl⟩ := encL_get hd
          obtain ⟨ad, ks, s5, s7, s8, rfl, hk⟩ := hI
          have l0 := hk.len hM
          have hql := hL.lt q (List.mem_of_getElem? hq)
          have b1 : ∀ s ∈ [p.1, q.1], s < M.n := by simpa using ⟨hpl.1, hql.1⟩
          have b2 : ∀ s ∈ [p.2, q.2], s < M.n := by simpa using ⟨hpl.2, hql.2⟩
          refine xss_set 8 (xe_callD (c_next_state T) hr ⟨M, hM, i, [p.1, q.1], ha, b1⟩ (xa_cons (xe_var 0 rfl (pv 0)) (xa_cons (xe_var 3 rfl (pv 3)) (xa_cons (xe_tupA (xd_cons (xe_ixT (xe_var 6 rfl (pv 6)) xe_int rfl) (xd_cons (xe_ixT (xe_var 7 rfl (pv 7)) xe_int rfl) xd_nil))) xa_nil))) fun r h => h) ?_ sc_made_by.nd
          refine xss_cons (xs_putL 2 rfl (pv 2) (xe_tupA (xd_cons (xe_var 8 rfl (pv 8)) (xd_cons (xe_callD (c_next_state T) hr ⟨M, hM, i, [p.2, q.2], ha, b2⟩ (xa_cons (xe_var 0 rfl (pv 0)) (xa_cons (xe_var 3 rfl (pv 3)) (xa_cons (xe_tupA (xd_cons (xe_ixT (xe_var 6 rfl (pv 6)) xe_int rfl) (xd_cons (xe_ixT (xe_var 7 rfl (pv 7)) xe_int rfl) xd_nil))) xa_nil))) fun r h => h) xd_nil))) (fun r h => ⟨kp (M.step i [p.1, q.1], M.step i [p.2, q.2]), h⟩) ?_ (hu_of hr)) (fun ρ1 ⟨k, e1, e2⟩ => ?_)
          · rw [List.length_map]; omega
          · cases kT_inj (p := (M.step i [p.1, q.1], M.step i [p.2, q.2])) e1
            subst e2
            refine xss_nil ⟨ad, putS ks (M.step i [p.1, q.1], M.step i [p.2, q.2]), s5, .d (encP q), .d (nt (M.step i [p.1, q.1])), by rw [← kp_put]; rfl, ?_⟩
            rw [take_snoc hq, List.map_append, ← List.append_assoc]
            exact hk.put ⟨hM.lt ha rfl b1, hM.lt ha rfl b2⟩
        · rw [List.length_map, List.take_length] at hI
          obtain ⟨ad, ks, s5, s7, s8, rfl, hk⟩ := hI
          refine ⟨ad, ks, _, _, _, _, rfl, ?_⟩
          rw [take_snoc hp, List.flatMap_append, List.flatMap_singleton, ← List.append_assoc]
          exact hk
      · rw [List.length_map, List.take_length] at hI
        obtain ⟨ad, ks, s5, s6, s7, s8, rfl, hk⟩ := hI
        exact ⟨ad, ks, _, _, _, _, _, _, rfl, hk⟩
  · obtain ⟨ad, ks, s3, s4, s5, s6, s7, s8, rfl, hk⟩ := e1
    refine xss_one (xs_ret (xe_tupleN (Θ := fun r => ∃ L' : List P2, r = .d (encL L') ∧ L'.Nodup ∧ ∀ p, p ∈ L' ↔ Made M (· ∈ L) p) (XF.toE (xf_sortedT (xe_varT 2 rfl (pv 2)) ?_ T.b_sorted)) ?_ T.b_tuple) ?_)
    · intro k hk2
      obtain ⟨p, _, rfl⟩ := List.mem_map.mp hk2
      exact fun h => nomatch h
    · rintro ds ⟨ms, rfl, pm⟩
      obtain ⟨ns, rfl, pn⟩ := perm_map_inv pm.symm rfl
      refine ⟨ns, by rw [encL_kp], pn.nodup_iff.mpr hk.ok.nd, fun p => ?_⟩
      rw [pn.mem_iff, hk.ok.mem, made_iff hM]
    · rintro r ⟨L', rfl, h⟩
      exact ⟨⟨_, rfl⟩, L', rfl, h⟩
end
end PW

-- W5
/-! W5: layers_of, pairs_at. -/
namespace PW
open PySem PySem.Spec PyProof.Rows L2 PL Ma
section
variable {P : Program} {w : World} {K : PySem.W.Frag} {mg : Str → Option Value} {base : Heap}
def pairsOf2 (rs : List Nat) : List P2 := rs.flatMap fun x => rs.map fun y => (x, y)
theorem pairs_first (rs : List Nat) : ((nts rs).flatMap fun d => (nts rs).map fun e => PyData.tuple [d, e]) = (pairsOf2 rs).map encP := by
  simp only [pairsOf2, List.flatMap_map, List.map_flatMap, List.map_map]
  rfl
theorem layer0 {A : Au} {rs : List Nat} (nd : rs.Nodup) (h : ∀ s, s ∈ rs ↔ Reached A s) : LayerOk A 0 (pairsOf2 rs) := by
  refine ⟨?_, fun p => ?_⟩
  · unfold pairsOf2
    rw [List.nodup_iff_pairwise_ne, List.pairwise_flatMap]
    refine ⟨fun x _ => ?_, ?_⟩
    · rw [List.pairwise_map]
      exact List.Pairwise.imp (fun h e => h (by injection e)) nd
    · refine List.Pairwise.imp (fun {x y} hne a ha b hb e => ?_) nd
      obtain ⟨_, _, rfl⟩ := List.mem_map.mp ha
      obtain ⟨_, _, rfl⟩ := List.mem_map.mp hb
      injection e with e _
      exact hne e
  · unfold pairsOf2
    simp only [List.mem_flatMap, List.mem_map]
    constructor
    · rintro ⟨x, hx, y, hy, rfl⟩
      exact ⟨(h x).mp hx, (h y).mp hy⟩
    · rintro ⟨h1, h2⟩
      exact ⟨p.1, (h p.1).mpr h1, p.2, (h p.2).mpr h2, rfl⟩
theorem reach_len {A : Au} (w : A.Wf) {rs : List Nat} (nd : rs.Nodup) (h : ∀ s, s ∈ rs ↔ Reached A s) : rs.length ≤ 4 := Kn.len w ⟨nd, fun s m => (h s).mp m⟩
theorem lay_of {A : Au} (w : A.Wf) {J : Nat} {L : List P2} (h : LayerOk A J L) : Lay A L := ⟨h.nd, h.lt w⟩
/-- the layers from 0 on -/
def LaysOk (A : Au) (Ls : List (List P2)) : Prop := ∀ (j : Nat) L, Ls[j]? = some L → LayerOk A j L
def F_layers_of : FS {x : Au × Nat // x.1.Wf ∧ 1 ≤ x.2 ∧ x.2 ≤ 100} := ⟨fun a => [.d (encA a.1.1), .d (nt a.1.2)], fun a r => ∃ Ls : List (List P2), r = .l (Ls.map encL) ∧ Ls.length = a.1.2 ∧ LaysOk a.1.1 Ls⟩
theorem c_layers_of (T : Tx K mg) : Cl P w K mg base 3 "layers_of" F_layers_of.sp := by
  refine cl_mk F_layers_of T.f_layers_of sc_layers_of (fun _ => rfl) (fun _ => rfl) (by decide) ?_
  intro f cdv A outer s H E hr ⟨⟨M, many⟩, hM, m1, m2⟩
  dsimp only at hM m1 m2
  refine xss_setN 2 (Φ := fun r => ∃ rs : List Nat, r = .d (.tuple (nts rs)) ∧ rs.Nodup ∧ ∀ s, s ∈ rs ↔ Reached M s) (xe_call (c_reachable T) hr (Aa := fun rs => rs = [.d (encA M)]) (xa_cons (xe_var 0 rfl (pv 0)) xa_nil) (fun rs e => ⟨⟨M, hM⟩, e.symm, fun r ⟨rs, h1, h2⟩ => ⟨⟨_, h1⟩, rs, h1, h2⟩⟩)) (fun r ⟨rs, h, _⟩ => ⟨_, h⟩) (fun x ⟨rs, hx, nd, hall⟩ => ?_) sc_layers_of.nd
  cases hx
  have l4 := reach_len hM nd hall
  have hk : (nts rs).length ≤ 4 := by rw [List.length_map]; exact l4
  refine xss_setF 3 (xf_lstA (ds := [encL (pairsOf2 rs)]) (xd_cons (x := encL (pairsOf2 rs)) (xe_tuple (XF.toL (XF.weak (xf_lc2 (lc2_mk (own := [("one", 4), ("other", 5)]) (vs1 := [5]) (fun _ => nts rs) (fun d e => .tuple [d, e]) (XI.toC (xi_tupD (xe_var 2 rfl (pv 2)))) (sg_name 4) (sg_name 5) (flat_le 4 4 hk (fun _ _ => hk) (by decide)) (fun _ _ => by omega) (fun _ _ _ _ _ => (pg_name (i := 4) sc_layers_of.nd rfl (.inl rfl))) (fun _ _ _ _ _ => (pg_name (i := 5) sc_layers_of.nd rfl (.inl rfl)))
        (fun d hd => ⟨trivial, fun _ _ _ _ _ => xj_tup (xe_var 2 rfl (pv 2)), fun e he => ⟨trivial, fun _ _ _ _ _ => xe_tupA (xd_cons (xe_var 4 rfl (pv 4)) (xd_cons (xe_var 5 rfl (pv 5)) xd_nil))⟩⟩)) sc_layers_of.nd (blkOk_by (N := n_layers_of) (sc := defScope s_layers_of) (by decide +kernel))) fun z h => h.trans (pairs_first rs))) T.b_tuple) xd_nil)) (fun ad ds e1 => ?_) sc_layers_of.nd
  subst e1
  refine xss_cons (M := fun ρ => ∃ ad Ls, ρ = [.d (encA M), .d (nt many), .d (.tuple (nts rs)), .ol ad (Ls.map encL), .no, .no] ∧ Ls.length = many ∧ LaysOk M Ls)
    (xs_while (I := fun m ρ => ∃ ad Ls, ρ = [.d (encA M), .d (nt many), .d (.tuple (nts rs)), .ol ad (Ls.map encL), .no, .no] ∧ m = many - Ls.length ∧ Ls.length ≤ many ∧ 1 ≤ Ls.length ∧ LaysOk M Ls) (many - 1)
      ⟨ad, [pairsOf2 rs], rfl, rfl, m1, Nat.le_refl _, fun j L h => ?_⟩ (fun m ρ1 hI => ?_)) (fun ρ1 e1 => ?_)
  · match j, h with
    | 0, h => cases h; exact layer0 nd hall
  · obtain ⟨ad, Ls, rfl, rfl, hle, h1, hok⟩ := hI
    refine ⟨_, (xt_ltI (xe_lenL (xe_varO 3 rfl (pv 3)) T.b_len) (xe_var 1 rfl (pv 1))), fun hb => ?_, fun hb => ?_⟩
    · have hlt : Ls.length < many := by simpa using hb
      have hlast : Ls[Ls.length - 1]? = some Ls[Ls.length - 1] := List.getElem?_eq_getElem (by omega)
      generalize Ls[Ls.length - 1] = L at hlast
      have hL := hok _ L hlast
      refine xss_cons (xs_appN 3 rfl (pv 3) (Φ := fun r => ∃ L' : List P2, r = .d (encL L') ∧ L'.Nodup ∧ ∀ p, p ∈ L' ↔ Made M (· ∈ L) p) (xe_call (c_made_by T) hr (Aa := fun rs => rs = [.d (encA M), .d (encL L)]) (xa_cons (xe_var 0 rfl (pv 0)) (xa_cons (xe_ixL (xe_varO 3 rfl (pv 3)) xe_neg ?_) xa_nil)) (fun rs e => ⟨⟨(M, L), hM, lay_of hM hL⟩, e.symm, fun r ⟨rs, h1, h2⟩ => ⟨⟨_, h1⟩, rs, h1, h2⟩⟩)) (fun r ⟨_, h, _⟩ => ⟨_, h⟩) ?_ (fun te h => pe_bm PySem.F.plainAttrs_list PySem.F.slot_list_append PySem.F.type_list_append mt_append (pv 3) (pa_cons h pa_nil))) (fun ρ1 ⟨x, ⟨L', e1, nd', hm'⟩, e2⟩ => ?_)
      · rw [at_last (by rw [List.length_map]; omega), List.length_map, List.getElem?_map, hlast]
        rfl
      · rw [List.length_map]; omega
      · cases e1
        subst e2
        refine xss_nil ⟨many - (Ls.length + 1), by omega, ad, Ls ++ [L'], by rw [List.map_append]; rfl, by rw [List.length_append]; rfl, by rw [List.length_append]; exact hlt, by rw [List.length_append]; exact Nat.le_add_left _ _, fun j M' hj => ?_⟩
        by_cases hjl : j < Ls.length
        · rw [List.getElem?_append_left hjl] at hj
          exact hok j M' hj
        · rw [List.getElem?_append_right (by omega)] at hj
          have e0 : j - Ls.length = 0 := by
            have := (List.getElem?_eq_some_iff.mp hj).1
            simpa using this
          rw [e0] at hj
          cases hj
          have : j = (Ls.length - 1) + 1 := by omega
          rw [this]
          exact hL.next nd' hm'
    · have hge : ¬ Ls.length < many := by simpa using hb
      exact ⟨ad, Ls, rfl, by omega, hok⟩
  · obtain ⟨ad, Ls, rfl, hlen, hok⟩ := e1
    refine xss_one (xs_retF (xf_slL (xe_varO 3 rfl (pv 3)) xo_none (xo_some (xe_var 1 rfl (pv 1)))) ?_)
    rintro ds rfl
    refine ⟨Ls, ?_, hlen, hok⟩
    rw [cut_take, List.take_of_length_le (by rw [List.length_map]; omega)]
abbrev PArg := {x : Au × Nat // x.1.Wf ∧ x.2 ≤ 20}
def F_pairs_at : FS PArg := ⟨fun a => [.d (encA a.1.1), .d (nt a.1.2)], fun a r => ∃ L : List P2, r = .d (encL L) ∧ LayerOk a.1.1 a.1.2 L⟩
theorem c_pairs_at (T : Tx K mg) : Cl P w K mg base 4 "pairs_at" F_pairs_at.sp := by
  refine cl_mk F_pairs_at T.f_pairs_at sc_pairs_at (fun _ => rfl) (fun _ => rfl) (by decide) ?_
  intro f cdv A outer s H E hr ⟨⟨M, J⟩, hM, j20⟩
  dsimp only at hM j20
  refine xss_one (xs_ret (xe_ixLN (Θ := fun r => ∃ L : List P2, r = .d (encL L) ∧ LayerOk M J L) (XF.toE (xf_call (c_layers_of T) hr (Ψ := fun z => ∃ Ls : List (List P2), z = Ls.map encL ∧ Ls.length = J + 1 ∧ LaysOk M Ls) (Aa := fun rs => rs = [.d (encA M), .d (.int ((J : Int) + 1))]) (xa_cons (xe_var 0 rfl (pv 0)) (xa_cons (xe_add (xe_var 1 rfl (pv 1)) xe_int) xa_nil)) (fun rs e => ⟨⟨(M, J + 1), hM, by simp, by dsimp only; omega⟩, by rw [e]; rfl, fun r ⟨Ls, h1, h2⟩ => ⟨_, h1, Ls, rfl, h2⟩⟩))) (xe_var 1 rfl (pv 1)) ?_) ?_)
  · rintro x y ⟨ds, rfl, Ls, rfl, hl, hok⟩ rfl
    have hj : Ls[J]? = some Ls[J] := List.getElem?_eq_getElem (by omega)
    exact ⟨_, _, _, rfl, rfl, map_at hj, _, rfl, hok J _ hj⟩
  · rintro r ⟨L, rfl, h⟩
    exact ⟨⟨_, rfl⟩, L, rfl, h⟩
end
end PW

-- W6
/-! W6: climbs_from. -/
namespace PW
open PySem PySem.Spec PyProof.Rows L2 PL Ma
section
variable {P : Program} {w : World} {K : PySem.W.Frag} {mg : Str → Option Value} {base : Heap}
abbrev PC := PyData × P3
/-- climbs as climbs_from tells them -/
def climbS (A : Au) (L : List P2) (t : P3) (s : Nat) : Nat → List PC
  | 1 => [(.tuple [nt s, .int 0, .none], c1 A s t)]
  | 2 => L.flatMap fun p => [(.tuple [nt s, .int 0, encP p], cl A s t p), (.tuple [nt s, .int 1, encP p], cr A s t p)]
  | _ => []
theorem climbS_snd (A : Au) (L : List P2) (t : P3) (s : Nat) : ∀ a, (climbS A L t s a).map (·.2) = climbT A L t s a
  | 0 => rfl
  | 1 => rfl
  | 2 => by simp only [climbS, climbT, List.map_flatMap]; rfl
  | _ + 3 => rfl
theorem climbsS (A : Au) (L : List P2) (t : P3) : (upTo A (climbS A L t) A.ar.length).map (·.2) = climbs A L t := by
  unfold climbs Ma.upTo
  rw [List.map_flatMap]
  simp only [climbS_snd]
abbrev encC (c : PC) : PyData := .tuple [c.1, encT c.2]
theorem climbS_len {A : Au} {L : List P2} (hL : L.length ≤ 16) {t : P3} {s : Nat} : ∀ a, (climbS A L t s a).length ≤ 32
  | 0 => by simp [climbS]
  | 1 => by simp [climbS]
  | 2 => by
    have : (climbS A L t s 2).length = L.length * 2 := flat_const fun _ _ => rfl
    omega
  | _ + 3 => by simp [climbS]
structure ClimbArg where
  A : Au
  t : P3
  L : List P2
  wf : A.Wf
  lay : Lay A L
  lt : t.1 < A.n ∧ t.2.1 < A.n ∧ t.2.2 < A.n
def F_climbs_from : FS ClimbArg := ⟨fun a => [.d (encA a.A), .d (encT a.t), .d (encL a.L)], fun a r => r = .l ((upTo a.A (climbS a.A a.L a.t) a.A.ar.length).map encC)⟩
def fz (A : Au) (s : Nat) : PyData → PyData
  | .tuple [.int x, .int y] => nt (A.step s [x.toNat, y.toNat])
  | _ => .none
def fy (A : Au) (s : Nat) : PyData → PyData
  | .tuple [.int x, .int y] => nt (A.step s [y.toNat, x.toNat])
  | _ => .none
theorem zip3 {p q r x y z : Nat} {d : PyData} (h : d ∈ zipD [nt p, nt q, nt r] [nt x, nt y, nt z]) : d = encP (p, x) ∨ d = encP (q, y) ∨ d = encP (r, z) := by
  simpa [zipD] using h
theorem c_climbs_from (T : Tx K mg) : Cl P w K mg base 2 "climbs_from" F_climbs_from.sp := by
  refine cl_mk F_climbs_from T.f_climbs_from sc_climbs_from (fun _ => rfl) (fun _ => rfl) (by decide) ?_
  intro f cdv A outer s H E hr ⟨M, ⟨u1, u2, u3⟩, L, hM, hL, k1, k2, k3⟩
  have hlen := hL.len hM
  have hbound : ∀ i, i ≤ M.ar.length → (upTo M (climbS M L (u1, u2, u3)) i).length ≤ 128 := fun i hi => by
    have h1 := upTo_len hM (f := climbS M L (u1, u2, u3)) 32 (fun s a _ => climbS_len hlen a) i hi
    have h2 := (ar_small _ hM.ar).2.2
    omega
  refine xss_setF 3 (xf_lstA xd_nil) (fun ad ds e1 => ?_) sc_climbs_from.nd
  subst e1
  refine xss_cons (M := fun ρ => ∃ ad s4 s5 s7 s8 s9 s11, ρ = [.d (encA M), .d (encT (u1, u2, u3)), .d (encL L), .ol ad ((upTo M (climbS M L (u1, u2, u3)) M.ar.length).map encC), s4, s5, .no, s7, s8, s9, .no, s11])
    (xs_forD (I := fun i ρ => ∃ ad s4 s5 s7 s8 s9 s11, ρ = [.d (encA M), .d (encT (u1, u2, u3)), .d (encL L), .ol ad ((upTo M (climbS M L (u1, u2, u3)) i).map encC), s4, s5, .no, s7, s8, s9, .no, s11]) (xi_enum (xe_ixT (xe_var 0 rfl (pv 0)) xe_int enc_ar) T.b_enumerate) (pg_tup rfl (pgs_cons (pg_name (i := 4) sc_climbs_from.nd rfl (by first | exact .inl rfl | exact .inr rfl)) (pgs_cons (pg_name (i := 5) sc_climbs_from.nd rfl (by first | exact .inl rfl | exact .inr rfl)) pgs_nil))) (sg_pair 4 5)
      ⟨ad, _, _, _, _, _, _, rfl⟩ (fun i d ρ1 hd hI => ?_) (fun ρ1 hI => by rw [enumD_len, List.length_map] at hI; exact hI)) (fun ρ1 e1 => ?_)
  · obtain ⟨x, hx, rfl⟩ := enumD_get hd
    obtain ⟨a, ha, rfl⟩ := nts_get hx
    rw [Nat.zero_add]
    refine ⟨⟨_, _, rfl⟩, ?_⟩
    obtain ⟨ad, s4, s5, s7, s8, s9, s11, rfl⟩ := hI
    have a2 := hM.ar2 ha
    rw [upTo_succ ha]
    have hb := hbound i (Nat.le_of_lt (List.getElem?_eq_some_iff.mp ha).1)
    generalize upTo M (climbS M L (u1, u2, u3)) i = D at hb ⊢
    rcases (by omega : a = 0 ∨ a = 1 ∨ a = 2) with rfl | rfl | rfl
    · refine xss_ifF (xt_eqI (xe_var 5 rfl (pv 5)) xe_int) rfl ?_
      refine xss_for0 (xi_tupD (xe_if (xt_eqI (xe_var 5 rfl (pv 5)) xe_int) (fun h => absurd h (by decide)) (fun _ => (xe_tupA xd_nil)))) (pg_name (i := 7) sc_climbs_from.nd rfl (by first | exact .inl rfl | exact .inr rfl)) (sg_name 7) ?_
      exact xss_nil ⟨ad, _, _, _, _, _, _, by rw [show D ++ climbS M L (u1, u2, u3) i 0 = D from List.append_nil D]; rfl⟩
    · refine xss_ifY (M := fun ρ => ρ = [.d (encA M), .d (encT (u1, u2, u3)), .d (encL L), .ol ad ((D ++ climbS M L (u1, u2, u3) i 1).map encC), .d (nt i), .d (nt 1), .no, s7, s8, s9, .no, s11]) (xt_eqI (xe_var 5 rfl (pv 5)) xe_int) rfl ?_ (fun ρ1 e1 => ?_)
      · refine xss_cons (xs_appN 3 rfl (pv 3) (xe_tupA (xd_cons (xe_tupA (xd_cons (xe_var 4 rfl (pv 4)) (xd_cons xe_int (xd_cons xe_non xd_nil)))) (xd_cons (x := encT (c1 M i (u1, u2, u3))) (xe_tuple (XF.toL (XF.weak (xf_lcN (own := [("one", 6)]) (lcD (F := fun d => match d with
            | .int x => nt (M.step i [x.toNat])
            | _ => .none) (XI.toC (xi_tupD (xe_var 1 rfl (pv 1)))) (sg_name 6) (fun _ _ _ _ _ => (pg_name (i := 6) sc_climbs_from.nd rfl (by first | exact .inl rfl | exact .inr rfl))) (fun d hd => ⟨trivial, fun _ _ _ _ _ => ?_⟩) (by simp)) sc_climbs_from.nd (blkOk_by (N := n_climbs_from) (sc := defScope s_climbs_from) (by decide +kernel))) fun z h => h.trans (by rfl))) T.b_tuple) xd_nil))) (fun r h => ⟨_, h⟩) ?_ (fun te h => pe_bm PySem.F.plainAttrs_list PySem.F.slot_list_append PySem.F.type_list_append mt_append (pv 3) (pa_cons h pa_nil))) (fun ρ1 ⟨x, e1, e2⟩ => ?_)
        · have hx : ∃ x : Nat, d = nt x ∧ x < M.n := by
            simp only [List.mem_cons, List.not_mem_nil, or_false] at hd
            rcases hd with rfl | rfl | rfl
            · exact ⟨_, rfl, k1⟩
            · exact ⟨_, rfl, k2⟩
            · exact ⟨_, rfl, k3⟩
          obtain ⟨x, rfl, hx⟩ := hx
          exact (xe_callD (c_next_state T) hr ⟨M, hM, i, [x], ha, by simpa using hx⟩ (xa_cons (xe_var 0 rfl (pv 0)) (xa_cons (xe_var 4 rfl (pv 4)) (xa_cons (xe_tupA (xd_cons (xe_var 6 rfl (pv 6)) xd_nil)) xa_nil))) fun r h => h)
        · rw [List.length_map]; omega
        · cases e1
          subst e2
          exact xss_nil (by rw [List.map_append]; rfl)
      · subst e1
        refine xss_for0 (xi_tupD (xe_if (xt_eqI (xe_var 5 rfl (pv 5)) xe_int) (fun h => absurd h (by decide)) (fun _ => (xe_tupA xd_nil)))) (pg_name (i := 7) sc_climbs_from.nd rfl (by first | exact .inl rfl | exact .inr rfl)) (sg_name 7) ?_
        exact xss_nil ⟨ad, _, _, _, _, _, _, rfl⟩
    · refine xss_ifF (xt_eqI (xe_var 5 rfl (pv 5)) xe_int) rfl ?_
      refine xss_one (xs_forD (I := fun j ρ => ∃ s7 s8 s9 s11, ρ = [.d (encA M), .d (encT (u1, u2, u3)), .d (encL L), .ol ad ((D ++ (L.take j).flatMap fun p => [((.tuple [nt i, .int 0, encP p], cl M i (u1, u2, u3) p) : PC), (.tuple [nt i, .int 1, encP p], cr M i (u1, u2, u3) p)]).map encC), .d (nt i), .d (nt 2), .no, s7, s8, s9, .no, s11]) (xi_tupD (ds := L.map encP) (xe_if (xt_eqI (xe_var 5 rfl (pv 5)) xe_int) (fun _ => (xe_var 2 rfl (pv 2))) (fun h => absurd h (by decide)))) (pg_name (i := 7) sc_climbs_from.nd rfl (by first | exact .inl rfl | exact .inr rfl)) (sg_name 7)
        ⟨s7, s8, s9, s11, by rw [List.take_zero, List.flatMap_nil, List.append_nil]; rfl⟩ (fun j d ρ1 hd hI => ⟨trivial, ?_⟩) (fun ρ1 hI => ?_))
      · obtain ⟨p, hp, rfl⟩ := encL_get hd
        have hpl := hL.lt p (List.mem_of_getElem? hp)
        obtain ⟨s7, s8, s9, s11, rfl⟩ := hI
        have hj := (List.getElem?_eq_some_iff.mp hp).1
        have hflat : ((L.take j).flatMap fun p => [((.tuple [nt i, .int 0, encP p], cl M i (u1, u2, u3) p) : PC), (.tuple [nt i, .int 1, encP p], cr M i (u1, u2, u3) p)]).length ≤ 32 := by
          rw [flat_const (n := 2) fun _ _ => rfl, List.length_take]
          omega
        rw [take_snoc hp, List.flatMap_append, List.flatMap_singleton, ← List.append_assoc]
        generalize hD2 : D ++ ((L.take j).flatMap fun p => [((.tuple [nt i, .int 0, encP p], cl M i (u1, u2, u3) p) : PC), (.tuple [nt i, .int 1, encP p], cr M i (u1, u2, u3) p)]) = D2
        have hl2 : D2.length ≤ 160 := by rw [← hD2, List.length_append]; omega
        clear hD2 hflat
        have hz : ∀ d ∈ zipD [nt u1, nt u2, nt u3] [nt p.1, nt p.2, nt p.1], ∃ x y, d = encP (x, y) ∧ x < M.n ∧ y < M.n := fun d hd => by
          rcases zip3 hd with rfl | rfl | rfl
          · exact ⟨_, _, rfl, k1, hpl.1⟩
          · exact ⟨_, _, rfl, k2, hpl.2⟩
          · exact ⟨_, _, rfl, k3, hpl.1⟩
        refine xss_set 8 (xe_tupA (xd_cons (xe_ixT (xe_var 7 rfl (pv 7)) xe_int rfl) (xd_cons (xe_ixT (xe_var 7 rfl (pv 7)) xe_int rfl) (xd_cons (xe_ixT (xe_var 7 rfl (pv 7)) xe_int rfl) xd_nil)))) ?_ sc_climbs_from.nd
        refine xss_cons (xs_setLcN 9 (own := [("one", 6), ("other", 10)]) (lcD (F := fz M i) (XI.toC (xi_zip (xe_var 1 rfl (pv 1)) (xe_var 8 rfl (pv 8)) T.b_zip)) (sg_pair 6 10) (fun _ _ _ _ _ => (pg_tup rfl (pgs_cons (pg_name (i := 6) sc_climbs_from.nd rfl (by first | exact .inl rfl | exact .inr rfl)) (pgs_cons (pg_name (i := 10) sc_climbs_from.nd rfl (by first | exact .inl rfl | exact .inr rfl)) pgs_nil)))) (fun d hd => ?_) (by simp [zipD])) sc_climbs_from.nd (blkOk_by (N := n_climbs_from) (sc := defScope s_climbs_from) (by decide +kernel)) (sw_true rfl rfl rfl (by decide +kernel))) (fun ρ1 ⟨ad9, ds, e1, e2⟩ => ?_)
        · obtain ⟨x, y, rfl, hx, hy⟩ := hz d hd
          exact ⟨⟨_, _, rfl⟩, fun _ _ _ _ _ => (xe_callD (c_next_state T) hr ⟨M, hM, i, [x, y], ha, by simpa using ⟨hx, hy⟩⟩ (xa_cons (xe_var 0 rfl (pv 0)) (xa_cons (xe_var 4 rfl (pv 4)) (xa_cons (xe_tupA (xd_cons (xe_var 6 rfl (pv 6)) (xd_cons (xe_var 10 rfl (pv 10)) xd_nil))) xa_nil))) fun r h => h)⟩
        subst e1 e2
        refine xss_cons (xs_setLcN 11 (own := [("one", 6), ("other", 10)]) (lcD (F := fy M i) (XI.toC (xi_zip (xe_var 1 rfl (pv 1)) (xe_var 8 rfl (pv 8)) T.b_zip)) (sg_pair 6 10) (fun _ _ _ _ _ => (pg_tup rfl (pgs_cons (pg_name (i := 6) sc_climbs_from.nd rfl (by first | exact .inl rfl | exact .inr rfl)) (pgs_cons (pg_name (i := 10) sc_climbs_from.nd rfl (by first | exact .inl rfl | exact .inr rfl)) pgs_nil)))) (fun d hd => ?_) (by simp [zipD])) sc_climbs_from.nd (blkOk_by (N := n_climbs_from) (sc := defScope s_climbs_from) (by decide +kernel)) (sw_true rfl rfl rfl (by decide +kernel))) (fun ρ1 ⟨ad11, ds, e1, e2⟩ => ?_)
        · obtain ⟨x, y, rfl, hx, hy⟩ := hz d hd
          exact ⟨⟨_, _, rfl⟩, fun _ _ _ _ _ => (xe_callD (c_next_state T) hr ⟨M, hM, i, [y, x], ha, by simpa using ⟨hy, hx⟩⟩ (xa_cons (xe_var 0 rfl (pv 0)) (xa_cons (xe_var 4 rfl (pv 4)) (xa_cons (xe_tupA (xd_cons (xe_var 10 rfl (pv 10)) (xd_cons (xe_var 6 rfl (pv 6)) xd_nil))) xa_nil))) fun r h => h)⟩
        subst e1 e2
        refine xss_cons (xs_appN 3 rfl (pv 3) (xe_tupA (xd_cons (xe_tupA (xd_cons (xe_var 4 rfl (pv 4)) (xd_cons xe_int (xd_cons (xe_var 7 rfl (pv 7)) xd_nil)))) (xd_cons (x := encT (cl M i (u1, u2, u3) p)) (xe_tuple (xe_varO 9 rfl (pv 9)) T.b_tuple) xd_nil))) (fun r h => ⟨_, h⟩) ?_ (fun te h => pe_bm PySem.F.plainAttrs_list PySem.F.slot_list_append PySem.F.type_list_append mt_append (pv 3) (pa_cons h pa_nil))) (fun ρ1 ⟨x, e1, e2⟩ => ?_)
        · rw [List.length_map]; omega
        cases e1
        subst e2
        refine xss_cons (xs_appN 3 rfl (pv 3) (xe_tupA (xd_cons (xe_tupA (xd_cons (xe_var 4 rfl (pv 4)) (xd_cons xe_int (xd_cons (xe_var 7 rfl (pv 7)) xd_nil)))) (xd_cons (x := encT (cr M i (u1, u2, u3) p)) (xe_tuple (xe_varO 11 rfl (pv 11)) T.b_tuple) xd_nil))) (fun r h => ⟨_, h⟩) ?_ (fun te h => pe_bm PySem.F.plainAttrs_list PySem.F.slot_list_append PySem.F.type_list_append mt_append (pv 3) (pa_cons h pa_nil))) (fun ρ1 ⟨x, e1, e2⟩ => ?_)
        · rw [List.length_append, List.length_map]; simp; omega
        cases e1
        subst e2
        refine xss_nil ⟨.d (encP p), .d (.tuple [nt p.1, nt p.2, nt p.1]), .ol ad9 (List.map (fz M i) (zipD [nt u1, nt u2, nt u3] [nt p.1, nt p.2, nt p.1])), .ol ad11 (List.map (fy M i) (zipD [nt u1, nt u2, nt u3] [nt p.1, nt p.2, nt p.1])), ?_⟩
        rw [List.map_append]
        show _ = [_, _, _, SD.ol ad (_ ++ [_, _]), _, _, _, _, _, _, _, _]
        rw [show ∀ (l : List PyData) (a b : PyData), l ++ [a, b] = (l ++ [a]) ++ [b] by intro l a b; simp]
        rfl
      · rw [List.length_map, List.take_length] at hI
        obtain ⟨s7, s8, s9, s11, rfl⟩ := hI
        exact ⟨ad, _, _, _, _, _, _, rfl⟩
  · obtain ⟨ad, s4, s5, s7, s8, s9, s11, rfl⟩ := e1
    exact xss_one (xs_retO 3 rfl (pv 3) rfl)
end
end PW

-- W7
/-! W7: met_with, closed_with, is_closed. -/
namespace PW
open PySem PySem.Spec PyProof.Rows L2 PL Ma
section
variable {P : Program} {w : World} {K : PySem.W.Frag} {mg : Str → Option Value} {base : Heap}
def kt (t : P3) : List Int := [(t.1 : Int), (t.2.1 : Int), (t.2.2 : Int)]
theorem kt_inj {p q : P3} (h : kt p = kt q) : p = q := by
  unfold kt at h
  injection h with h1 h2
  injection h2 with h2 h3
  injection h3 with h3 _
  exact Prod.ext (by omega) (Prod.ext (by omega) (by omega))
theorem kt_put (l : List P3) (p : P3) : putL (l.map kt) (kt p) = (putS l p).map kt := put_map kt (fun _ _ => kt_inj) l p
theorem kt_mem {l : List P3} {p : P3} : kt p ∈ l.map kt ↔ p ∈ l := by
  rw [List.mem_map]
  exact ⟨fun ⟨q, hq, e⟩ => kt_inj e ▸ hq, fun h => ⟨p, h, rfl⟩⟩
theorem kT3_inj {p : P3} {k : List Int} (h : SD.d (.tuple (k.map PyData.int)) = SD.d (encT p)) : k = kt p := by
  injection h with h
  injection h with h
  exact mapInt_inj (b := kt p) h
def fb : PyData → List Int
  | .tuple [.int x, .int y] => [x, y, y]
  | _ => []
theorem base_fold : ∀ (L : List P2) (acc : List P3), (L.map encP).foldl (fun ks d => putL ks (fb d)) (acc.map kt) = (L.foldl (fun ks p => putS ks (p.1, p.2, p.2)) acc).map kt
  | [], _ => rfl
  | p :: r, acc => by
    rw [List.map_cons, List.foldl_cons, List.foldl_cons, ← base_fold r, ← kt_put]
    rfl
theorem encT_get {L : List P3} {i : Nat} {d : PyData} (h : (L.map encT)[i]? = some d) : ∃ p, L[i]? = some p ∧ d = encT p := by
  rw [List.getElem?_map] at h
  cases e : L[i]? with
  | none => rw [e] at h; cases h
  | some x => rw [e] at h; exact ⟨x, rfl, (Option.some.inj h).symm⟩
theorem encC_get {L : List PC} {i : Nat} {d : PyData} (h : (L.map encC)[i]? = some d) : ∃ p, L[i]? = some p ∧ d = encC p := by
  rw [List.getElem?_map] at h
  cases e : L[i]? with
  | none => rw [e] at h; cases h
  | some x => rw [e] at h; exact ⟨x, rfl, (Option.some.inj h).symm⟩
theorem sw_dc {kx vx : Expr} {gs : List Comprehension} {scope : Scope} {pos py : Pos} {y : Str} {l : Nat} {env : Env} (hk : env.scope.kind = .function) (hy : env.scope.names.lookup y = some .local) (hl : (py.line == pos.line) = true)
    (ha : (scope.names.any fun (n, k) => n == y && (k == .local || k == .cell)) = false) : swapsWith (.DictComp kx vx gs scope pos) (some (.Name y py)) l env = pure true := by
  have ky : env.kindOf y = some .local := hy
  have hb : env.blockKind = .function := by unfold Env.blockKind; rw [hk]; rfl
  unfold swapsWith
  simp only [hb, ky, ha, Expr.pos, hl]
  rfl
def F_met_with : FS {x : Au × List P2 // x.1.Wf ∧ Lay x.1 x.2} := ⟨fun a => [.d (encA a.1.1), .d (encL a.1.2)], fun a r => ∃ Ts : List P3, r = .d (.tuple (Ts.map encT)) ∧ Ts.Nodup ∧ ∀ t, t ∈ Ts ↔ Met a.1.1 (InL a.1.2) t⟩
/-- the found and the fresh triples -/
structure MW (A : Au) (L : List P2) (ks fr : List P3) : Prop where
  nd : ks.Nodup
  met : ∀ t ∈ ks, Met A (InL L) t
  bas : ∀ p ∈ L, (p.1, p.2, p.2) ∈ ks
  sub : ∀ t ∈ fr, t ∈ ks
theorem MW.len {A : Au} (w : A.Wf) {L : List P2} (hL : Lay A L) {ks fr : List P3} (h : MW A L ks fr) : ks.length ≤ 64 := nodup_T h.nd fun t m => ((h.met t m).lt4 w hL.lt).2
theorem c_met_with (T : Tx K mg) : Cl P w K mg base 3 "met_with" F_met_with.sp := by
  refine cl_mk F_met_with T.f_met_with sc_met_with (fun _ => rfl) (fun _ => rfl) (by decide) ?_
  intro f cdv A outer s H E hr ⟨⟨M, L⟩, hM, hL⟩
  dsimp only at hM hL
  have hlen := hL.len hM
  refine xss_cons (xs_setDc 2 (own := [("one", 3), ("other", 4)]) fb (hu_of hr) (XI.toC (xi_tupD (xe_var 1 rfl (pv 1)))) (sg_pair 3 4) (fun _ _ _ _ _ => (pg_tup rfl (pgs_cons (pg_name (i := 3) sc_met_with.nd rfl (by first | exact .inl rfl | exact .inr rfl)) (pgs_cons (pg_name (i := 4) sc_met_with.nd rfl (by first | exact .inl rfl | exact .inr rfl)) pgs_nil)))) (fun d hd => ?_) (by rw [List.length_map]; show L.length ≤ 50000; omega) sc_met_with.nd (blkOk_by (N := n_met_with) (sc := defScope s_met_with) (by decide +kernel)) (sw_dc rfl rfl rfl (by decide +kernel))) (fun ρ1 ⟨ad, e1⟩ => ?_)
  · obtain ⟨p, _, rfl⟩ := List.mem_map.mp hd
    exact ⟨⟨_, _, rfl⟩, fun _ _ _ _ _ => xe_tupA (xd_cons (xe_var 3 rfl (pv 3)) (xd_cons (xe_var 4 rfl (pv 4)) (xd_cons (xe_var 4 rfl (pv 4)) xd_nil))) (by simp [fb])⟩
  rw [show (List.map encP L).foldl (fun ks d => putL ks (fb d)) [] = (base0 L).map kt from base_fold L []] at e1
  subst e1
  refine xss_setF 5 (xf_listT (xe_varT 2 rfl (pv 2)) T.b_list) (fun ad5 ds e1 => ?_) sc_met_with.nd
  rw [show ((base0 L).map kt).map encK = (base0 L).map encT by rw [List.map_map]; rfl] at e1
  subst e1
  have h0 : MW M L (base0 L) (base0 L) := ⟨base0_nodup L, fun t m => by obtain ⟨p, hp, rfl⟩ := mem_base0.mp m; exact .base hp, fun p hp => mem_base0.mpr ⟨p, hp, rfl⟩, fun _ h => h⟩
  refine xss_cons (M := fun ρ => ∃ ad ks s3 s4 s5 s6 s7 s8, ρ = [.d (encA M), .d (encL L), .ot ad (ks.map kt), s3, s4, s5, s6, s7, s8] ∧ MW M L ks [] ∧ ∀ t ∈ ks, ∀ u, Up M L t u → u ∈ ks)
    (xs_while (I := fun m ρ => ∃ ad ks a5 fr s6 s7 s8, ρ = [.d (encA M), .d (encL L), .ot ad (ks.map kt), .no, .no, .ol a5 (fr.map encT), s6, s7, s8] ∧ MW M L ks fr ∧ (∀ t ∈ ks, t ∉ fr → ∀ u, Up M L t u → u ∈ ks) ∧ m = 2 * (64 - ks.length) + fr.length ∧ m ≤ 200)
      (2 * (64 - (base0 L).length) + (base0 L).length) ⟨ad, base0 L, ad5, base0 L, .no, .no, .no, rfl, h0, fun t h1 h2 => absurd h1 h2, rfl, by have := h0.len hM hL; omega⟩ (fun m ρ1 hI => ?_)) (fun ρ1 e1 => ?_)
  · obtain ⟨ad, ks, a5, fr, s6, s7, s8, rfl, hw, hcl, rfl, hfr⟩ := hI
    refine ⟨_, xt_list (xe_varO 5 rfl (pv 5)), fun hb => ?_, fun hb => ?_⟩
    · have hne : 0 < fr.length := by cases fr with
        | nil => simp at hb
        | cons _ _ => simp
      obtain ⟨t, ht⟩ : ∃ t, fr[fr.length - 1]? = some t := ⟨_, List.getElem?_eq_getElem (by omega)⟩
      have htk := hw.sub t (List.mem_of_getElem? ht)
      have hmet := hw.met t htk
      have hl := hw.len hM hL
      refine xss_cons (xs_pop 5 6 rfl (pv 5) (d := encT t) (by rw [List.length_map, List.getElem?_map, ht]; rfl) sc_met_with.nd (pe_bm0 PySem.F.plainAttrs_list PySem.F.slot_list_pop PySem.F.type_list_pop mt_pop (pv 5))) (fun ρ1 e1 => ?_)
      rw [show (fr.map encT).dropLast = (fr.dropLast).map encT by rw [List.map_dropLast]] at e1
      subst e1
      refine xss_one (xs_forD (ds := (upTo M (climbS M L t) M.ar.length).map encC) (I := fun j ρ => ∃ ad ks2 a5 fr2 s7 s8, ρ = [.d (encA M), .d (encL L), .ot ad (ks2.map kt), .no, .no, .ol a5 (fr2.map encT), .d (encT t), s7, s8] ∧ MW M L ks2 fr2 ∧ (∀ u ∈ ks, u ∈ ks2) ∧ (∀ u ∈ ks2, u ∉ fr2 → u ≠ t → ∀ v, Up M L u v → v ∈ ks2) ∧ (∀ u ∈ ((upTo M (climbS M L t) M.ar.length).take j).map (·.2), u ∈ ks2) ∧ 2 * (64 - ks2.length) + fr2.length ≤ 2 * (64 - ks.length) + fr.length - 1 ∧ t ∈ ks2)
        (xi_new (xf_call (c_climbs_from T) hr (Aa := fun rs => rs = [.d (encA M), .d (encT t), .d (encL L)]) (xa_cons (xe_var 0 rfl (pv 0)) (xa_cons (xe_var 6 rfl (pv 6)) (xa_cons (xe_var 1 rfl (pv 1)) xa_nil))) (fun rs e => ⟨⟨M, t, L, hM, hL, (hmet.lt4 hM hL.lt).1⟩, e.symm, fun r h => ⟨_, h, rfl⟩⟩))) (pg_tup rfl (pgs_cons (pg_name (i := 7) sc_met_with.nd rfl (by first | exact .inl rfl | exact .inr rfl)) (pgs_cons (pg_name (i := 8) sc_met_with.nd rfl (by first | exact .inl rfl | exact .inr rfl)) pgs_nil))) (sg_pair 7 8)
        ⟨ad, ks, a5, fr.dropLast, s7, s8, rfl, ⟨hw.nd, hw.met, hw.bas, fun u hu => hw.sub u ((List.dropLast_sublist fr).subset hu)⟩, fun _ h => h, fun u hu hn hut v hv => hcl u hu (fun hf => ?_) v hv, by simp, by rw [List.length_dropLast]; omega, htk⟩ (fun j d ρ1 hd hI => ?_) (fun ρ1 hI => ?_))
      · have hs : fr = fr.dropLast ++ [t] := by
          have h1 := List.dropLast_concat_getLast (l := fr) (by intro e; rw [e] at hne; simp at hne)
          rw [List.getLast_eq_getElem] at h1
          rw [List.getElem?_eq_getElem (by omega)] at ht
          rw [Option.some.inj ht] at h1
          exact h1.symm
        rw [hs] at hf
        rcases List.mem_append.mp hf with hf | hf
        · exact hn hf
        · simp at hf; exact hut hf
      · obtain ⟨c, hc, rfl⟩ := encC_get hd
        refine ⟨⟨_, _, rfl⟩, ?_⟩
        obtain ⟨ad, ks2, a5, fr2, s7, s8, rfl, hw2, hsub, hcl2, hdone, hmeas, htk2⟩ := hI
        have hup : Up M L t c.2 := (climbs_iff hM).mp (by rw [← climbsS]; exact List.mem_map.mpr ⟨c, List.mem_of_getElem? hc, rfl⟩)
        have l2 := hw2.len hM hL
        rw [take_snoc hc, List.map_append]
        refine xss_one (xs_if (p := !decide (kt c.2 ∈ ks2.map kt)) (xt_notinT (xe_var 8 rfl (pv 8)) (xe_varT 2 rfl (pv 2)) (hu_of hr)) (fun hb => ?_) (fun hb => ?_))
        · have hno : c.2 ∉ ks2 := fun h => by rw [decide_eq_true (kt_mem.mpr h)] at hb; cases hb
          refine xss_cons (xs_putL 2 rfl (pv 2) (xe_var 8 rfl (pv 8)) (fun r h => ⟨kt c.2, h⟩) (by rw [List.length_map]; omega) (hu_of hr)) (fun ρ1 ⟨k, e1, e2⟩ => ?_)
          cases kT3_inj e1
          rw [kt_put] at e2
          subst e2
          have hput : putS ks2 c.2 = ks2 ++ [c.2] := if_neg hno
          refine xss_cons (xs_appN 5 rfl (pv 5) (xe_var 8 rfl (pv 8)) (fun r h => ⟨_, h⟩) (by rw [List.length_map]; omega) (fun te h => pe_bm PySem.F.plainAttrs_list PySem.F.slot_list_append PySem.F.type_list_append mt_append (pv 5) (pa_cons h pa_nil))) (fun ρ1 ⟨x, e1, e2⟩ => ?_)
          cases e1
          subst e2
          have hw3 : MW M L (putS ks2 c.2) (fr2 ++ [c.2]) := ⟨putS_nodup hw2.nd, fun u hu => by
              rcases mem_putS.mp hu with hu | rfl
              · exact hw2.met u hu
              · exact hmet.climb hup, fun p hp => mem_putS.mpr (.inl (hw2.bas p hp)), fun u hu => by
              rcases List.mem_append.mp hu with hu | hu
              · exact mem_putS.mpr (.inl (hw2.sub u hu))
              · simp at hu; exact mem_putS.mpr (.inr hu)⟩
          have l3 := hw3.len hM hL
          refine xss_nil ⟨ad, putS ks2 c.2, a5, fr2 ++ [c.2], .d c.1, .d (encT c.2), by rw [List.map_append]; rfl, hw3, fun u hu => mem_putS.mpr (.inl (hsub u hu)), fun u hu hn hne v hv => ?_, fun u hu => ?_, ?_, mem_putS.mpr (.inl htk2)⟩
          · rcases mem_putS.mp hu with hu | rfl
            · exact mem_putS.mpr (.inl (hcl2 u hu (fun h => hn (List.mem_append_left _ h)) hne v hv))
            · exact absurd (List.mem_append_right _ (by simp)) hn
          · rcases List.mem_append.mp hu with hu | hu
            · exact mem_putS.mpr (.inl (hdone u hu))
            · simp at hu; exact mem_putS.mpr (.inr hu)
          · rw [hput] at l3 ⊢
            rw [List.length_append] at l3 ⊢
            rw [List.length_append]
            simp only [List.length_cons, List.length_nil] at l3 ⊢
            omega
        · have hin : c.2 ∈ ks2 := by
            by_cases h : c.2 ∈ ks2
            · exact h
            · rw [decide_eq_false (fun z => h (kt_mem.mp z))] at hb; cases hb
          refine xss_nil ⟨ad, ks2, a5, fr2, .d c.1, .d (encT c.2), rfl, hw2, hsub, hcl2, fun u hu => ?_, hmeas, htk2⟩
          rcases List.mem_append.mp hu with hu | hu
          · exact hdone u hu
          · simp at hu; rw [hu]; exact hin
      · rw [List.length_map, List.take_length, climbsS] at hI
        obtain ⟨ad, ks2, a5, fr2, s7, s8, rfl, hw2, hsub, hcl2, hdone, hmeas, htk2⟩ := hI
        refine ⟨2 * (64 - ks2.length) + fr2.length, by omega, ad, ks2, a5, fr2, _, s7, s8, rfl, hw2, fun u hu hn v hv => ?_, rfl, by omega⟩
        by_cases e : u = t
        · subst e
          exact hdone v ((climbs_iff hM).mpr hv)
        · exact hcl2 u hu hn e v hv
    · have hnil : fr = [] := by cases fr with
        | nil => rfl
        | cons _ _ => simp at hb
      subst hnil
      exact ⟨ad, ks, _, _, _, s6, s7, s8, rfl, hw, fun t ht => hcl t ht (by simp)⟩
  · obtain ⟨ad, ks, s3, s4, s5, s6, s7, s8, rfl, hw, hcl⟩ := e1
    refine xss_one (xs_ret (xe_tupleN (Θ := fun r => ∃ Ts : List P3, r = .d (.tuple (Ts.map encT)) ∧ Ts.Nodup ∧ ∀ t, t ∈ Ts ↔ Met M (InL L) t) (XF.toE (xf_sortedT (xe_varT 2 rfl (pv 2)) ?_ T.b_sorted)) ?_ T.b_tuple) ?_)
    · intro k hk2
      obtain ⟨p, _, rfl⟩ := List.mem_map.mp hk2
      exact fun h => nomatch h
    · rintro ds ⟨ms, rfl, pm⟩
      obtain ⟨ns, rfl, pn⟩ := perm_map_inv pm.symm rfl
      refine ⟨ns, by rw [List.map_map]; rfl, pn.nodup_iff.mpr hw.nd, fun t => ?_⟩
      rw [pn.mem_iff]
      exact ⟨hw.met t, fun m => met_all hw.bas hcl m⟩
    · rintro r ⟨L', rfl, h⟩
      exact ⟨⟨_, rfl⟩, L', rfl, h⟩
end
end PW

-- W8
/-! W8: closed_with, is_closed. -/
namespace PL
open PySem PySem.Spec PyProof.Rows L2
theorem xs_drop {X : Cx} {ρ : List SD} {e : Expr} {pos : Pos} {Φ R : SD → Prop} (he : XE X ρ e Φ) (hs : swapsWith e none pos.line X.env = pure false := by rfl) : XS X ρ (.Expr e pos) (fun ρ' => ρ' = ρ) R :=
  PS.imp (ps_expr he hs) fun D σ H ⟨G0, G, l, s0, S, nx, rt⟩ => ⟨G, S, fun v H' r e1 _ _ => nx G σ H' ρ (Le.refl G) (S.mono e1) rfl⟩
end PL
namespace PW
open PySem PySem.Spec PyProof.Rows L2 PL Ma
section
variable {P : Program} {w : World} {K : PySem.W.Frag} {mg : Str → Option Value} {base : Heap}
def badD (A : Au) : PyData → PyData
  | .tuple [.int x, .int y, .int z] => .bool (Bad A (x.toNat, y.toNat, z.toNat))
  | _ => .none
noncomputable def F_closed_with : FS {x : Au × List P2 // x.1.Wf ∧ Lay x.1 x.2} := ⟨fun a => [.d (encA a.1.1), .d (encL a.1.2)], fun a r => r = .d (.bool (closedB a.1.1 (InL a.1.2)))⟩
theorem c_closed_with (T : Tx K mg) : Cl P w K mg base 4 "closed_with" F_closed_with.sp := by
  refine cl_mk F_closed_with T.f_closed_with sc_closed_with (fun _ => rfl) (fun _ => rfl) (by decide) ?_
  intro f cdv A outer s H E hr ⟨⟨M, L⟩, hM, hL⟩
  dsimp only at hM hL
  have hq : ∀ z : List PyData, (∃ ds, (∃ Ts : List P3, ds = Ts.map encT ∧ Ts.Nodup ∧ ∀ t, t ∈ Ts ↔ Met M (InL L) t) ∧ z = ds.map (badD M)) → ∃ bs : List Bool, z = bs.map PyData.bool ∧ (!bs.any id) = closedB M (InL L) := by
    rintro z ⟨ds, ⟨Ts, rfl, nd, hT⟩, rfl⟩
    exact ⟨Ts.map (Bad M), by rw [List.map_map, List.map_map]; rfl, bad_any hT⟩
  refine xss_one (xs_ret (Φ := fun r => r = .d (.bool (!!closedB M (InL L)))) (xe_not (xe_anyN (t := !closedB M (InL L)) (A := fun bs => (!bs.any id) = closedB M (InL L)) (XE.weak (XF.toE (xf_lcN (own := [("triple", 2)]) (lcDN (F := badD M) (Φ := fun z => ∃ Ts : List P3, z = Ts.map encT ∧ Ts.Nodup ∧ ∀ t, t ∈ Ts ↔ Met M (InL L) t) (XI.toC (xi_tup (xe_call (c_met_with T) hr (Aa := fun rs => rs = [.d (encA M), .d (encL L)]) (xa_cons (xe_var 0 rfl (pv 0)) (xa_cons (xe_var 1 rfl (pv 1)) xa_nil)) (fun rs e => ⟨⟨(M, L), hM, hL⟩, e.symm, fun r ⟨Ts, h1, h2⟩ => ⟨⟨_, h1⟩, _, h1, Ts, rfl, h2⟩⟩)))) (sg_name 2) (fun _ _ _ _ _ => (pg_name (i := 2) sc_closed_with.nd rfl (by first | exact .inl rfl | exact .inr rfl))) ?_ ?_) sc_closed_with.nd (blkOk_by (N := n_closed_with) (sc := defScope s_closed_with) (by decide +kernel)))) ?_) ?_ T.b_any)) ?_)
  · rintro ds ⟨Ts, rfl, nd, hT⟩ d hd
    obtain ⟨t, ht, rfl⟩ := List.mem_map.mp hd
    exact ⟨trivial, fun _ _ _ _ _ => xe_callD (c_is_bad T) hr ⟨M, hM, t, (((hT t).mp ht).lt4 hM hL.lt).1⟩ (xa_cons (xe_var 0 rfl (pv 0)) (xa_cons (xe_var 2 rfl (pv 2)) xa_nil)) fun r h => h⟩
  · rintro ds ⟨Ts, rfl, nd, hT⟩
    rw [List.length_map]
    have := nodup_T nd fun t ht => (((hT t).mp ht).lt4 hM hL.lt).2
    omega
  · rintro r ⟨z, rfl, hz⟩
    obtain ⟨bs, rfl, hb⟩ := hq z hz
    exact ⟨bs, rfl, hb⟩
  · intro bs hb
    rw [← hb, Bool.not_not]
  · rintro r rfl
    exact ⟨⟨_, rfl⟩, by rw [Bool.not_not]; rfl⟩
noncomputable def F_is_closed : FS {x : Au × Nat // x.1.Wf ∧ 1 ≤ x.2 ∧ x.2 ≤ 12} := ⟨fun a => [.d (encA a.1.1), .d (nt a.1.2)], fun a r => r = .d (.bool (closedB a.1.1 (PairAt a.1.1 (a.1.2 - 1))))⟩
theorem c_is_closed (T : Tx K mg) : Cl P w K mg base 5 "is_closed" F_is_closed.sp := by
  refine cl_mk F_is_closed T.f_is_closed sc_is_closed (fun _ => rfl) (fun _ => rfl) (by decide) ?_
  intro f cdv A outer s H E hr ⟨⟨M, k⟩, hM, k1, k2⟩
  dsimp only at hM k1 k2
  refine xss_cons (xs_drop (xe_callD (c_check_automaton T) hr ⟨M, hM⟩ (xa_cons (xe_var 0 rfl (pv 0)) xa_nil) fun r h => h)) (fun ρ1 e1 => ?_)
  subst e1
  refine xss_cons (xs_drop (xe_callD (c_check_number T) hr ⟨(k : Int), by omega, by omega⟩ (xa_cons (xe_var 1 rfl (pv 1)) (xa_cons xe_int (xa_cons (xe_glob rfl T.g_MOST_DEPTH) (xa_cons xe_str xa_nil)))) fun r h => h)) (fun ρ1 e1 => ?_)
  subst e1
  refine xss_one (xs_ret (xe_call (Θ := fun r => r = .d (.bool (closedB M (PairAt M (k - 1))))) (c_closed_with T) hr (Aa := fun rs => ∃ L, rs = [.d (encA M), .d (encL L)] ∧ LayerOk M (k - 1) L) (xa_consN (xe_var 0 rfl (pv 0)) (xa_consN (B := fun rs => ∃ L, rs = [.d (encL L)] ∧ LayerOk M (k - 1) L) (xe_call (Θ := fun r => ∃ L, r = .d (encL L) ∧ LayerOk M (k - 1) L) (c_pairs_at T) hr (Aa := fun rs => rs = [.d (encA M), .d (.int ((k : Int) - 1))]) (xa_cons (xe_var 0 rfl (pv 0)) (xa_cons (xe_sub (xe_var 1 rfl (pv 1)) xe_int) xa_nil)) ?_) xa_nil ?_) ?_) ?_) ?_)
  · rintro rs rfl
    refine ⟨⟨(M, k - 1), hM, by dsimp only; omega⟩, ?_, fun r ⟨L, h1, h2⟩ => ⟨⟨_, h1⟩, L, h1, h2⟩⟩
    show [SD.d _, SD.d (.int ((k - 1 : Nat) : Int))] = _
    rw [show ((k - 1 : Nat) : Int) = (k : Int) - 1 by omega]
  · rintro r rs ⟨L, rfl, h⟩ rfl
    exact ⟨L, rfl, h⟩
  · rintro r rs rfl ⟨L, rfl, h⟩
    exact ⟨L, rfl, h⟩
  · rintro rs ⟨L, rfl, h⟩
    refine ⟨⟨(M, L), hM, lay_of hM h⟩, rfl, fun r hr => ⟨⟨_, hr⟩, ?_⟩⟩
    rw [hr]
    show SD.d (.bool (closedB M (InL L))) = _
    rw [closedB_congr h.mem]
  · rintro r rfl
    exact ⟨⟨_, rfl⟩, rfl⟩
end
end PW

-- V1
/-! V1: the law's small defs: _law_next, _law_equal, _law_step, _law_automaton. -/
namespace PL
open PySem PySem.Spec PyProof.Rows L2
section
variable {X : Cx} {ρ : List SD} {tg iter elt : Expr} {scope : Scope} {own : List (Str × Nat)}
/-- known items, of each a value of a kind -/
theorem lcQ (Q : PyData → Prop) {ds : List PyData} {g : TG} {ok : PyData → Prop} {f : PyData → List SD → List SD} {is : List Nat} (hi : XIc X ρ tg iter (fun z => z = ds)) (sg : SG g ok f is)
    (hg : ∀ (s : Shared) (H : Hp) (C : Addr) (cl : List (Str × Addr)) (fp : List Addr), PG (X.blk s H scope (compEnvC scope cl C X.env) fp) tg g)
    (he : ∀ d, d ∈ ds → ok d ∧ ∀ (s : Shared) (H : Hp) (C : Addr) (cl : List (Str × Addr)) (fp : List Addr), XE (X.blk s H scope (compEnvC scope cl C X.env) fp) (f d (wipeR ρ (ownS own))) elt (fun r => ∃ x, r = .d x ∧ Q x))
    (hl : ds.length ≤ 50000) (his : ∀ i ∈ is, i ∈ ownS own := by decide) : LcN X ρ tg iter elt scope own (fun z => z.length = ds.length ∧ ∀ x ∈ z, Q x) :=
  ⟨⟨fun z => z = ds, g, ok, f, is, fun ds' i out => out.length = i ∧ ∀ x ∈ out, Q x, hi, sg, his, hg, fun ds' e => ⟨by simp, by rw [e]; exact hl⟩, fun ds' i d out e hd ho => by
    subst e
    obtain ⟨h1, h2⟩ := he d (List.mem_of_getElem? hd)
    refine ⟨h1, _, h2, fun r ⟨x, hr, hx⟩ => ⟨x, hr, ?_, fun y hy => ?_⟩⟩
    · rw [List.length_append, ho.1]; rfl
    · rcases List.mem_append.mp hy with hy | hy
      · exact ho.2 y hy
      · simp at hy; rw [hy]; exact hx, fun ds' out e ho => by rw [← e]; exact ho⟩⟩
end
end PL
namespace PW
open PySem PySem.Spec PyProof.Rows L2 PL Ma
theorem nts_of {m : Nat} : ∀ {z : List PyData}, (∀ x ∈ z, ∃ n : Nat, n < m ∧ x = nt n) → ∃ r : List Nat, z = nts r ∧ r.length = z.length ∧ ∀ x ∈ r, x < m
  | [], _ => ⟨[], rfl, rfl, by simp⟩
  | y :: z, h => by
    obtain ⟨n, hn, rfl⟩ := h y (by simp)
    obtain ⟨r, rfl, h1, h2⟩ := nts_of (z := z) fun x hx => h x (by simp [hx])
    exact ⟨n :: r, rfl, by rw [List.length_cons, List.length_cons, h1], fun x hx => by
      rcases List.mem_cons.mp hx with rfl | hx
      · exact hn
      · exact h2 x hx⟩
theorem bls_of : ∀ {z : List PyData}, (∀ x ∈ z, ∃ b, x = .bool b) → ∃ r : List Bool, z = r.map PyData.bool ∧ r.length = z.length
  | [], _ => ⟨[], rfl, rfl⟩
  | y :: z, h => by
    obtain ⟨n, rfl⟩ := h y (by simp)
    obtain ⟨r, rfl, h1⟩ := bls_of (z := z) fun x hx => h x (by simp [hx])
    exact ⟨n :: r, rfl, by rw [List.length_cons, List.length_cons, h1]⟩
theorem rows_of_z {m : Nat} : ∀ {z : List PyData}, (∀ x ∈ z, ∃ r : List Nat, r.length = m ∧ (∀ y ∈ r, y < m) ∧ x = .tuple (nts r)) → ∃ rs : List (List Nat), z = rs.map (fun r => .tuple (nts r)) ∧ rs.length = z.length ∧ ∀ r ∈ rs, r.length = m ∧ ∀ y ∈ r, y < m
  | [], _ => ⟨[], rfl, rfl, by simp⟩
  | y :: z, h => by
    obtain ⟨r, h1, h2, rfl⟩ := h y (by simp)
    obtain ⟨rs, rfl, h3, h4⟩ := rows_of_z (z := z) fun x hx => h x (by simp [hx])
    exact ⟨r :: rs, rfl, by rw [List.length_cons, List.length_cons, h3], fun x hx => by
      rcases List.mem_cons.mp hx with rfl | hx
      · exact ⟨h1, h2⟩
      · exact h4 x hx⟩
section
variable {P : Program} {w : World} {K : PySem.W.Frag} {mg : Str → Option Value} {base : Heap}
abbrev NArg := {x : List Int × Nat // 1 ≤ x.2 ∧ x.2 < 1000000}
def F_law_next : FS NArg := ⟨fun a => [.st a.1.1, .d (nt a.1.2)], fun a r => ∃ d : Nat, d < a.1.2 ∧ r = .d (nt d)⟩
theorem c_law_next (T : Tx K mg) : Cl P w K mg base 1 "_law_next" F_law_next.sp := by
  refine cl_mk F_law_next T.f_law_next sc_law_next (fun _ => rfl) (fun _ => rfl) (by decide) ?_
  intro f cdv A outer s H E hr ⟨⟨ns, many⟩, m1, m2⟩
  dsimp only at m1 m2
  refine xss_cons (M := fun ρ => ∃ s2 s3, ρ = [.st ns, .d (nt many), s2, s3, .no]) (xs_ifU (xt_eqU (xe_st1 (xe_varS 0 rfl (pv 0))) (xe_nnC xe_int)) ?_ (xss_nil ⟨_, _, rfl⟩)) (fun ρ1 e1 => ?_)
  · refine xss_setN 2 (xe_st2 (xe_varS 0 rfl (pv 0))) (fun r ⟨n, h⟩ => ⟨_, h⟩) (fun x ⟨k, hk⟩ => ?_) sc_law_next.nd
    cases hk
    refine xss_setN 3 (xe_nnAdd (xe_nnC xe_int) (xe_nn (xe_var 2 rfl (pv 2)))) (fun r ⟨n, h⟩ => ⟨_, h⟩) (fun x ⟨c, hc⟩ => ?_) sc_law_next.nd
    cases hc
    refine xss_cons (M := fun ρ => ∃ c : Nat, ρ = [.st ns, .d (nt many), .d (nt k), .d (nt c), .no]) (xs_if (xt_ltI (xe_var 2 rfl (pv 2)) (xe_lenL (xe_st0 (xe_varS 0 rfl (pv 0))) T.b_len)) (fun hc => ?_) (fun hc => xss_nil ⟨_, rfl⟩)) (fun ρ1 e1 => ?_)
    · have hk : k < ns.length := by simpa using hc
      refine xss_setN 3 (xe_abs (xe_ixL (xe_st0 (xe_varS 0 rfl (pv 0))) (xe_var 2 rfl (pv 2)) (map_at (f := PyData.int) (List.getElem?_eq_getElem hk))) T.b_abs) (fun r ⟨n, h⟩ => ⟨_, h⟩) (fun x ⟨c, hc⟩ => ?_) sc_law_next.nd
      cases hc
      exact xss_nil ⟨_, rfl⟩
    · obtain ⟨c, rfl⟩ := e1
      refine xss_cons (M := fun ρ => ∃ c : Nat, ρ = [.st ns, .d (nt many), .d (nt k), .d (nt c), .no]) (xs_if (xt_ltI (xe_var 3 rfl (pv 3)) (xe_pow xe_int xe_int)) (fun hc => ?_) (fun hc => xss_nil ⟨_, rfl⟩)) (fun ρ1 e1 => ?_)
      · refine xss_setN 3 (xe_nnMod (xe_nnInt (xe_nnAdd (xe_nnAdd (xe_nnMul (xe_nn (xe_var 3 rfl (pv 3))) xe_int) (xe_nnMul (xe_nn (xe_var 2 rfl (pv 2))) xe_int)) (xe_nnC xe_int)) T.b_int) xe_int (by decide)) (fun r ⟨n, _, h⟩ => ⟨_, h⟩) (fun x ⟨c, _, hc⟩ => ?_) sc_law_next.nd
        cases hc
        refine xss_setN 3 (xe_nnAdd (xe_nnMul (XE.weak (xe_nnMod (xe_nnInt (xe_nnAdd (xe_nnMul (xe_nn (xe_var 3 rfl (pv 3))) xe_int) (xe_nnC xe_int)) T.b_int) xe_int (by decide)) fun r ⟨n, _, h⟩ => ⟨n, h⟩) xe_int) (xe_nn (xe_var 3 rfl (pv 3)))) (fun r ⟨n, h⟩ => ⟨_, h⟩) (fun x ⟨c, hc⟩ => ?_) sc_law_next.nd
        cases hc
        exact xss_nil ⟨_, rfl⟩
      · obtain ⟨c, rfl⟩ := e1
        refine xss_cons (xs_stSet 0 rfl (pv 0) (xe_nn (xe_var 3 rfl (pv 3))) (.inl rfl)) (fun ρ1 e1 => ?_)
        subst e1
        refine xss_cons (xs_stSet 0 rfl (pv 0) (xe_nnAdd (xe_nn (xe_var 2 rfl (pv 2))) (xe_nnC xe_int)) (.inr rfl)) (fun ρ1 e1 => ?_)
        subst e1
        exact xss_nil ⟨_, _, rfl⟩
  · obtain ⟨s2, s3, rfl⟩ := e1
    refine xss_setN 4 (xe_nnMod (xe_nnInt (xe_st1 (xe_varS 0 rfl (pv 0))) T.b_int) (xe_var 1 rfl (pv 1)) (by omega)) (fun r ⟨n, _, h⟩ => ⟨_, h⟩) (fun x ⟨d, hd, hx⟩ => ?_) sc_law_next.nd
    cases hx
    refine xss_cons (xs_stSet 0 rfl (pv 0) (xe_nnDiv (xe_st1 (xe_varS 0 rfl (pv 0))) (xe_var 1 rfl (pv 1)) (by omega)) (.inl rfl)) (fun ρ1 e1 => ?_)
    subst e1
    exact xss_one (xs_retD (xe_var 4 rfl (pv 4)) ⟨d, by simpa using hd, rfl⟩)
def F_law_equal : FS (Bool × Bool) := ⟨fun a => [.d (.bool a.1), .d (.bool a.2)], fun a r => r = .d (.bool (a.1 == a.2))⟩
theorem c_law_equal (T : Tx K mg) : Cl P w K mg base 1 "_law_equal" F_law_equal.sp := by
  refine cl_mk F_law_equal T.f_law_equal sc_law_equal (fun _ => rfl) (fun _ => rfl) (by decide) ?_
  intro f cdv A outer s H E hr ⟨a, b⟩
  refine xss_ifF (xt_isN (t := false) (xe_var 1 rfl (pv 1)) (fun r h => .inr ⟨by rw [h]; exact (fun z => nomatch z), rfl⟩)) rfl ?_
  refine xss_ifT (xt_val (xe_isi (T := "bool") (t := true) (xe_var 1 rfl (pv 1)) (by rfl) T.b_isinstance T.b_bool (by decide +kernel))) rfl ?_
  exact xss_one (xs_retD (xe_and (xe_isi (T := "bool") (t := true) (xe_var 0 rfl (pv 0)) (by rfl) T.b_isinstance T.b_bool (by decide +kernel)) fun _ => (xe_and1 (xe_eqB (xe_var 0 rfl (pv 0)) (xe_var 1 rfl (pv 1))))) rfl)
def F_law_step : FS StepArg := ⟨fun a => [.d (encA a.A), .d (nt a.sym), .l (nts a.ss)], fun a r => r = .d (nt (a.A.step a.sym a.ss))⟩
theorem c_law_step (T : Tx K mg) : Cl P w K mg base 1 "_law_step" F_law_step.sp := by
  refine cl_mk F_law_step T.f_law_step sc_law_step (fun _ => rfl) (fun _ => rfl) (by decide) ?_
  intro f cdv A outer s H E hr ⟨M, hM, sym, ss, h, lt⟩
  obtain ⟨e, cur, he, h0, hst, hend⟩ := step_path hM h lt
  refine xss_set 3 (x := encE e) (xe_ixT (xe_ixT (xe_var 0 rfl (pv 0)) xe_int enc_st) (xe_var 1 rfl (pv 1)) (map_at he)) ?_ sc_law_step.nd
  rw [← h0]
  refine xss_cons (M := fun ρ => ∃ s4, ρ = [.d (encA M), .d (nt sym), .l (nts ss), .d (cur ss.length), s4]) (xs_forD (I := fun i ρ => ∃ s4, ρ = [.d (encA M), .d (nt sym), .l (nts ss), .d (cur i), s4]) (xi_name 2 rfl (pv 2)) (pg_name (i := 4) sc_law_step.nd rfl (.inl rfl)) (sg_name 4) ⟨_, rfl⟩ (fun i d ρ1 hd hI => ⟨trivial, ?_⟩) (fun ρ1 hI => by rw [List.length_map] at hI; exact hI)) (fun ρ1 e1 => ?_)
  · obtain ⟨x, hx, rfl⟩ := nts_get hd
    obtain ⟨s4, rfl⟩ := hI
    obtain ⟨ds, e1, e2⟩ := hst i x hx
    rw [e1]
    exact xss_set 3 (xe_ixT (xe_var 3 rfl (pv 3)) (xe_var 4 rfl (pv 4)) (ix_at e2)) (xss_nil ⟨_, rfl⟩) sc_law_step.nd
  · obtain ⟨s4, rfl⟩ := e1
    exact xss_one (xs_retD (xe_var 3 rfl (pv 3)) (by rw [hend]; rfl))
end
end PW

-- V2
/-! V2: _law_automaton. -/
namespace PW
open PySem PySem.Spec PyProof.Rows L2 PL Ma
section
variable {P : Program} {w : World} {K : PySem.W.Frag} {mg : Str → Option Value} {base : Heap}
/-- the entries laid so far -/
structure Ents (l : List Nat) (n i : Nat) (es : List Ent) : Prop where
  len : es.length = i
  ok : ∀ (j a : Nat) (e : Ent), l[j]? = some a → es[j]? = some e → Ent.ok n a e
theorem Ents.snoc {l : List Nat} {n i a : Nat} {es : List Ent} {e : Ent} (h : Ents l n i es) (ha : l[i]? = some a) (ok : Ent.ok n a e) : Ents l n (i + 1) (es ++ [e]) := by
  refine ⟨by rw [List.length_append, h.len]; rfl, fun j b e' hj he => ?_⟩
  by_cases hji : j < es.length
  · rw [List.getElem?_append_left hji] at he
    exact h.ok j b e' hj he
  · rw [List.getElem?_append_right (by omega)] at he
    have := (List.getElem?_eq_some_iff.mp he).1
    have e0 : j = i := by
      have := h.len
      simp at *
      omega
    subst e0
    rw [h.len, Nat.sub_self] at he
    rw [ha] at hj
    cases hj
    cases he
    exact ok
theorem Ents.wf {l : List Nat} {gs : List Bool} {es : List Ent} (h : Ents l gs.length l.length es) (hl : l ∈ arList) (n1 : 1 ≤ gs.length) (n4 : gs.length ≤ 4) : (Au.mk l gs es).Wf := ⟨n1, n4, h.len, hl, h.ok⟩
theorem xe_next (T : Tx K mg) {X : Cx} (hP : X.prog = P) (hw : X.w = w) (hK : X.K = K) (hmg : X.mg = mg) (hb : X.base = base) {ρ : List SD} {j : Nat} {p pos : Pos} {a b : Expr} {ns : List Int} {m : Nat} (hr : Room j X.A) (ha : XE X ρ a (fun r => r = .st ns)) {c : Int} (hbb : XD X ρ b (.int c)) (hm : 1 ≤ m ∧ m < 1000000) (hcm : c = (m : Int) := by first | rfl | decide | omega) (hk : 1 ≤ j := by decide) (hg : Gl X "_law_next" := by rfl)
    (he : starEach [a, b] X.env = (false, eval a X.env) :: starEach [b] X.env := by rfl) (he2 : starEach [b] X.env = (false, eval b X.env) :: starEach [] X.env := by rfl) (hpl : (backTo pos (starEach [b] X.env)).any (·.1) = false := by rfl) :
    XE X ρ (.Call (.Name "_law_next" p) [a, b] [] pos) (fun r => ∃ d : Nat, d < m ∧ r = .d (nt d)) := by
  subst hP hw hK hmg hb hcm
  exact xe_call (c_law_next T) hr (Aa := fun rs => rs = [.st ns, .d (nt m)]) (xa_cons ha (xa_cons hbb xa_nil he2) he) (fun rs e => ⟨⟨(ns, m), hm⟩, e.symm, fun r ⟨d, h1, h2⟩ => ⟨⟨_, h2⟩, d, h1, h2⟩⟩) hk hg (by decide) he hpl
def F_law_automaton : FS (List Int) := ⟨fun a => [.st a, .d (nt 3)], fun a r => ∃ A : Au, A.Wf ∧ r = .d (encA A)⟩
abbrev arD : List PyData := arList.map fun l => .tuple (nts l)
theorem c_law_automaton (T : Tx K mg) : Cl P w K mg base 2 "_law_automaton" F_law_automaton.sp := by
  refine cl_mk F_law_automaton T.f_law_automaton sc_law_automaton (fun _ => rfl) (fun _ => rfl) (by decide) ?_
  intro f cdv A outer s H E hr ns
  refine xss_setN 2 (Φ := fun r => ∃ l, l ∈ arList ∧ r = .d (.tuple (nts l))) (xe_ixLN (Φ := fun r => r = .l arD) (XF.toL (xf_lstA (xd_cons (xe_tupA (xd_cons xe_int (xd_cons xe_int (xd_cons xe_int xd_nil)))) (xd_cons (xe_tupA (xd_cons xe_int (xd_cons xe_int xd_nil))) (xd_cons (xe_tupA (xd_cons xe_int (xd_cons xe_int (xd_cons xe_int xd_nil)))) (xd_cons (xe_tupA (xd_cons xe_int (xd_cons xe_int (xd_cons xe_int xd_nil)))) (xd_cons (xe_tupA (xd_cons xe_int (xd_cons xe_int (xd_cons xe_int (xd_cons xe_int xd_nil))))) (xd_cons (xe_tupA (xd_cons xe_int (xd_cons xe_int (xd_cons xe_int xd_nil)))) xd_nil)))))))) (xe_next T rfl rfl rfl rfl rfl hr (m := 6) (xe_varS 0 rfl (pv 0)) xe_int (by decide)) ?_) (fun r ⟨l, _, h⟩ => ⟨_, h⟩) (fun x ⟨l, hl, hx⟩ => ?_) sc_law_automaton.nd
  · rintro x y rfl ⟨d, hd, rfl⟩
    have hi : d < arList.length := hd
    exact ⟨_, _, _, rfl, rfl, map_at (List.getElem?_eq_getElem hi), _, List.getElem_mem hi, rfl⟩
  cases hx
  refine xss_setN 3 (Φ := fun r => ∃ n : Nat, (2 ≤ n ∧ n ≤ 3) ∧ r = .d (nt n)) (xe_addN xe_int (xe_next T rfl rfl rfl rfl rfl hr (m := 2) (xe_varS 0 rfl (pv 0)) (xe_sub (xe_var 1 rfl (pv 1)) xe_int) (by decide)) ?_) (fun r ⟨n, _, h⟩ => ⟨_, h⟩) (fun x ⟨n, hn, hx⟩ => ?_) sc_law_automaton.nd
  · rintro x y rfl ⟨d, hd, rfl⟩
    exact ⟨2, d, rfl, rfl, 2 + d, by omega, rfl⟩
  cases hx
  have hN : (1 ≤ n ∧ n < 1000000) := by omega
  refine xss_cons (xs_setLcN 4 (own := [("_law_k", 5)]) (lcQ (fun x => ∃ b, x = .bool b) (XI.toC (xi_range1 (n := n) (xe_var 3 rfl (pv 3)) (by omega) T.b_range)) (sg_name 5) (fun _ _ _ _ _ => (pg_name (i := 5) sc_law_automaton.nd rfl (by first | exact .inl rfl | exact .inr rfl))) (fun d hd => ⟨trivial, fun _ _ _ _ _ => xe_eqIN (xe_next T rfl rfl rfl rfl rfl hr (m := 2) (xe_varS 0 rfl (pv 0)) xe_int (by decide)) xe_int ?_⟩) (by rw [rngD_len]; omega)) sc_law_automaton.nd (blkOk_by (N := n_law_automaton) (sc := defScope s_law_automaton) (by decide +kernel)) (sw_true rfl rfl rfl (by decide +kernel))) (fun ρ1 ⟨ad4, ds, ⟨e1, e1'⟩, e2⟩ => ?_)
  · rintro x y ⟨d, hd, rfl⟩ rfl
    exact ⟨d, 0, rfl, rfl, _, rfl, _, rfl⟩
  obtain ⟨gs, rfl, hgl⟩ := bls_of e1'
  rw [List.length_map, rngD_len] at e1
  have hg0 := e1
  subst e2
  refine xss_setF 6 (xf_lstA xd_nil) (fun ad ds e1 => ?_) sc_law_automaton.nd
  subst e1
  refine xss_cons (M := fun ρ => ∃ ad es s5 s7 s8, ρ = [.st ns, .d (nt 3), .d (.tuple (nts l)), .d (nt n), .ol ad4 (gs.map PyData.bool), s5, .ol ad (es.map encE), s7, s8, .no] ∧ Ents l n l.length es) (xs_forD (I := fun i ρ => ∃ ad es s5 s7 s8, ρ = [.st ns, .d (nt 3), .d (.tuple (nts l)), .d (nt n), .ol ad4 (gs.map PyData.bool), s5, .ol ad (es.map encE), s7, s8, .no] ∧ Ents l n i es) (xi_tupD (xe_var 2 rfl (pv 2))) (pg_name (i := 7) sc_law_automaton.nd rfl (by first | exact .inl rfl | exact .inr rfl)) (sg_name 7) ⟨ad, [], .no, .no, .no, rfl, ⟨rfl, fun j a e _ h => by simp at h⟩⟩ (fun i d ρ1 hd hI => ⟨trivial, ?_⟩) (fun ρ1 hI => by rw [List.length_map] at hI; exact hI)) (fun ρ1 e1 => ?_)
  · obtain ⟨a, ha, rfl⟩ := nts_get hd
    obtain ⟨ad, es, s5, s7, s8, rfl, hes⟩ := hI
    have hl4 := (ar_small l hl).2.2
    have hil := (List.getElem?_eq_some_iff.mp ha).1
    have hz : (es.map encE).length < 100000 := by rw [List.length_map, hes.len]; omega
    rcases (by have := (ar_small l hl).1 a (List.mem_of_getElem? ha); omega : a = 0 ∨ a = 1 ∨ a = 2) with rfl | rfl | rfl
    · refine xss_one (xs_if (xt_eqI (xe_var 7 rfl (pv 7)) xe_int) (fun hc => ?_) (fun hc => absurd hc (by decide)))
      refine xss_cons (xs_appN 6 rfl (pv 6) (xe_next T rfl rfl rfl rfl rfl hr (m := n) (xe_varS 0 rfl (pv 0)) (xe_var 3 rfl (pv 3)) hN) (fun r ⟨d, _, h⟩ => ⟨_, h⟩) hz (fun te h => pe_bm PySem.F.plainAttrs_list PySem.F.slot_list_append PySem.F.type_list_append mt_append (pv 6) (pa_cons h pa_nil))) (fun ρ1 ⟨x, ⟨d, hd, e1⟩, e2⟩ => ?_)
      cases e1
      subst e2
      exact xss_nil ⟨ad, es ++ [.e0 d], _, _, _, by rw [List.map_append]; rfl, hes.snoc (e := .e0 d) ha ⟨rfl, hd⟩⟩
    · refine xss_one (xs_if (xt_eqI (xe_var 7 rfl (pv 7)) xe_int) (fun hc => absurd hc (by decide)) (fun hc => ?_))
      refine xss_one (xs_if (xt_eqI (xe_var 7 rfl (pv 7)) xe_int) (fun hc => ?_) (fun hc => absurd hc (by decide)))
      refine xss_cons (xs_appN 6 rfl (pv 6) (xe_tupleN (Θ := fun r => ∃ q : List Nat, r = .d (.tuple (nts q)) ∧ q.length = n ∧ ∀ x ∈ q, x < n) (XF.toE (xf_lcN (own := [("_law_k", 5)]) (lcQ (fun x => ∃ d : Nat, d < n ∧ x = nt d) (XI.toC (xi_range1 (n := n) (xe_var 3 rfl (pv 3)) (by omega) T.b_range)) (sg_name 5) (fun _ _ _ _ _ => (pg_name (i := 5) sc_law_automaton.nd rfl (by first | exact .inl rfl | exact .inr rfl))) (fun d hd => ⟨trivial, fun _ _ _ _ _ => XE.weak (xe_next T rfl rfl rfl rfl rfl hr (m := n) (xe_varS 0 rfl (pv 0)) (xe_var 3 rfl (pv 3)) hN) fun r ⟨d, h1, h2⟩ => ⟨_, h2, d, h1, rfl⟩⟩) (by rw [rngD_len]; omega)) sc_law_automaton.nd (blkOk_by (N := n_law_automaton) (sc := defScope s_law_automaton) (by decide +kernel)))) ?_ T.b_tuple) (fun r ⟨q, h, _⟩ => ⟨_, h⟩) hz (fun te h => pe_bm PySem.F.plainAttrs_list PySem.F.slot_list_append PySem.F.type_list_append mt_append (pv 6) (pa_cons h pa_nil))) (fun ρ1 ⟨x, ⟨q, e1, hq⟩, e2⟩ => ?_)
      · rintro ds ⟨h1, h2⟩
        obtain ⟨q, rfl, h3, h4⟩ := nts_of h2
        rw [rngD_len] at h1
        exact ⟨q, rfl, by rw [h3, h1], h4⟩
      · cases e1
        subst e2
        exact xss_nil ⟨ad, es ++ [.e1 q], _, _, _, by rw [List.map_append]; rfl, hes.snoc (e := .e1 q) ha ⟨rfl, hq.1, hq.2⟩⟩
    · refine xss_one (xs_if (xt_eqI (xe_var 7 rfl (pv 7)) xe_int) (fun hc => absurd hc (by decide)) (fun hc => ?_))
      refine xss_one (xs_if (xt_eqI (xe_var 7 rfl (pv 7)) xe_int) (fun hc => absurd hc (by decide)) (fun hc => ?_))
      refine xss_setF 8 (xf_lstA xd_nil) (fun ad8 ds e1 => ?_) sc_law_automaton.nd
      subst e1
      refine xss_cons (M := fun ρ => ∃ s5 z, ρ = [.st ns, .d (nt 3), .d (.tuple (nts l)), .d (nt n), .ol ad4 (gs.map PyData.bool), s5, .ol ad (es.map encE), .d (nt 2), .ol ad8 z, .no] ∧ z.length = n ∧ ∀ x ∈ z, ∃ r : List Nat, r.length = n ∧ (∀ y ∈ r, y < n) ∧ x = .tuple (nts r))
        (xs_forD (I := fun j ρ => ∃ s5 z, ρ = [.st ns, .d (nt 3), .d (.tuple (nts l)), .d (nt n), .ol ad4 (gs.map PyData.bool), s5, .ol ad (es.map encE), .d (nt 2), .ol ad8 z, .no] ∧ z.length = j ∧ ∀ x ∈ z, ∃ r : List Nat, r.length = n ∧ (∀ y ∈ r, y < n) ∧ x = .tuple (nts r)) (xi_range1 (n := n) (xe_var 3 rfl (pv 3)) (by omega) T.b_range) (pg_name (i := 5) sc_law_automaton.nd rfl (by first | exact .inl rfl | exact .inr rfl)) (sg_name 5) ⟨s5, [], rfl, rfl, by simp⟩ (fun j d ρ1 hd hI => ⟨trivial, ?_⟩) (fun ρ1 hI => by rw [rngD_len] at hI; exact hI)) (fun ρ1 e1 => ?_)
      · obtain ⟨s5, z, rfl, hzl, hzq⟩ := hI
        obtain ⟨hj, rfl⟩ := rngD_get hd
        refine xss_cons (xs_appN 8 rfl (pv 8) (xe_tupleN (Θ := fun r => ∃ q : List Nat, r = .d (.tuple (nts q)) ∧ q.length = n ∧ ∀ x ∈ q, x < n) (XF.toE (xf_lcN (own := [("_law_j", 9)]) (lcQ (fun x => ∃ d : Nat, d < n ∧ x = nt d) (XI.toC (xi_range1 (n := n) (xe_var 3 rfl (pv 3)) (by omega) T.b_range)) (sg_name 9) (fun _ _ _ _ _ => (pg_name (i := 9) sc_law_automaton.nd rfl (by first | exact .inl rfl | exact .inr rfl))) (fun d hd => ⟨trivial, fun _ _ _ _ _ => XE.weak (xe_next T rfl rfl rfl rfl rfl hr (m := n) (xe_varS 0 rfl (pv 0)) (xe_var 3 rfl (pv 3)) hN) fun r ⟨d, h1, h2⟩ => ⟨_, h2, d, h1, rfl⟩⟩) (by rw [rngD_len]; omega)) sc_law_automaton.nd (blkOk_by (N := n_law_automaton) (sc := defScope s_law_automaton) (by decide +kernel)))) ?_ T.b_tuple) (fun r ⟨q, h, _⟩ => ⟨_, h⟩) (by omega) (fun te h => pe_bm PySem.F.plainAttrs_list PySem.F.slot_list_append PySem.F.type_list_append mt_append (pv 8) (pa_cons h pa_nil))) (fun ρ1 ⟨x, ⟨q, e1, hq⟩, e2⟩ => ?_)
        · rintro ds ⟨h1, h2⟩
          obtain ⟨q, rfl, h3, h4⟩ := nts_of h2
          rw [rngD_len] at h1
          exact ⟨q, rfl, by rw [h3, h1], h4⟩
        · cases e1
          subst e2
          refine xss_nil ⟨_, z ++ [.tuple (nts q)], rfl, by rw [List.length_append, hzl]; rfl, fun x hx => ?_⟩
          rcases List.mem_append.mp hx with hx | hx
          · exact hzq x hx
          · simp at hx; exact ⟨q, hq.1, hq.2, hx⟩
      · obtain ⟨s5, z, rfl, hzl, hzq⟩ := e1
        obtain ⟨rs, rfl, h3, h4⟩ := rows_of_z hzq
        rw [List.length_map] at hzl
        refine xss_cons (xs_appN 6 rfl (pv 6) (xe_tuple (xe_varO 8 rfl (pv 8)) T.b_tuple) (fun r h => ⟨_, h⟩) hz (fun te h => pe_bm PySem.F.plainAttrs_list PySem.F.slot_list_append PySem.F.type_list_append mt_append (pv 6) (pa_cons h pa_nil))) (fun ρ1 ⟨x, e1, e2⟩ => ?_)
        cases e1
        subst e2
        exact xss_nil ⟨ad, es ++ [.e2 rs], _, _, _, by rw [List.map_append]; rfl, hes.snoc (e := .e2 rs) ha ⟨rfl, hzl, h4⟩⟩
  · obtain ⟨ad, es, s5, s7, s8, rfl, hes⟩ := e1
    have hgn : gs.length = n := hg0
    refine xss_one (xs_retD (xe_tupA (xd_cons (xe_var 2 rfl (pv 2)) (xd_cons (xe_tuple (xe_varO 4 rfl (pv 4)) T.b_tuple) (xd_cons (xe_tuple (xe_varO 6 rfl (pv 6)) T.b_tuple) xd_nil)))) ?_)
    subst hgn
    exact ⟨⟨l, gs, es⟩, hes.wf hl (by omega) (by omega), rfl⟩
end
end PW

-- V3
/-! V3: _law_trees. -/
namespace PL
open PySem PySem.Spec PyProof.Rows L2
theorem xf_catD {X : Cx} {ρ : List SD} {a b : Expr} {pos : Pos} {ds es : List PyData} (ha : XE X ρ a (fun r => r = .l ds)) (hb : XE X ρ b (fun r => r = .l es)) (hl : ds.length + es.length ≤ 100000) : XF X ρ (.BinOp a .Add b pos) (fun z => z = ds ++ es) :=
  xf_cat (A := fun z => z = ds) (B := fun z => z = es) (XE.weak ha fun r h => ⟨ds, h, rfl⟩) (XE.weak hb fun r h => ⟨es, h, rfl⟩) fun x y hx hy => by subst hx; subst hy; exact ⟨hl, rfl⟩
end PL
namespace PW
open PySem PySem.Spec PyProof.Rows L2 PL Ma
def encTr : Tr → PyData
  | .n0 s => .tuple [nt s]
  | .n1 s t => .tuple [nt s, encTr t]
  | .n2 s t u => .tuple [nt s, encTr t, encTr u]
abbrev encTs (l : List Tr) : List PyData := l.map encTr
abbrev encTss (ls : List (List Tr)) : List (List PyData) := ls.map encTs
theorem encTss_at {ls : List (List Tr)} {i : Nat} (h : i < ls.length) : atI (encTss ls) (i : Int) = some (encTs (ls.getD i [])) := by
  rw [getD_of (List.getElem?_eq_getElem h)]
  exact atI_nat (by rw [List.getElem?_map, List.getElem?_eq_getElem h]; rfl)
section
variable {P : Program} {w : World} {K : PySem.W.Frag} {mg : Str → Option Value} {base : Heap}
def F_law_trees : FS {ar : List Nat // ar ∈ arList} := ⟨fun a => [.d (.tuple (nts a.1)), .d (nt (mostT a.1))], fun a r => r = .l2 (encTss (sizesT a.1 (mostT a.1)))⟩
theorem mostT_le (ar : List Nat) : 4 ≤ mostT ar ∧ mostT ar ≤ 5 := by unfold mostT; split <;> omega
theorem c_law_trees (T : Tx K mg) : Cl P w K mg base 1 "_law_trees" F_law_trees.sp := by
  refine cl_mk F_law_trees T.f_law_trees sc_law_trees (fun _ => rfl) (fun _ => rfl) (by decide) ?_
  intro f cdv A outer s H E hr ⟨ar, har⟩
  have hm := mostT_le ar
  have har4 := ar_small ar har
  refine xss_cons (xs_newO2 2 (xf_lstA xd_nil) sc_law_trees.nd) (fun ρ1 ⟨ad2, e1⟩ => ?_)
  subst e1
  refine xss_cons (M := fun ρ => ∃ s3 s4 s5 s6 s7, ρ = [.d (.tuple (nts ar)), .d (nt (mostT ar)), .o2 ad2 (encTss (sizesT ar (mostT ar))), s3, s4, s5, s6, s7, .no])
    (xs_forD (I := fun i ρ => ∃ s3 s4 s5 s6 s7, ρ = [.d (.tuple (nts ar)), .d (nt (mostT ar)), .o2 ad2 (encTss (sizesT ar i)), s3, s4, s5, s6, s7, .no]) (xi_range2 (i := 1) (j := (mostT ar : Int) + 1) xe_int (xe_add (xe_var 1 rfl (pv 1)) xe_int) (by omega) T.b_range) (pg_name (i := 3) sc_law_trees.nd rfl (by first | exact .inl rfl | exact .inr rfl)) (sg_name 3) ⟨.no, .no, .no, .no, .no, rfl⟩ (fun k d ρ1 hd hI => ⟨trivial, ?_⟩) (fun ρ1 hI => ?_)) (fun ρ1 e1 => ?_)
  · obtain ⟨hk, rfl⟩ := rngD_get hd
    have hk : k < mostT ar := by omega
    obtain ⟨s3, s4, s5, s6, s7, rfl⟩ := hI
    have hsz : (1 + (k : Int)) = ((k + 1 : Nat) : Int) := by omega
    rw [hsz]
    generalize hS : sizesT ar k = S
    have hSl : S.length = k + 1 := by rw [← hS]; exact sizesT_len ar k
    have htot : (upA ar (symT S (k + 1)) ar.length).length ≤ 400 := by
      refine (sizesT_row har (k := k + 1) hk (row := _) ?_).1
      rw [← hS]
      exact List.mem_append_right _ (by simp)
    have hrow : ∀ j, ((S.getD j []).length ≤ 400) := fun j => by
      by_cases hj : j < S.length
      · rw [getD_of (List.getElem?_eq_getElem hj)]
        exact (sizesT_row har (Nat.le_of_lt hk) (by rw [hS]; exact List.getElem_mem hj)).1
      · rw [List.getD, List.getElem?_eq_none (by omega)]; simp
    refine xss_setF 4 (xf_lstA xd_nil) (fun ad4 ds e1 => ?_) sc_law_trees.nd
    subst e1
    refine xss_cons (M := fun ρ => ∃ a4 s5 s6 s7, ρ = [.d (.tuple (nts ar)), .d (nt (mostT ar)), .o2 ad2 (encTss S), .d (nt (k + 1)), .ol a4 (encTs (upA ar (symT S (k + 1)) ar.length)), s5, s6, s7, .no])
      (xs_forD (I := fun i ρ => ∃ a4 s5 s6 s7, ρ = [.d (.tuple (nts ar)), .d (nt (mostT ar)), .o2 ad2 (encTss S), .d (nt (k + 1)), .ol a4 (encTs (upA ar (symT S (k + 1)) i)), s5, s6, s7, .no]) (xi_range1 (n := ar.length) (XE.weak (xe_lenT (xe_var 0 rfl (pv 0)) T.b_len) fun r h => by rw [h, List.length_map]) (by omega) T.b_range) (pg_name (i := 5) sc_law_trees.nd rfl (by first | exact .inl rfl | exact .inr rfl)) (sg_name 5) ⟨ad4, s5, s6, s7, rfl⟩ (fun i d ρ1 hd hI => ⟨trivial, ?_⟩) (fun ρ1 hI => by rw [rngD_len] at hI; exact hI)) (fun ρ1 e1 => ?_)
    · obtain ⟨hi, rfl⟩ := rngD_get hd
      rw [show ((0 : Int) + (i : Int)) = (i : Int) by omega]
      obtain ⟨a4, s5, s6, s7, rfl⟩ := hI
      have ha := List.getElem?_eq_getElem hi
      have ha2 := har4.1 _ (List.getElem_mem hi)
      generalize ar[i] = a at ha ha2
      have hat := nts_at ha
      rw [upA_succ ha]
      have hle : (upA ar (symT S (k + 1)) i).length + (symT S (k + 1) i a).length ≤ 400 := by
        refine Nat.le_trans ?_ htot
        rw [← List.length_append, ← upA_succ ha]
        exact range_len hi
      generalize upA ar (symT S (k + 1)) i = F at hle ⊢
      have hF : (encTs F).length ≤ 400 := by rw [List.length_map]; omega
      rcases (by omega : a = 0 ∨ a = 1 ∨ a = 2) with rfl | rfl | rfl
      · -- no place
        refine xss_cons (M := fun ρ => ρ = [.d (.tuple (nts ar)), .d (nt (mostT ar)), .o2 ad2 (encTss S), .d (nt (k + 1)), .ol a4 (encTs (F ++ symT S (k + 1) i 0)), .d (nt i), s6, s7, .no]) (xs_if (xw_pt (xw_and (xt_eqI (xe_ixT (xe_var 0 rfl (pv 0)) (xe_var 5 rfl (pv 5)) hat) xe_int) fun _ => (xw_and1 (xt_eqI (xe_var 3 rfl (pv 3)) xe_int)))) (fun hc => ?_) (fun hc => ?_)) (fun ρ1 e1 => ?_)
        · have hk1 : k + 1 = 1 := by
            have := (Bool.and_eq_true_iff.mp hc).2
            have := of_decide_eq_true this
            omega
          refine xss_cons (xs_appN 4 rfl (pv 4) (xe_tupA (xd_cons (xe_var 5 rfl (pv 5)) xd_nil)) (fun r h => ⟨_, h⟩) (by omega) (fun te h => pe_bm PySem.F.plainAttrs_list PySem.F.slot_list_append PySem.F.type_list_append mt_append (pv 4) (pa_cons h pa_nil))) (fun ρ1 ⟨x, e1, e2⟩ => ?_)
          cases e1
          subst e2
          refine xss_nil ?_
          rw [show symT S (k + 1) i 0 = [.n0 i] from if_pos hk1]
          show _ = [_, _, _, _, SD.ol a4 (List.map encTr (F ++ [Tr.n0 i])), _, _, _, _]
          rw [List.map_append]
          rfl
        · have hk1 : ¬ k + 1 = 1 := fun e => by
            have : ((k + 1 : Nat) : Int) = 1 := by omega
            rw [decide_eq_true this] at hc
            exact absurd hc (by decide)
          refine xss_nil ?_
          rw [show symT S (k + 1) i 0 = [] from if_neg hk1, List.append_nil]
          rfl
        · subst e1
          refine xss_ifF (xt_eqI (xe_ixT (xe_var 0 rfl (pv 0)) (xe_var 5 rfl (pv 5)) hat) xe_int) rfl ?_
          refine xss_ifF (xt_eqI (xe_ixT (xe_var 0 rfl (pv 0)) (xe_var 5 rfl (pv 5)) hat) xe_int) rfl ?_
          exact xss_nil ⟨_, _, _, _, rfl⟩
      · -- one place
        refine xss_ifF (xw_pt (xw_and (q := true) (xt_eqI (xe_ixT (xe_var 0 rfl (pv 0)) (xe_var 5 rfl (pv 5)) hat) xe_int) fun h => absurd h (by decide))) rfl ?_
        refine xss_ifY (M := fun ρ => ∃ a4, ρ = [.d (.tuple (nts ar)), .d (nt (mostT ar)), .o2 ad2 (encTss S), .d (nt (k + 1)), .ol a4 (encTs (F ++ symT S (k + 1) i 1)), .d (nt i), s6, s7, .no]) (xt_eqI (xe_ixT (xe_var 0 rfl (pv 0)) (xe_var 5 rfl (pv 5)) hat) xe_int) rfl ?_ (fun ρ1 e1 => ?_)
        · refine xss_setF 4 (xf_catD (xe_varO 4 rfl (pv 4)) (XF.toL (xf_lcN (own := [("_law_child", 6)]) (lcD (ds := encTs (S.getD k [])) (F := fun d => .tuple [nt i, d]) (xc_listD (xe_ixL2 (xe_varO2 2 rfl (pv 2)) (xe_sub (xe_var 3 rfl (pv 3)) xe_int) ?_)) (sg_name 6) (fun _ _ _ _ _ => (pg_name (i := 6) sc_law_trees.nd rfl (by first | exact .inl rfl | exact .inr rfl))) (fun d hd => ⟨trivial, fun _ _ _ _ _ => (xe_tupA (xd_cons (xe_var 5 rfl (pv 5)) (xd_cons (xe_var 6 rfl (pv 6)) xd_nil)))⟩) (by rw [List.length_map]; have := hrow k; omega)) sc_law_trees.nd (blkOk_by (N := n_law_trees) (sc := defScope s_law_trees) (by decide +kernel)))) (by rw [List.length_map, List.length_map, List.length_map]; have := hrow k; omega)) (fun ad ds e1 => ?_) sc_law_trees.nd
          · rw [show ((k + 1 : Nat) : Int) - 1 = (k : Int) by omega]
            exact encTss_at (by omega)
          · subst e1
            refine xss_nil ⟨ad, ?_⟩
            have : encTs (F ++ symT S (k + 1) i 1) = encTs F ++ (encTs (S.getD k [])).map (fun d => .tuple [nt i, d]) := by
              rw [encTs, List.map_append]
              show _ ++ List.map encTr ((S.getD (k + 1 - 1) []).map (.n1 i)) = _
              rw [List.map_map, List.map_map]
              rfl
            rw [this]
            rfl
        · obtain ⟨a4, rfl⟩ := e1
          refine xss_ifF (xt_eqI (xe_ixT (xe_var 0 rfl (pv 0)) (xe_var 5 rfl (pv 5)) hat) xe_int) rfl ?_
          exact xss_nil ⟨_, _, _, _, rfl⟩
      · -- two places
        refine xss_ifF (xw_pt (xw_and (q := true) (xt_eqI (xe_ixT (xe_var 0 rfl (pv 0)) (xe_var 5 rfl (pv 5)) hat) xe_int) fun h => absurd h (by decide))) rfl ?_
        refine xss_ifF (xt_eqI (xe_ixT (xe_var 0 rfl (pv 0)) (xe_var 5 rfl (pv 5)) hat) xe_int) rfl ?_
        refine xss_ifY (M := fun ρ => ∃ a4 s6 s7, ρ = [.d (.tuple (nts ar)), .d (nt (mostT ar)), .o2 ad2 (encTss S), .d (nt (k + 1)), .ol a4 (encTs (F ++ symT S (k + 1) i 2)), .d (nt i), s6, s7, .no]) (xt_eqI (xe_ixT (xe_var 0 rfl (pv 0)) (xe_var 5 rfl (pv 5)) hat) xe_int) rfl ?_ (fun ρ1 e1 => ?_)
        · generalize hg : (fun j => (S.getD (j + 1) []).flatMap fun c => (S.getD (k + 1 - 1 - (j + 1)) []).map fun o => Tr.n2 i c o) = g
          have hsym : symT S (k + 1) i 2 = (List.range (k + 1 - 2)).flatMap g := by rw [← hg]; rfl
          rw [hsym] at hle ⊢
          refine xss_one (xs_forD (I := fun j ρ => ∃ a4 s6 s7, ρ = [.d (.tuple (nts ar)), .d (nt (mostT ar)), .o2 ad2 (encTss S), .d (nt (k + 1)), .ol a4 (encTs (F ++ (List.range j).flatMap g)), .d (nt i), s6, s7, .no]) (xi_range2 xe_int (xe_sub (xe_var 3 rfl (pv 3)) xe_int) (by omega) T.b_range) (pg_name (i := 7) sc_law_trees.nd rfl (by first | exact .inl rfl | exact .inr rfl)) (sg_name 7) ⟨a4, s6, s7, by rw [List.range_zero, List.flatMap_nil, List.append_nil]; rfl⟩ (fun j d ρ1 hd hI => ⟨trivial, ?_⟩) (fun ρ1 hI => ?_))
          · obtain ⟨hj, rfl⟩ := rngD_get hd
            have hj : j < k + 1 - 2 := by omega
            obtain ⟨a4, s6, s7, rfl⟩ := hI
            rw [show (1 + (j : Int)) = ((j + 1 : Nat) : Int) by omega]
            have hle2 : (F ++ (List.range j).flatMap g).length + (g j).length ≤ 400 := by
              refine Nat.le_trans ?_ hle
              rw [List.length_append, Nat.add_assoc]
              refine Nat.add_le_add_left ?_ _
              have h1 := range_len (f := g) (m := j + 1) (n := k + 1 - 2) hj
              rw [List.range_succ, List.flatMap_append, List.flatMap_singleton, List.length_append] at h1
              exact h1
            rw [List.range_succ, List.flatMap_append, List.flatMap_singleton, ← List.append_assoc]
            generalize F ++ (List.range j).flatMap g = F2 at hle2 ⊢
            have hgj : g j = (S.getD (j + 1) []).flatMap fun c => (S.getD (k + 1 - 1 - (j + 1)) []).map fun o => Tr.n2 i c o := by rw [← hg]
            rw [hgj] at hle2 ⊢
            generalize hR : S.getD (k + 1 - 1 - (j + 1)) [] = Rr at hle2 ⊢
            have hRl : Rr.length ≤ 400 := by rw [← hR]; exact hrow _
            refine xss_one (xs_forD (ds := encTs (S.getD (j + 1) [])) (I := fun m ρ => ∃ a4 s6, ρ = [.d (.tuple (nts ar)), .d (nt (mostT ar)), .o2 ad2 (encTss S), .d (nt (k + 1)), .ol a4 (encTs (F2 ++ ((S.getD (j + 1) []).take m).flatMap fun c => Rr.map fun o => Tr.n2 i c o)), .d (nt i), s6, .d (nt (j + 1)), .no]) (xi_ixO2 2 rfl (pv 2) (xe_var 7 rfl (pv 7)) (encTss_at (by omega))) (pg_name (i := 6) sc_law_trees.nd rfl (by first | exact .inl rfl | exact .inr rfl)) (sg_name 6) ⟨a4, s6, by rw [List.take_zero, List.flatMap_nil, List.append_nil]; rfl⟩ (fun m d ρ1 hd hI => ⟨trivial, ?_⟩) (fun ρ1 hI => ?_))
            · obtain ⟨a4, s6, rfl⟩ := hI
              rw [List.getElem?_map] at hd
              cases hc : (S.getD (j + 1) [])[m]? with
              | none => rw [hc] at hd; cases hd
              | some c =>
                rw [hc] at hd
                cases hd
                have hle3 : (F2 ++ ((S.getD (j + 1) []).take m).flatMap fun c => Rr.map fun o => Tr.n2 i c o).length ≤ 400 := by
                  rw [List.length_append]
                  have := take_len (f := fun c => Rr.map fun o => Tr.n2 i c o) (S.getD (j + 1) []) m
                  omega
                rw [Ma.take_next hc, List.flatMap_append, List.flatMap_singleton, ← List.append_assoc]
                generalize F2 ++ ((S.getD (j + 1) []).take m).flatMap (fun c => Rr.map fun o => Tr.n2 i c o) = F3 at hle3 ⊢
                refine xss_setF 4 (xf_catD (xe_varO 4 rfl (pv 4)) (XF.toL (xf_lcN (own := [("_law_other", 8)]) (lcD (ds := encTs Rr) (F := fun d => .tuple [nt i, encTr c, d]) (xc_listD (xe_ixL2 (xe_varO2 2 rfl (pv 2)) (xe_sub (xe_sub (xe_var 3 rfl (pv 3)) xe_int) (xe_var 7 rfl (pv 7))) ?_)) (sg_name 8) (fun _ _ _ _ _ => (pg_name (i := 8) sc_law_trees.nd rfl (by first | exact .inl rfl | exact .inr rfl))) (fun d hd => ⟨trivial, fun _ _ _ _ _ => (xe_tupA (xd_cons (xe_var 5 rfl (pv 5)) (xd_cons (xe_var 6 rfl (pv 6)) (xd_cons (xe_var 8 rfl (pv 8)) xd_nil))))⟩) (by rw [List.length_map]; omega)) sc_law_trees.nd (blkOk_by (N := n_law_trees) (sc := defScope s_law_trees) (by decide +kernel)))) (by rw [List.length_map, List.length_map, List.length_map]; omega)) (fun ad ds e1 => ?_) sc_law_trees.nd
                · rw [show ((k + 1 : Nat) : Int) - 1 - ((j + 1 : Nat) : Int) = ((k + 1 - 1 - (j + 1) : Nat) : Int) by omega, ← hR]
                  exact encTss_at (by omega)
                · subst e1
                  refine xss_nil ⟨ad, .d (encTr c), ?_⟩
                  have : encTs (F3 ++ Rr.map fun o => Tr.n2 i c o) = encTs F3 ++ (encTs Rr).map (fun d => .tuple [nt i, encTr c, d]) := by
                    rw [encTs, List.map_append, List.map_map, List.map_map]
                    rfl
                  rw [this]
                  rfl
            · rw [List.length_map, List.take_length] at hI
              obtain ⟨a4, s6, rfl⟩ := hI
              exact ⟨a4, s6, _, rfl⟩
          · rw [rngD_len] at hI
            rw [show ((((k + 1 : Nat) : Int) - 1) - 1).toNat = k + 1 - 2 by omega] at hI
            exact hI
        · obtain ⟨a4, s6, s7, rfl⟩ := e1
          exact xss_nil ⟨_, _, _, _, rfl⟩
    · obtain ⟨a4, s5, s6, s7, rfl⟩ := e1
      refine xss_cons (xs_appO2 2 4 (by decide) rfl (pv 2) rfl (pv 4) (by rw [List.length_map, hSl]; omega) (pe_bm PySem.F.plainAttrs_list PySem.F.slot_list_append PySem.F.type_list_append mt_append (pv 2) (pa_cons (pv 4) pa_nil))) (fun ρ1 e1 => ?_)
      subst e1
      refine xss_nil ⟨.d (nt (k + 1)), .l (encTs (upA ar (symT S (k + 1)) ar.length)), s5, s6, s7, ?_⟩
      rw [show sizesT ar (k + 1) = S ++ [upA ar (symT S (k + 1)) ar.length] by rw [← hS]; rfl]
      show _ = [_, _, SD.o2 ad2 (List.map encTs (S ++ _)), _, _, _, _, _, _]
      rw [List.map_append]
      rfl
  · rw [rngD_len] at hI
    rw [show (((mostT ar : Nat) : Int) + 1 - 1).toNat = mostT ar by omega] at hI
    exact hI
  · obtain ⟨s3, s4, s5, s6, s7, rfl⟩ := e1
    exact xss_one (xs_retO2 2 rfl (pv 2) rfl)
end
end PW

-- V4
/-! V4: _law_thin, _law_some. -/
namespace PL
open PySem PySem.Spec PyProof.Rows L2
/-- xs[..] = e, four numbers below four -/
theorem xs_set4 {X : Cx} {ρ : List SD} {R : SD → Prop} {e b : Expr} {pos p' sp : Pos} {nm : Str} (i : Nat) {ad : Addr} {q : List Nat} (h : ρ[i]? = some (.ol ad (q.map fun (n : Nat) => PyData.int (n : Int)))) (h4 : Row4 q) (hp : PE X (.Name nm p') (tVar i)) (he : XE X ρ e (fun r => ∃ d : Nat, d < 4 ∧ r = .d (.int (d : Int)))) (hb : XE X ρ b (fun r => ∃ d : Nat, d < 4 ∧ r = .d (.int (d : Int))))
    (hs : swapsWithSole [.Subscript (.Name nm p') b sp] e pos.line X.env = pure false := by rfl) (hw : swappedStores [.Subscript (.Name nm p') b sp] e X.env = pure none := by rfl)
    (h1 : (assignEach [.Subscript (.Name nm p') b sp] X.env).map (·.2) = [assign (.Subscript (.Name nm p') b sp) X.env] := by rfl) (ha : ∀ v, assign (.Subscript (.Name nm p') b sp) X.env v = (do
      let ov ← holding [v] (eval (.Name nm p') X.env)
      let iv ← holding [v, ov] (eval b X.env)
      standAt sp
      holding [v, ov, iv] (setItem ov iv v)
      release [v, ov, iv] []) := by intro _; rfl) :
    XS X ρ (.Assign [.Subscript (.Name nm p') b sp] e pos) (fun ρ' => ∃ q', Row4 q' ∧ ρ' = ρ.set i (.ol ad (q'.map fun (n : Nat) => PyData.int (n : Int)))) R :=
  PS.imp (ps_asg he (pg_sub hp hb set_list ha) hs hw h1) fun D σ H ⟨G0, G, l, s0, S, nx, rt⟩ => ⟨G, S, fun v H1 r e1 r1 p1 => by
    obtain ⟨ev, _⟩ := (S.mono e1).slot i _ h
    refine ⟨_, join_some.mp ev, G, S.mono e1, fun w H2 y e2 r2 p2 => ?_⟩
    obtain ⟨x, hx, rfl⟩ := p1
    obtain ⟨d, hd, rfl⟩ := p2
    cases Im.int_inv r1
    have S2 := (S.mono e1).mono e2
    obtain ⟨_, _, xs, hq, him⟩ := S2.slot i _ h
    have hxs : xs = q.map fun (n : Nat) => V.int (n : Int) := by
      have key : ∀ {q : List Nat} {xs : List V}, Ims H2 (q.map fun (n : Nat) => PyData.int (n : Int)) xs → xs = q.map fun (n : Nat) => V.int (n : Int) := by
        intro q
        induction q with
        | nil => intro xs h; cases h; rfl
        | cons a q ih => intro xs h; cases h with
          | cons h1 h2 => cases h1; rw [ih h2]; rfl
      exact key him
    subst hxs
    have im2 : Ims H2 ((q.set d x).map fun (n : Nat) => PyData.int (n : Int)) ((q.map fun (n : Nat) => V.int (n : Int)).set d (.int x)) := by
      rw [show (q.map fun (n : Nat) => V.int (n : Int)).set d (.int x) = (q.set d x).map fun (n : Nat) => V.int (n : Int) by rw [List.map_set]]
      have key : ∀ q : List Nat, Ims H2 (q.map fun (n : Nat) => PyData.int (n : Int)) (q.map fun (n : Nat) => V.int (n : Int)) := by
        intro q
        induction q with
        | nil => exact .nil
        | cons a q ih => exact .cons (.int _) ih
      exact key _
    refine ⟨ad, _, d, d, rfl, Im.int_inv r2, hq, ?_, nx G σ _ _ (Le.refl G) (S2.setL h im2) ⟨q.set d x, ⟨by rw [List.length_set]; exact h4.1, fun y hy => ?_⟩, rfl⟩⟩
    · unfold ixN
      rw [if_pos (by omega), List.length_map, if_pos (by rw [h4.1]; omega), Int.toNat_natCast]
    · rcases List.mem_or_eq_of_mem_set hy with hy | rfl
      · exact h4.2 y hy
      · exact hx⟩
end PL
namespace PW
open PySem PySem.Spec PyProof.Rows L2 PL Ma
section
variable {P : Program} {w : World} {K : PySem.W.Frag} {mg : Str → Option Value} {base : Heap}
def thinList : List (List Nat) := [[0, 0, 2], [0, 0, 2], [0, 0, 1, 2], [0, 1, 2], [0, 2]]
theorem thin_in : ∀ l ∈ thinList, l ∈ arList := by decide
def onePairs : List (Nat × Nat) := [(0, 1), (0, 1), (0, 2), (1, 2), (1, 1)]
def F_law_thin : FS (List Int) := ⟨fun a => [.st a], fun a r => ∃ A : Au, A.Wf ∧ r = .d (encA A)⟩
theorem c_law_thin (T : Tx K mg) : Cl P w K mg base 2 "_law_thin" F_law_thin.sp := by
  refine cl_mk F_law_thin T.f_law_thin sc_law_thin (fun _ => rfl) (fun _ => rfl) (by decide) ?_
  intro f cdv A outer s H E hr ns
  refine xss_setN 1 (Φ := fun r => ∃ l, l ∈ thinList ∧ r = .d (.tuple (nts l))) (xe_ixLN (Φ := fun r => r = .l (thinList.map fun l => .tuple (nts l))) (XF.toL (xf_lstA (xd_cons (xe_tupA (xd_cons xe_int (xd_cons xe_int (xd_cons xe_int xd_nil)))) (xd_cons (xe_tupA (xd_cons xe_int (xd_cons xe_int (xd_cons xe_int xd_nil)))) (xd_cons (xe_tupA (xd_cons xe_int (xd_cons xe_int (xd_cons xe_int (xd_cons xe_int xd_nil))))) (xd_cons (xe_tupA (xd_cons xe_int (xd_cons xe_int (xd_cons xe_int xd_nil)))) (xd_cons (xe_tupA (xd_cons xe_int (xd_cons xe_int xd_nil))) xd_nil))))))) (xe_next T rfl rfl rfl rfl rfl hr (m := 5) (xe_varS 0 rfl (pv 0)) xe_int (by decide)) ?_) (fun r ⟨l, _, h⟩ => ⟨_, h⟩) (fun x ⟨l, hl, hx⟩ => ?_) sc_law_thin.nd
  · rintro x y rfl ⟨d, hd, rfl⟩
    have hi : d < thinList.length := hd
    exact ⟨_, _, _, rfl, rfl, map_at (List.getElem?_eq_getElem hi), _, List.getElem_mem hi, rfl⟩
  cases hx
  have har := thin_in l hl
  have har4 := ar_small l har
  refine xss_newTab 2 (own := [("_law_state_here", 3)]) (ds := rngD 0 4) (by rw [rngD_len]) (XI.toC (xi_range1 (n := 4) xe_int (by decide) T.b_range)) (sg_name 3) (fun _ _ _ _ _ => (pg_name (i := 3) sc_law_thin.nd rfl (by first | exact .inl rfl | exact .inr rfl))) (fun d hd => ⟨trivial, fun _ _ _ _ _ => (xf_rep (ds := [.int 3]) (k := 4) (XF.toL (xf_lstA (xd_cons xe_int xd_nil))) xe_int (by decide) (by decide))⟩) ?_ sc_law_thin.nd (blkOk_by (N := n_law_thin) (sc := defScope s_law_thin) (by decide +kernel)) (sw_true rfl rfl rfl (by decide +kernel))
  intro p rs
  have hn3 : ∀ {X : Cx} (hP : X.prog = P) (hw : X.w = w) (hK : X.K = K) (hmg : X.mg = mg) (hb : X.base = base) {ρ : List SD} {j : Nat} {p pos : Pos} {a b : Expr} {m : Nat} (hr : Room j X.A) (ha : XE X ρ a (fun r => r = .st ns)) (hbb : XD X ρ b (.int (m : Int))) (hm : 1 ≤ m ∧ m ≤ 4) (hk : 1 ≤ j := by decide) (hg : Gl X "_law_next" := by rfl)
    (he : starEach [a, b] X.env = (false, eval a X.env) :: starEach [b] X.env := by rfl) (he2 : starEach [b] X.env = (false, eval b X.env) :: starEach [] X.env := by rfl) (hpl : (backTo pos (starEach [b] X.env)).any (·.1) = false := by rfl),
    XE X ρ (.Call (.Name "_law_next" p) [a, b] [] pos) (fun r => ∃ d : Nat, d < 4 ∧ r = .d (.int (d : Int))) := by
    intro X hP hw hK hmg hb ρ j p pos a b m hr ha hbb hm hk hg he he2 hpl
    exact XE.weak (xe_next T hP hw hK hmg hb (m := m) hr ha hbb ⟨hm.1, by omega⟩ rfl hk hg he he2 hpl) fun r ⟨d, h1, h2⟩ => ⟨d, by omega, h2⟩
  refine xbe_cons (M := fun ρ => ∃ s4 s5, ρ = [.st ns, .d (.tuple (nts l)), .rf p, .no, s4, s5, .no, .no, .no, .no, .no, .no] ∧ s4.own = none ∧ s5.own = none) (xsb_for 4 (I := fun ρ => ∃ s4 s5, ρ = [.st ns, .d (.tuple (nts l)), .rf p, .no, s4, s5, .no, .no, .no, .no, .no, .no] ∧ s4.own = none ∧ s5.own = none) (xe_addN xe_int (xe_next T rfl rfl rfl rfl rfl hr (m := 3) (xe_varS 0 rfl (pv 0)) xe_int (by decide)) ?_) T.b_range (by rfl) (pg_name (i := 4) sc_law_thin.nd rfl (by first | exact .inl rfl | exact .inr rfl)) ⟨.no, .no, rfl, rfl, rfl⟩ (fun k ρ1 hI => ?_) (fun ρ1 hI => hI)) (fun ρ1 e1 => ?_)
  · rintro x y rfl ⟨d, hd, rfl⟩
    exact ⟨1, d, rfl, rfl, 1 + d, by omega, rfl⟩
  · obtain ⟨s4, s5, rfl, h4, h5⟩ := hI
    refine xsb_cons (xsb_row 2 5 rfl (pv 2) (hn3 rfl rfl rfl rfl rfl hr (m := 3) (xe_varS 0 rfl (pv 0)) xe_int (by decide)) sc_law_thin.nd) (fun ρ1 ⟨r, hrm, e1⟩ => ?_)
    subst e1
    refine xsb_cons (xsb_put 5 hrm rfl (pv 5) (hn3 rfl rfl rfl rfl rfl hr (m := 3) (xe_varS 0 rfl (pv 0)) xe_int (by decide)) (hn3 rfl rfl rfl rfl rfl hr (m := 3) (xe_varS 0 rfl (pv 0)) xe_int (by decide))) (fun ρ1 e1 => ?_)
    subst e1
    exact xsb_nil ⟨_, _, rfl, rfl, rfl⟩
  · obtain ⟨s4, s5, rfl, h4, h5⟩ := e1
    refine xbe_cons (xsb_asg (Φ := fun r => ∃ q : Nat × Nat, (q.1 < 4 ∧ q.2 < 4) ∧ r = .d (encP q)) (xe_ixLN (Φ := fun r => r = .l (onePairs.map encP)) (XF.toL (xf_lstA (xd_cons (xe_tupA (xd_cons xe_int (xd_cons xe_int xd_nil))) (xd_cons (xe_tupA (xd_cons xe_int (xd_cons xe_int xd_nil))) (xd_cons (xe_tupA (xd_cons xe_int (xd_cons xe_int xd_nil))) (xd_cons (xe_tupA (xd_cons xe_int (xd_cons xe_int xd_nil))) (xd_cons (xe_tupA (xd_cons xe_int (xd_cons xe_int xd_nil))) xd_nil))))))) (xe_next T rfl rfl rfl rfl rfl hr (m := 5) (xe_varS 0 rfl (pv 0)) xe_int (by decide)) ?_) (pg_tup rfl (pgs_cons (pg_name (i := 6) sc_law_thin.nd rfl (by first | exact .inl rfl | exact .inr rfl)) (pgs_cons (pg_name (i := 7) sc_law_thin.nd rfl (by first | exact .inl rfl | exact .inr rfl)) pgs_nil))) (sg_pair 6 7) (fun r ⟨q, _, h⟩ => ⟨_, h, _, _, rfl⟩)) (fun ρ1 ⟨x, ⟨⟨i, j⟩, hq, hx⟩, e1⟩ => ?_)
    · rintro x y rfl ⟨d, hd, rfl⟩
      have hi : d < onePairs.length := hd
      have hall : ∀ q ∈ onePairs, q.1 < 4 ∧ q.2 < 4 := by decide
      exact ⟨_, _, _, rfl, rfl, map_at (List.getElem?_eq_getElem hi), _, hall _ (List.getElem_mem hi), rfl⟩
    cases hx
    subst e1
    have two : ∀ {X : Cx} {ρ : List SD} {p : Pos} {k : Nat}, XE X ρ (.Constant (.int 2) k p) (fun r => ∃ d : Nat, d < 4 ∧ r = .d (.int (d : Int))) := XE.weak xe_int fun r h => ⟨2, by decide, h⟩
    refine xbe_cons (xsb_put2 2 hq.1 hq.2 rfl (pv 2) two (xe_var 6 rfl (pv 6)) (xe_var 7 rfl (pv 7))) (fun ρ1 e1 => ?_)
    subst e1
    refine xbe_cons (xsb_put2 2 hq.2 hq.1 rfl (pv 2) two (xe_var 7 rfl (pv 7)) (xe_var 6 rfl (pv 6))) (fun ρ1 e1 => ?_)
    subst e1
    refine xbe_end (k := 2) rfl fun qs hqs hq4 => ?_
    refine xss_setF 8 (xf_rep (ds := [.int 3]) (k := 4) (XF.toL (xf_lstA (xd_cons xe_int xd_nil))) xe_int (by decide) (by decide)) (fun ad8 ds e1 => ?_) sc_law_thin.nd
    rw [show (List.replicate 4 ([.int 3] : List PyData)).flatten = nts [3, 3, 3, 3] from rfl] at e1
    subst e1
    refine xss_cons (M := fun ρ => ∃ s4 q, ρ = [.st ns, .d (.tuple (nts l)), .l2 (rowsD qs), .no, s4, s5, .d (nt i), .d (nt j), .ol ad8 (nts q), .no, .no, .no] ∧ Row4 q)
      (xs_for (I := fun _ _ ρ => ∃ s4 q, ρ = [.st ns, .d (.tuple (nts l)), .l2 (rowsD qs), .no, s4, s5, .d (nt i), .d (nt j), .ol ad8 (nts q), .no, .no, .no] ∧ Row4 q) (xi_rangeN (A := fun _ => True) (xe_addN xe_int (xe_next T rfl rfl rfl rfl rfl hr (m := 2) (xe_varS 0 rfl (pv 0)) xe_int (by decide)) ?_) T.b_range) (pg_name (i := 4) sc_law_thin.nd rfl (by first | exact .inl rfl | exact .inr rfl)) (sg_name 4) (fun ds _ => ⟨s4, [3, 3, 3, 3], rfl, rfl, by decide⟩) (fun ds k d ρ1 hp hd hI => ⟨trivial, ?_⟩) (fun ds ρ1 hp hI => hI)) (fun ρ1 e1 => ?_)
    · rintro x y rfl ⟨d, hd, rfl⟩
      exact ⟨1, d, rfl, rfl, 1 + d, ⟨by omega, trivial⟩, rfl⟩
    · obtain ⟨s4, q, rfl, h4⟩ := hI
      refine xss_cons (xs_set4 8 (q := q) rfl h4 (pv 8) (hn3 rfl rfl rfl rfl rfl hr (m := 3) (xe_varS 0 rfl (pv 0)) xe_int (by decide)) (hn3 rfl rfl rfl rfl rfl hr (m := 3) (xe_varS 0 rfl (pv 0)) xe_int (by decide))) (fun ρ1 ⟨q', h4', e1⟩ => ?_)
      subst e1
      exact xss_nil ⟨_, q', rfl, h4'⟩
    · obtain ⟨s4, q, rfl, h4⟩ := e1
      refine xss_setF 9 (xf_lstA xd_nil) (fun ad ds e1 => ?_) sc_law_thin.nd
      subst e1
      refine xss_cons (M := fun ρ => ∃ es s10, ρ = [.st ns, .d (.tuple (nts l)), .l2 (rowsD qs), .no, s4, s5, .d (nt i), .d (nt j), .ol ad8 (nts q), .ol ad (es.map encE), s10, .no] ∧ Ents l 4 l.length es)
        (xs_forD (I := fun i' ρ => ∃ es s10, ρ = [.st ns, .d (.tuple (nts l)), .l2 (rowsD qs), .no, s4, s5, .d (nt i), .d (nt j), .ol ad8 (nts q), .ol ad (es.map encE), s10, .no] ∧ Ents l 4 i' es) (xi_range1 (n := l.length) (XE.weak (xe_lenT (xe_var 1 rfl (pv 1)) T.b_len) fun r h => by rw [h, List.length_map]) (by omega) T.b_range) (pg_name (i := 10) sc_law_thin.nd rfl (by first | exact .inl rfl | exact .inr rfl)) (sg_name 10) ⟨[], .no, rfl, ⟨rfl, fun j a e _ h => by simp at h⟩⟩ (fun y d ρ1 hd hI => ⟨trivial, ?_⟩) (fun ρ1 hI => by rw [rngD_len] at hI; exact hI)) (fun ρ1 e1 => ?_)
      · obtain ⟨hy, rfl⟩ := rngD_get hd
        rw [show ((0 : Int) + (y : Int)) = (y : Int) by omega]
        obtain ⟨es, s10, rfl, hes⟩ := hI
        have ha := List.getElem?_eq_getElem hy
        have ha2 := har4.1 _ (List.getElem_mem hy)
        generalize l[y] = a at ha ha2
        have hmin : (if (1 : Int) < (y : Int) then (1 : Int) else (y : Int)) = ((min y 1 : Nat) : Int) := by split <;> omega
        refine xss_cons (xs_appN 9 rfl (pv 9) (Φ := fun r => ∃ e : Ent, Ent.ok 4 a e ∧ r = .d (encE e)) (XE.weak (xe_ixLN (Φ := fun r => r = .l [nt (min y 1), .tuple (nts q), .tuple ((rowsD qs).map fun z => .tuple z)]) (Θ := fun r => ∃ d, atI [nt (min y 1), .tuple (nts q), .tuple ((rowsD qs).map fun z => PyData.tuple z)] (a : Int) = some d ∧ r = .d d) (XF.toL (xf_lstA (xd_cons (XE.weak (xe_min (xe_var 10 rfl (pv 10)) xe_int T.b_min) fun r h => by rw [h, hmin]) (xd_cons (xe_tuple (xe_varO 8 rfl (pv 8)) T.b_tuple) (xd_cons (xe_tuple (XF.toL (xf_lcL2 (own := [("_law_row", 5)]) 5 2 (fun z => .tuple z) rfl (pv 2) (fun _ _ _ _ _ => (pg_name (i := 5) sc_law_thin.nd rfl (by first | exact .inl rfl | exact .inr rfl))) (fun z hz _ _ _ _ _ => xe_tuple (xe_varL 5 rfl (pv 5)) T.b_tuple) (by rw [List.length_map]; omega) sc_law_thin.nd (blkOk_by (N := n_law_thin) (sc := defScope s_law_thin) (by decide +kernel)))) T.b_tuple) xd_nil))))) (xe_ixT (xe_var 1 rfl (pv 1)) (xe_var 10 rfl (pv 10)) (nts_at ha)) ?_) ?_) (fun r ⟨e, _, h⟩ => ⟨_, h⟩) (by rw [List.length_map, hes.len]; omega) (fun te h => pe_bm PySem.F.plainAttrs_list PySem.F.slot_list_append PySem.F.type_list_append mt_append (pv 9) (pa_cons h pa_nil))) (fun ρ1 ⟨x, ⟨e, hok, e1⟩, e2⟩ => ?_)
        · rintro x y' rfl rfl
          have h3 : a < ([nt (min y 1), .tuple (nts q), .tuple ((rowsD qs).map fun z => PyData.tuple z)] : List PyData).length := by simp; omega
          exact ⟨_, _, _, rfl, rfl, ix_at (List.getElem?_eq_getElem h3), _, ix_at (List.getElem?_eq_getElem h3), rfl⟩
        · rintro r ⟨d, hd, rfl⟩
          rcases (by omega : a = 0 ∨ a = 1 ∨ a = 2) with rfl | rfl | rfl
          · cases hd
            exact ⟨.e0 (min y 1), ⟨rfl, by omega⟩, rfl⟩
          · cases hd
            exact ⟨.e1 q, ⟨rfl, h4.1, h4.2⟩, rfl⟩
          · cases hd
            refine ⟨.e2 qs, ⟨rfl, hqs, fun z hz => hq4 z hz⟩, ?_⟩
            show SD.d (.tuple ((rowsD qs).map _)) = SD.d (.tuple (qs.map _))
            rw [rowsD, List.map_map]
            rfl
        · cases e1
          subst e2
          exact xss_nil ⟨es ++ [e], _, by rw [List.map_append]; rfl, hes.snoc ha hok⟩
      · obtain ⟨es, s10, rfl, hes⟩ := e1
        refine xss_setN 11 (Φ := fun r => ∃ b c : Bool, r = .d (.tuple (([false, b, true, c] : List Bool).map PyData.bool))) (xe_tupN (A := fun rs => ∃ b c : Bool, rs = (([false, b, true, c] : List Bool).map PyData.bool).map SD.d) (xa_consN (B := fun rs => ∃ b c : Bool, rs = (([false, b, true, c] : List Bool).map PyData.bool).map SD.d) xe_bl (xa_consN (B := fun rs => ∃ b c : Bool, rs = (([b, true, c] : List Bool).map PyData.bool).map SD.d) (xe_eqIN (Θ := fun r => ∃ b : Bool, r = .d (.bool b)) (xe_next T rfl rfl rfl rfl rfl hr (m := 4) (xe_varS 0 rfl (pv 0)) xe_int (by decide)) xe_int ?_) (xa_consN (B := fun rs => ∃ c : Bool, rs = (([true, c] : List Bool).map PyData.bool).map SD.d) xe_bl (xa_consN (B := fun rs => ∃ c : Bool, rs = (([c] : List Bool).map PyData.bool).map SD.d) (xe_eqIN (Θ := fun r => ∃ b : Bool, r = .d (.bool b)) (xe_next T rfl rfl rfl rfl rfl hr (m := 8) (xe_varS 0 rfl (pv 0)) xe_int (by decide)) xe_int ?_) xa_nil ?_) ?_) ?_) ?_) ?_) (fun r ⟨b, c, h⟩ => ⟨_, h⟩) (fun x ⟨b, c, hx⟩ => ?_) sc_law_thin.nd
        · rintro x y ⟨d, hd, rfl⟩ rfl
          exact ⟨d, 0, rfl, rfl, _, rfl⟩
        · rintro x y ⟨d, hd, rfl⟩ rfl
          exact ⟨d, 0, rfl, rfl, _, rfl⟩
        · rintro r rs ⟨b, rfl⟩ rfl
          exact ⟨b, rfl⟩
        · rintro r rs rfl ⟨c, rfl⟩
          exact ⟨c, rfl⟩
        · rintro r rs ⟨b, rfl⟩ ⟨c, rfl⟩
          exact ⟨b, c, rfl⟩
        · rintro r rs rfl ⟨b, c, rfl⟩
          exact ⟨b, c, rfl⟩
        · rintro rs ⟨b, c, rfl⟩
          exact ⟨_, rfl, by simp, b, c, rfl⟩
        · cases hx
          refine xss_one (xs_retD (xe_tupA (xd_cons (xe_var 1 rfl (pv 1)) (xd_cons (xe_var 11 rfl (pv 11)) (xd_cons (xe_tuple (xe_varO 9 rfl (pv 9)) T.b_tuple) xd_nil)))) ?_)
          exact ⟨⟨l, [false, b, true, c], es⟩, Ents.wf (gs := [false, b, true, c]) hes har (by simp) (by simp), rfl⟩
def F_law_some : FS (List Int) := ⟨fun a => [.st a, .d (nt 3)], fun a r => ∃ A : Au, A.Wf ∧ r = .d (encA A)⟩
theorem c_law_some (T : Tx K mg) : Cl P w K mg base 3 "_law_some" F_law_some.sp := by
  refine cl_mk F_law_some T.f_law_some sc_law_some (fun _ => rfl) (fun _ => rfl) (by decide) ?_
  intro f cdv A outer s H E hr ns
  refine xss_cons (M := fun ρ => ρ = [.st ns, .d (nt 3)]) (xs_ifU (xt_eqU (XE.weak (xe_next T rfl rfl rfl rfl rfl hr (m := 2) (xe_varS 0 rfl (pv 0)) xe_int (by decide)) fun r ⟨d, _, h⟩ => ⟨d, h⟩) (xe_nnC xe_int)) ?_ (xss_nil rfl)) (fun ρ1 e1 => ?_)
  · exact xss_one (xs_ret (xe_call (Θ := fun r => ∃ A : Au, A.Wf ∧ r = .d (encA A)) (c_law_thin T) hr (Aa := fun rs => rs = [.st ns]) (xa_cons (xe_varS 0 rfl (pv 0)) xa_nil) fun rs e => ⟨ns, e.symm, fun r ⟨A, h1, h2⟩ => ⟨⟨_, h2⟩, A, h1, h2⟩⟩) fun r ⟨A, h1, h2⟩ => ⟨⟨_, h2⟩, A, h1, h2⟩)
  · subst e1
    exact xss_one (xs_ret (xe_call (Θ := fun r => ∃ A : Au, A.Wf ∧ r = .d (encA A)) (c_law_automaton T) hr (Aa := fun rs => rs = [.st ns, .d (nt 3)]) (xa_cons (xe_varS 0 rfl (pv 0)) (xa_cons (xe_var 1 rfl (pv 1)) xa_nil)) fun rs e => ⟨ns, e.symm, fun r ⟨A, h1, h2⟩ => ⟨⟨_, h2⟩, A, h1, h2⟩⟩) fun r ⟨A, h1, h2⟩ => ⟨⟨_, h2⟩, A, h1, h2⟩)
end
end PW

-- V5
/-! V5: the law's defs over trees: _law_state, _law_part, _law_put, _law_places, _law_same, _law_along. -/
namespace PL
open PySem PySem.Spec PyProof.Rows L2
section
variable {X : Cx} {ρ : List SD} {tg iter elt : Expr} {scope : Scope} {own : List (Str × Nat)}
/-- items of a list of one's own kind -/
theorem lcZ {α : Type} (l : List α) (fa : α → PyData) (ga : α → PyData) {ds : List PyData} (hds : ds = l.map fa) {g : TG} {ok : PyData → Prop} {f : PyData → List SD → List SD} {is : List Nat} (hi : XIc X ρ tg iter (fun z => z = ds)) (sg : SG g ok f is)
    (hg : ∀ (s : Shared) (H : Hp) (C : Addr) (cl : List (Str × Addr)) (fp : List Addr), PG (X.blk s H scope (compEnvC scope cl C X.env) fp) tg g)
    (he : ∀ x, x ∈ l → ok (fa x) ∧ ∀ (s : Shared) (H : Hp) (C : Addr) (cl : List (Str × Addr)) (fp : List Addr), XD (X.blk s H scope (compEnvC scope cl C X.env) fp) (f (fa x) (wipeR ρ (ownS own))) elt (ga x))
    (hl : l.length ≤ 50000) (his : ∀ i ∈ is, i ∈ ownS own := by decide) : LcN X ρ tg iter elt scope own (fun z => z = l.map ga) :=
  ⟨⟨fun z => z = ds, g, ok, f, is, fun ds' i out => out = (l.take i).map ga, hi, sg, his, hg, fun ds' e => ⟨by simp, by rw [e, hds, List.length_map]; exact hl⟩, fun ds' i d out e hd ho => by
    rw [e, hds, List.getElem?_map] at hd
    cases hx : l[i]? with
    | none => rw [hx] at hd; cases hd
    | some x =>
      rw [hx] at hd
      cases hd
      obtain ⟨h1, h2⟩ := he x (List.mem_of_getElem? hx)
      refine ⟨h1, _, h2, fun r hr => ⟨ga x, hr, ?_⟩⟩
      have ho : out = (l.take i).map ga := ho
      show out ++ [ga x] = (l.take (i + 1)).map ga
      rw [List.take_add_one, hx, List.map_append, ho]
      rfl, fun ds' out e ho => by
      have ho : out = (l.take ds'.length).map ga := ho
      rw [ho, e, hds, List.length_map, List.take_length]⟩⟩
end
end PL
namespace PW
open PySem PySem.Spec PyProof.Rows L2 PL Ma
theorem enc_tr (t : Tr) : encTr t = .tuple (nt t.sym :: t.kids.map encTr) := by cases t <;> rfl
def encO : Option Tr → PyData
  | none => .none
  | some t => encTr t
theorem at_zero {d : PyData} {ds : List PyData} : atI (d :: ds) 0 = some d := ix_at (ds := d :: ds) (i := 0) rfl
theorem drop_one (d : PyData) (ds : List PyData) : cutD (d :: ds) (some 1) none = ds := cut_drop (d :: ds) 1
section
variable {P : Program} {w : World} {K : PySem.W.Frag} {mg : Str → Option Value} {base : Heap}
structure TrArg (h : Nat) where
  A : Au
  wf : A.Wf
  t : Tr
  tw : t.Wf A.ar
  th : t.height ≤ h
def F_law_state (h : Nat) : FS (TrArg h) := ⟨fun a => [.d (encA a.A), .d (encTr a.t)], fun a r => r = .d (nt (state a.A a.t))⟩
theorem c_law_state (T : Tx K mg) : ∀ h, Cl P w K mg base (h + 1) "_law_state" (F_law_state h).sp
  | 0 => by
    refine cl_mk (F_law_state 0) T.f_law_state sc_law_state (fun _ => rfl) (fun _ => rfl) (by decide) ?_
    intro f cdv A outer s H E hr ⟨M, hM, t, tw, th⟩
    exact absurd (height_pos t) (by omega)
  | h + 1 => by
    refine cl_mk (F_law_state (h + 1)) T.f_law_state sc_law_state (fun _ => rfl) (fun _ => rfl) (by decide) ?_
    intro f cdv A outer s H E hr ⟨M, hM, t, tw, th⟩
    obtain ⟨k1, k2⟩ := kids_ok tw
    have e0 : (F_law_state (h + 1)).args ⟨M, hM, t, tw, th⟩ = [.d (encA M), .d (.tuple (nt t.sym :: t.kids.map encTr))] := by rw [← enc_tr]; rfl
    rw [e0]
    have hkl : t.kids.length ≤ 2 := hM.ar2 k1
    refine xss_one (xs_retD (xe_callD (c_law_step T) hr ⟨M, hM, t.sym, t.kids.map (state M), by rw [List.length_map]; exact k1, fun s hs => ?_⟩ (xa_cons (xe_var 0 rfl (pv 0)) (xa_cons (xe_ixT (xe_var 1 rfl (pv 1)) xe_int at_zero) (xa_cons (XF.toL (xf_lcN (own := [("_law_child", 2)]) (lcZ t.kids encTr (fun c => nt (state M c)) (drop_one _ _) (XI.toC (xi_tupD (xe_slT (xe_var 1 rfl (pv 1)) (xo_some xe_int) xo_none))) (sg_name 2) (fun _ _ _ _ _ => (pg_name (i := 2) sc_law_state.nd rfl (by first | exact .inl rfl | exact .inr rfl))) (fun c hc => ⟨trivial, fun _ _ _ _ _ => (xe_callD (c_law_state T h) hr ⟨M, hM, c, (k2 c hc).1, by have := (k2 c hc).2; omega⟩ (xa_cons (xe_var 0 rfl (pv 0)) (xa_cons (xe_var 2 rfl (pv 2)) xa_nil)) (fun r h => h) (hk := Nat.le_refl _))⟩) (by omega)) sc_law_state.nd (blkOk_by (N := n_law_state) (sc := defScope s_law_state) (by decide +kernel)))) xa_nil))) (fun r h => h) ?_ (hk := by omega)) ?_)
    · obtain ⟨c, hc, rfl⟩ := List.mem_map.mp hs
      exact state_lt hM (k2 c hc).1
    · show [_, _, SD.l (nts (t.kids.map (state M)))] = _
      rw [nts, List.map_map]
      rfl
    · show SD.d (nt (M.step t.sym (t.kids.map (state M)))) = SD.d (nt (state M t))
      rw [state_kids]
def F_law_part : FS (Tr × List Nat) := ⟨fun a => [.d (encTr a.1), .d (encR a.2)], fun a r => r = .d (encO (part a.1 a.2))⟩
theorem c_law_part (T : Tx K mg) : Cl P w K mg base 1 "_law_part" F_law_part.sp := by
  refine cl_mk F_law_part T.f_law_part sc_law_part (fun _ => rfl) (fun _ => rfl) (by decide) ?_
  intro f cdv A outer s H E hr ⟨t, pl⟩
  refine xss_cons (M := fun ρ => ∃ s2, ρ = [.d (encO (part t pl)), .d (encR pl), s2]) (xs_forD (I := fun i ρ => ∃ s2, ρ = [.d (encO (part t (pl.take i))), .d (encR pl), s2]) (xi_tupD (xe_var 1 rfl (pv 1))) (pg_name (i := 2) sc_law_part.nd rfl (by first | exact .inl rfl | exact .inr rfl)) (sg_name 2) ⟨.no, by rw [List.take_zero, show part t [] = some t by cases t <;> rfl]; rfl⟩ (fun i d ρ1 hd hI => ⟨trivial, ?_⟩) (fun ρ1 hI => by rw [List.length_map, List.take_length] at hI; exact hI)) (fun ρ1 e1 => ?_)
  · obtain ⟨x, hx, rfl⟩ := nts_get hd
    obtain ⟨s2, rfl⟩ := hI
    rw [part_next hx]
    cases part t (pl.take i) with
    | none =>
      refine xss_ifY (M := fun ρ => ρ = [.d .none, .d (encR pl), .d (nt x)]) (xw_pt (xw_or (q := true) (xt_isN (t := true) (xe_var 0 rfl (pv 0)) (fun r h => .inl ⟨h, rfl⟩)) fun h => absurd h (by decide))) rfl ?_ (fun ρ1 e1 => ?_)
      · exact xss_set 0 xe_non (xss_nil rfl) sc_law_part.nd
      · subst e1
        exact xss_nil ⟨_, rfl⟩
    | some c =>
      have hlen : (((nt c.sym :: c.kids.map encTr).length : Nat) : Int) = (c.kids.length : Int) + 1 := by rw [List.length_cons, List.length_map]; omega
      show XSs _ [.d (encTr c), .d (encR pl), .d (nt x)] _ _ _
      rw [enc_tr]
      have e0 : ∀ r : SD, r = .d (.tuple (nt c.sym :: c.kids.map encTr)) → (r = .d .none ∧ false = true) ∨ (r ≠ .d .none ∧ false = false) := fun r h => .inr ⟨by rw [h]; exact (fun z => nomatch z), rfl⟩
      by_cases hxk : x < c.kids.length
      · have hc := List.getElem?_eq_getElem hxk
        refine xss_ifN (M := fun ρ => ρ = [.d (encTr c.kids[x]), .d (encR pl), .d (nt x)]) (xw_pt (xw_or (xt_isN (t := false) (xe_var 0 rfl (pv 0)) e0) fun h => xw_or1 (xt_ltI (xe_lenT (xe_var 0 rfl (pv 0)) T.b_len) (xe_add (xe_var 2 rfl (pv 2)) xe_int)))) (by rw [hlen]; simp; omega) ?_ (fun ρ1 e1 => ?_)
        · refine xss_set 0 (x := encTr c.kids[x]) (xe_ixT (xe_var 0 rfl (pv 0)) (xe_add (xe_var 2 rfl (pv 2)) xe_int) ?_) (xss_nil rfl) sc_law_part.nd
          rw [show (x : Int) + 1 = ((x + 1 : Nat) : Int) by omega]
          exact ix_at (by rw [List.getElem?_cons_succ, List.getElem?_map, hc]; rfl)
        · subst e1
          exact xss_nil ⟨_, by rw [show partO (some c) x = some c.kids[x] from hc]; rfl⟩
      · refine xss_ifY (M := fun ρ => ρ = [.d .none, .d (encR pl), .d (nt x)]) (xw_pt (xw_or (xt_isN (t := false) (xe_var 0 rfl (pv 0)) e0) fun h => xw_or1 (xt_ltI (xe_lenT (xe_var 0 rfl (pv 0)) T.b_len) (xe_add (xe_var 2 rfl (pv 2)) xe_int)))) (by rw [hlen]; simp; omega) ?_ (fun ρ1 e1 => ?_)
        · exact xss_set 0 xe_non (xss_nil rfl) sc_law_part.nd
        · subst e1
          exact xss_nil ⟨_, by rw [show partO (some c) x = none from List.getElem?_eq_none (by omega)]; rfl⟩
  · obtain ⟨s2, rfl⟩ := e1
    exact xss_one (xs_retD (xe_var 0 rfl (pv 0)) rfl)
def F_law_put (m : Nat) : FS {x : Tr × List Nat × Tr // x.2.1.length ≤ m ∧ ∃ y, part x.1 x.2.1 = some y} := ⟨fun a => [.d (encTr a.1.1), .d (encR a.1.2.1), .d (encTr a.1.2.2)], fun a r => r = .d (encTr (put a.1.1 a.1.2.1 a.1.2.2))⟩
theorem put_enc {t u c : Tr} {i : Nat} {r : List Nat} (hc : t.kids[i]? = some c) : cutD (nt t.sym :: t.kids.map encTr) none (some ((i : Int) + 1)) ++ [encTr (put c r u)] ++ cutD (nt t.sym :: t.kids.map encTr) (some ((i : Int) + 1 + 1)) none = nt (put t (i :: r) u).sym :: (put t (i :: r) u).kids.map encTr := by
  rw [show (i : Int) + 1 = ((i + 1 : Nat) : Int) by omega, show ((i + 1 : Nat) : Int) + 1 = ((i + 2 : Nat) : Int) by omega, cut_take, cut_drop]
  match t, i, hc with
  | .n0 _, _, hc => simp [Tr.kids] at hc
  | .n1 s t, 0, hc =>
    have e : t = c := by simpa [Tr.kids] using hc
    subst e
    rfl
  | .n1 s t, i + 1, hc => simp [Tr.kids] at hc
  | .n2 s t v, 0, hc =>
    have e : t = c := by simpa [Tr.kids] using hc
    subst e
    rfl
  | .n2 s t v, 1, hc =>
    have e : v = c := by simpa [Tr.kids] using hc
    subst e
    rfl
  | .n2 s t v, i + 2, hc => simp [Tr.kids] at hc
theorem c_law_put (T : Tx K mg) : ∀ m, Cl P w K mg base (m + 1) "_law_put" (F_law_put m).sp
  | 0 => by
    refine cl_mk (F_law_put 0) T.f_law_put sc_law_put (fun _ => rfl) (fun _ => rfl) (by decide) ?_
    intro f cdv A outer s H E hr ⟨⟨t, pl, u⟩, hm, y, hy⟩
    dsimp only at hm hy
    have hu : (BX P w K mg base n_law_put "_law_put" (defScope s_law_put) f cdv A outer s H E).A.units + 64 < cLine := hr.units
    cases pl with
    | nil =>
      refine xss_ifT (xt_eqK (k := []) (j := []) (xe_var 1 rfl (pv 1)) (xe_tupA xd_nil) hu) rfl ?_
      exact xss_one (xs_retD (xe_var 2 rfl (pv 2)) (by cases t <;> rfl))
    | cons i r => simp at hm
  | m + 1 => by
    refine cl_mk (F_law_put (m + 1)) T.f_law_put sc_law_put (fun _ => rfl) (fun _ => rfl) (by decide) ?_
    intro f cdv A outer s H E hr ⟨⟨t, pl, u⟩, hm, y, hy⟩
    dsimp only at hm hy
    have hu : (BX P w K mg base n_law_put "_law_put" (defScope s_law_put) f cdv A outer s H E).A.units + 64 < cLine := hr.units
    cases pl with
    | nil =>
      refine xss_ifT (xt_eqK (k := []) (j := []) (xe_var 1 rfl (pv 1)) (xe_tupA xd_nil) hu) rfl ?_
      exact xss_one (xs_retD (xe_var 2 rfl (pv 2)) (by cases t <;> rfl))
    | cons i r =>
      rw [part_cons] at hy
      cases hc : t.kids[i]? with
      | none => rw [hc] at hy; cases hy
      | some c =>
        rw [hc] at hy
        have e0 : (F_law_put (m + 1)).args ⟨(t, i :: r, u), hm, y, by rw [part_cons, hc]; exact hy⟩ = [.d (.tuple (nt t.sym :: t.kids.map encTr)), .d (.tuple (nt i :: nts r)), .d (encTr u)] := by rw [← enc_tr]; rfl
        show XSs _ ((F_law_put (m + 1)).args _ ++ _) _ _ _
        rw [e0]
        refine xss_ifF (xt_eqK (k := zs (i :: r)) (j := []) (XE.weak (xe_var 1 rfl (pv 1)) fun z h => by rw [h, encK, zs_int]; rfl) (xe_tupA xd_nil) hu) rfl ?_
        refine xss_set 3 (xe_add (xe_ixT (xe_var 1 rfl (pv 1)) xe_int at_zero) xe_int) ?_ sc_law_put.nd
        have hkl : t.kids.length ≤ 2 := by cases t <;> simp [Tr.kids]
        refine xss_one (xs_retD (xe_catT (xe_catT (xe_slT (xe_var 0 rfl (pv 0)) xo_none (xo_some (xe_var 3 rfl (pv 3)))) (xe_tupA (xd_cons (xe_callD (c_law_put T m) hr ⟨(c, r, u), by simpa using hm, y, hy⟩ (xa_cons (xe_ixT (d := encTr c) (xe_var 0 rfl (pv 0)) (xe_var 3 rfl (pv 3)) ?_) (xa_cons (xe_slT (xe_var 1 rfl (pv 1)) (xo_some xe_int) xo_none) (xa_cons (xe_var 2 rfl (pv 2)) xa_nil))) (fun z h => h) ?_ (hk := Nat.le_refl _)) xd_nil)) ?_) (xe_slT (xe_var 0 rfl (pv 0)) (xo_some (xe_add (xe_var 3 rfl (pv 3)) xe_int)) xo_none) ?_) ?_)
        · rw [show (i : Int) + 1 = ((i + 1 : Nat) : Int) by omega]
          exact ix_at (d := encTr c) (by rw [List.getElem?_cons_succ, List.getElem?_map, hc]; rfl)
        · show [_, SD.d (.tuple (nts r)), _] = [_, SD.d (.tuple (cutD (nt i :: nts r) (some 1) none)), _]
          rw [drop_one]
        · rw [show (i : Int) + 1 = ((i + 1 : Nat) : Int) by omega, cut_take, List.length_take]
          simp
          omega
        · rw [show (i : Int) + 1 = ((i + 1 : Nat) : Int) by omega, show ((i + 1 : Nat) : Int) + 1 = ((i + 2 : Nat) : Int) by omega, cut_take, cut_drop, List.length_append, List.length_take, List.length_drop]
          simp
          omega
        · show SD.d (.tuple _) = SD.d (encTr (put t (i :: r) u))
          rw [enc_tr (put t (i :: r) u), ← put_enc hc]
end
end PW

-- V6
/-! V6: _law_places, _law_same, _law_along, _law_shows. -/
namespace PW
open PySem PySem.Spec PyProof.Rows L2 PL Ma
section
variable {P : Program} {w : World} {K : PySem.W.Frag} {mg : Str → Option Value} {base : Heap}
theorem kids_len (t : Tr) : t.kids.length ≤ 2 := by cases t <;> simp [Tr.kids]
def F_law_places (h : Nat) : FS {t : Tr // t.height ≤ h ∧ t.height ≤ 6} := ⟨fun a => [.d (encTr a.1)], fun a r => r = .l (encRs (placesT a.1))⟩
def upP (t : Tr) (i : Nat) : List (List Nat) := [] :: (List.range i).flatMap (placeAt t)
theorem upP_len {t : Tr} (h6 : t.height ≤ 6) {i : Nat} (hi : i ≤ t.kids.length) : (upP t i).length ≤ 64 := by
  have h1 := places_len t
  rw [places_eq] at h1
  have h2 : 2 ^ t.height ≤ 2 ^ 6 := Nat.pow_le_pow_right (by decide) h6
  have h3 := range_len (f := placeAt t) hi
  simp only [upP, List.length_cons] at h1 ⊢
  omega
theorem c_law_places (T : Tx K mg) : ∀ h, Cl P w K mg base (h + 1) "_law_places" (F_law_places h).sp
  | 0 => by
    refine cl_mk (F_law_places 0) T.f_law_places sc_law_places (fun _ => rfl) (fun _ => rfl) (by decide) ?_
    intro f cdv A outer s H E hr ⟨t, th, t6⟩
    exact absurd (height_pos t) (by omega)
  | h + 1 => by
    refine cl_mk (F_law_places (h + 1)) T.f_law_places sc_law_places (fun _ => rfl) (fun _ => rfl) (by decide) ?_
    intro f cdv A outer s H E hr ⟨t, th, t6⟩
    have e0 : (F_law_places (h + 1)).args ⟨t, th, t6⟩ = [.d (.tuple (nt t.sym :: t.kids.map encTr))] := by rw [← enc_tr]; rfl
    rw [e0]
    have hkl := kids_len t
    have hlen : (((nt t.sym :: t.kids.map encTr).length : Nat) : Int) - 1 = ((t.kids.length : Nat) : Int) := by rw [List.length_cons, List.length_map]; omega
    refine xss_setF 1 (xf_lstA (ds := encRs (upP t 0)) (xd_cons (xe_tupA xd_nil) xd_nil) (by simp [upP])) (fun ad ds e1 => ?_) sc_law_places.nd
    subst e1
    refine xss_cons (M := fun ρ => ∃ ad s2, ρ = [.d (.tuple (nt t.sym :: t.kids.map encTr)), .ol ad (encRs (upP t t.kids.length)), s2, .no]) (xs_forD (I := fun i ρ => ∃ ad s2, ρ = [.d (.tuple (nt t.sym :: t.kids.map encTr)), .ol ad (encRs (upP t i)), s2, .no]) (xi_range1 (n := t.kids.length) (XE.weak (xe_sub (xe_lenT (xe_var 0 rfl (pv 0)) T.b_len) xe_int) fun r h => by rw [h, hlen]) (by omega) T.b_range) (pg_name (i := 2) sc_law_places.nd rfl (by first | exact .inl rfl | exact .inr rfl)) (sg_name 2) ⟨ad, .no, rfl⟩ (fun i d ρ1 hd hI => ⟨trivial, ?_⟩) (fun ρ1 hI => by rw [rngD_len] at hI; exact hI)) (fun ρ1 e1 => ?_)
    · obtain ⟨hi, rfl⟩ := rngD_get hd
      rw [show ((0 : Int) + (i : Int)) = (i : Int) by omega]
      obtain ⟨ad, s2, rfl⟩ := hI
      have hc := List.getElem?_eq_getElem hi
      have hm := List.getElem_mem hi
      generalize t.kids[i] = c at hc hm
      have hch : c.height < t.height := by
        cases t with
        | n0 s => simp [Tr.kids] at hm
        | n1 s t => simp [Tr.kids] at hm; subst hm; simp [Tr.height]
        | n2 s t u => simp [Tr.kids] at hm; rcases hm with rfl | rfl <;> simp only [Tr.height] <;> omega
      have hcl : (placesT c).length ≤ 64 := by
        have h1 := places_len c
        have h2 : 2 ^ c.height ≤ 2 ^ 6 := Nat.pow_le_pow_right (by decide) (by omega)
        omega
      have hul := upP_len t6 (Nat.le_of_lt hi)
      refine xss_setF 1 (xf_catD (xe_varO 1 rfl (pv 1)) (XF.toL (xf_lcN (own := [("_law_place", 3)]) (lcZ (placesT c) encR (fun pl => encR (i :: pl)) rfl (xc_listD (XF.toL (xf_call (Ψ := fun z => z = encRs (placesT c)) (c_law_places T h) hr (Aa := fun rs => rs = [.d (encTr c)]) (xa_cons (xe_ixT (xe_var 0 rfl (pv 0)) (xe_add (xe_var 2 rfl (pv 2)) xe_int) ?_) xa_nil) (fun rs e => ⟨⟨c, by omega, by omega⟩, e.symm, fun r h => ⟨_, h, rfl⟩⟩) (hk := Nat.le_refl _)))) (sg_name 3) (fun _ _ _ _ _ => (pg_name (i := 3) sc_law_places.nd rfl (by first | exact .inl rfl | exact .inr rfl))) (fun pl hpl => ⟨trivial, fun _ _ _ _ _ => (xe_catT (xe_tupA (xd_cons (xe_var 2 rfl (pv 2)) xd_nil)) (xe_var 3 rfl (pv 3)) ?_)⟩) (by omega)) sc_law_places.nd (blkOk_by (N := n_law_places) (sc := defScope s_law_places) (by decide +kernel)))) ?_) (fun ad ds e1 => ?_) sc_law_places.nd
      · rw [show (i : Int) + 1 = ((i + 1 : Nat) : Int) by omega]
        exact ix_at (by rw [List.getElem?_cons_succ, List.getElem?_map, hc]; rfl)
      · have := place_len c pl hpl
        rw [List.length_map]
        simp
        omega
      · rw [List.length_map, List.length_map]; omega
      · subst e1
        refine xss_nil ⟨ad, .d (nt i), ?_⟩
        have : encRs (upP t (i + 1)) = encRs (upP t i) ++ (placesT c).map (fun pl => encR (i :: pl)) := by
          unfold upP
          rw [List.range_succ, List.flatMap_append, List.flatMap_singleton, ← List.cons_append, encRs, List.map_append]
          show _ ++ List.map encR (placeAt t i) = _
          unfold placeAt
          rw [hc, List.map_map]
          rfl
        rw [this]
        rfl
    · obtain ⟨ad, s2, rfl⟩ := e1
      exact xss_one (xs_retO 1 rfl (pv 1) (by show SD.l _ = SD.l (encRs (placesT t)); rw [places_eq]; rfl))
structure SameArg (m : Nat) where
  ar : List Nat
  t : Tr
  u : Tr
  k : Nat
  wt : t.Wf ar
  wu : u.Wf ar
  km : k ≤ m
def F_law_same (m : Nat) : FS (SameArg m) := ⟨fun a => [.d (encTr a.t), .d (encTr a.u), .d (nt a.k)], fun a r => r = .d (.bool (same a.t a.u a.k))⟩
theorem same_zero (t u : Tr) : same t u 0 = true := by cases t <;> cases u <;> rfl
theorem c_law_same (T : Tx K mg) : ∀ m, Cl P w K mg base (m + 1) "_law_same" (F_law_same m).sp
  | 0 => by
    refine cl_mk (F_law_same 0) T.f_law_same sc_law_same (fun _ => rfl) (fun _ => rfl) (by decide) ?_
    intro f cdv A outer s H E hr ⟨ar, t, u, k, wt, wu, km⟩
    have e : k = 0 := by omega
    subst e
    exact xss_ifT (xt_eqI (xe_var 2 rfl (pv 2)) xe_int) rfl (xss_one (xs_retD xe_bl (by show SD.d _ = SD.d (.bool (same t u 0)); rw [same_zero])))
  | m + 1 => by
    refine cl_mk (F_law_same (m + 1)) T.f_law_same sc_law_same (fun _ => rfl) (fun _ => rfl) (by decide) ?_
    intro f cdv A outer s H E hr ⟨ar, t, u, k, wt, wu, km⟩
    cases k with
    | zero => exact xss_ifT (xt_eqI (xe_var 2 rfl (pv 2)) xe_int) rfl (xss_one (xs_retD xe_bl (by show SD.d _ = SD.d (.bool (same t u 0)); rw [same_zero])))
    | succ k =>
      obtain ⟨hs, hl⟩ := same_succ wt wu k
      have e0 : (F_law_same (m + 1)).args ⟨ar, t, u, k + 1, wt, wu, km⟩ = [.d (.tuple (nt t.sym :: t.kids.map encTr)), .d (.tuple (nt u.sym :: u.kids.map encTr)), .d (nt (k + 1))] := by rw [← enc_tr, ← enc_tr]; rfl
      have er : (F_law_same (m + 1)).res ⟨ar, t, u, k + 1, wt, wu, km⟩ = fun r => r = .d (.bool (decide (t.sym = u.sym) && (List.range t.kids.length).all fun j => same (t.kids.getD j t) (u.kids.getD j u) k)) := by rw [← hs]; rfl
      rw [e0, er]
      have hkl := kids_len t
      refine xss_ifF (xt_eqI (xe_var 2 rfl (pv 2)) xe_int) (decide_eq_false (by omega)) ?_
      refine xss_if (xt_neI (xe_ixT (xe_var 0 rfl (pv 0)) xe_int at_zero) (xe_ixT (xe_var 1 rfl (pv 1)) xe_int at_zero)) (fun hc => ?_) (fun hc => ?_)
      · have hne : t.sym ≠ u.sym := fun e => by rw [e] at hc; simp at hc
        exact xss_one (xs_retD xe_bl (by rw [decide_eq_false hne]; rfl))
      · have he : t.sym = u.sym := by
          by_cases e : t.sym = u.sym
          · exact e
          · have : ¬ ((t.sym : Int) = (u.sym : Int)) := by omega
            rw [decide_eq_false this] at hc
            cases hc
        have hlu := hl he
        refine xss_one (xs_retD (xe_allG (fun d => match d with
          | .int x => same (t.kids.getD (x.toNat - 1) t) (u.kids.getD (x.toNat - 1) u) k
          | _ => false) (XF.toL (xf_lcN (own := [("_law_at", 3)]) (lcD (ds := rngD 1 t.kids.length) (F := fun d => .bool (match d with
          | .int x => same (t.kids.getD (x.toNat - 1) t) (u.kids.getD (x.toNat - 1) u) k
          | _ => false)) (XI.toC (PI.imp (xi_range2 (i := 1) (j := ((nt t.sym :: t.kids.map encTr).length : Nat)) xe_int (xe_lenT (xe_var 0 rfl (pv 0)) T.b_len) (by rw [List.length_cons, List.length_map]; omega) T.b_range) fun σ H R ⟨G, S, q⟩ => ⟨G, S, fun J H' ds Gd e1 hp hG w => q J H' ds Gd e1 (by rw [hp, List.length_cons, List.length_map]; congr 1; omega) hG w⟩)) (sg_name 3) (fun _ _ _ _ _ => (pg_name (i := 3) sc_law_same.nd rfl (by first | exact .inl rfl | exact .inr rfl))) (fun d hd => ⟨trivial, ?_⟩) (by rw [rngD_len]; omega)) sc_law_same.nd (blkOk_by (N := n_law_same) (sc := defScope s_law_same) (by decide +kernel)))) T.b_all) ?_)
        · obtain ⟨j, hj⟩ := List.mem_iff_getElem?.mp hd
          obtain ⟨hjl, rfl⟩ := rngD_get hj
          have h1 := List.getElem?_eq_getElem hjl
          have h2 := List.getElem?_eq_getElem (show j < u.kids.length by omega)
          have hnat : ((1 : Int) + (j : Int)).toNat - 1 = j := by omega
          show ∀ (s : Shared) (H : Hp) (C : Addr) (cl : List (Str × Addr)) (fp : List Addr), XD _ _ _ (.bool (same (t.kids.getD (((1 : Int) + (j : Int)).toNat - 1) t) (u.kids.getD (((1 : Int) + (j : Int)).toNat - 1) u) k))
          rw [hnat, getD_of h1, getD_of h2]
          intro _ _ _ _ _
          refine (xe_callD (c_law_same T m) hr ⟨ar, t.kids[j], u.kids[j], k, ((kids_ok wt).2 _ (List.getElem_mem hjl)).1, ((kids_ok wu).2 _ (List.getElem_mem (show j < u.kids.length by omega))).1, by omega⟩ (xa_cons (xe_ixT (d := encTr t.kids[j]) (xe_var 0 rfl (pv 0)) (xe_var 3 rfl (pv 3)) ?_) (xa_cons (xe_ixT (d := encTr u.kids[j]) (xe_var 1 rfl (pv 1)) (xe_var 3 rfl (pv 3)) ?_) (xa_cons (xe_sub (xe_var 2 rfl (pv 2)) xe_int) xa_nil))) (fun r h => h) ?_ (hk := Nat.le_refl _))
          · rw [show (1 : Int) + (j : Int) = ((j + 1 : Nat) : Int) by omega]
            exact ix_at (by rw [List.getElem?_cons_succ, List.getElem?_map, h1]; rfl)
          · rw [show (1 : Int) + (j : Int) = ((j + 1 : Nat) : Int) by omega]
            exact ix_at (by rw [List.getElem?_cons_succ, List.getElem?_map, h2]; rfl)
          · show [_, _, SD.d (nt k)] = [_, _, SD.d (.int (((k + 1 : Nat) : Int) - 1))]
            rw [show (((k + 1 : Nat) : Int) - 1) = (k : Int) by omega]
        · rw [decide_eq_true he, Bool.true_and]
          congr 2
          unfold rngD
          rw [List.all_map]
          congr 1
          funext j
          have hnat : ((1 : Int) + (j : Int)).toNat - 1 = j := by omega
          show same (t.kids.getD (((1 : Int) + (j : Int)).toNat - 1) t) (u.kids.getD (((1 : Int) + (j : Int)).toNat - 1) u) k = _
          rw [hnat]
structure AlongArg where
  ar : List Nat
  t : Tr
  u : Tr
  pl : List Nat
  k : Nat
  wt : t.Wf ar
  wu : u.Wf ar
  ht : ∃ x, part t pl = some x
  hu : ∃ x, part u pl = some x
  k4 : k ≤ 4
  pl6 : pl.length ≤ 1000
def F_law_along : FS AlongArg := ⟨fun a => [.d (encTr a.t), .d (encTr a.u), .d (encR a.pl), .d (nt a.k)], fun a r => r = .d (.bool (along a.t a.u a.pl a.k))⟩
theorem c_law_along (T : Tx K mg) : Cl P w K mg base 6 "_law_along" F_law_along.sp := by
  refine cl_mk F_law_along T.f_law_along sc_law_along (fun _ => rfl) (fun _ => rfl) (by decide) ?_
  intro f cdv A outer s H E hr ⟨ar, t, u, pl, k, wt, wu, ⟨x, hx⟩, ⟨y, hy⟩, k4, pl6⟩
  refine xss_one (xs_retD (xe_allG (fun d => match d with
    | .int x => (match part t (pl.take x.toNat), part u (pl.take x.toNat) with
      | some a, some b => same a b k
      | _, _ => false)
    | _ => false) (XF.toL (xf_lcN (own := [("_law_at", 4)]) (lcD (ds := rngD 0 pl.length) (F := fun d => .bool (match d with
    | .int x => (match part t (pl.take x.toNat), part u (pl.take x.toNat) with
      | some a, some b => same a b k
      | _, _ => false)
    | _ => false)) (XI.toC (xi_range1 (n := pl.length) (XE.weak (xe_lenT (xe_var 2 rfl (pv 2)) T.b_len) fun r h => by rw [h, List.length_map]) (by omega) T.b_range)) (sg_name 4) (fun _ _ _ _ _ => (pg_name (i := 4) sc_law_along.nd rfl (by first | exact .inl rfl | exact .inr rfl))) (fun d hd => ⟨trivial, ?_⟩) (by rw [rngD_len]; omega)) sc_law_along.nd (blkOk_by (N := n_law_along) (sc := defScope s_law_along) (by decide +kernel)))) T.b_all) ?_)
  · obtain ⟨i, hi⟩ := List.mem_iff_getElem?.mp hd
    obtain ⟨hil, rfl⟩ := rngD_get hi
    obtain ⟨a, ha⟩ := part_take hx i
    obtain ⟨b, hb⟩ := part_take hy i
    show ∀ (s : Shared) (H : Hp) (C : Addr) (cl : List (Str × Addr)) (fp : List Addr), XD _ _ _ (.bool (match part t (pl.take ((0 : Int) + (i : Int)).toNat), part u (pl.take ((0 : Int) + (i : Int)).toNat) with
      | some a, some b => same a b k
      | _, _ => false))
    rw [show ((0 : Int) + (i : Int)).toNat = i by omega, ha, hb]
    intro _ _ _ _ _
    have htk : cutD (nts pl) none (some ((0 : Int) + (i : Int))) = nts (pl.take i) := by rw [show ((0 : Int) + (i : Int)) = (i : Int) by omega, cut_take]; exact List.map_take.symm
    refine (xe_callD (c_law_same T 4) hr ⟨ar, a, b, k, part_wf wt ha, part_wf wu hb, k4⟩ (xa_cons (xe_callD (y := encTr a) (c_law_part T) hr (t, pl.take i) (xa_cons (xe_var 0 rfl (pv 0)) (xa_cons (xe_slT (xe_var 2 rfl (pv 2)) xo_none (xo_some (xe_var 4 rfl (pv 4)))) xa_nil)) ?_ ?_) (xa_cons (xe_callD (y := encTr b) (c_law_part T) hr (u, pl.take i) (xa_cons (xe_var 1 rfl (pv 1)) (xa_cons (xe_slT (xe_var 2 rfl (pv 2)) xo_none (xo_some (xe_var 4 rfl (pv 4)))) xa_nil)) ?_ ?_) (xa_cons (xe_var 3 rfl (pv 3)) xa_nil))) (fun r h => h) rfl)
    · rintro r hr'
      rw [hr', ha]; rfl
    · show [_, SD.d (encR (pl.take i))] = [_, SD.d (.tuple _)]
      rw [htk]
    · rintro r hr'
      rw [hr', hb]; rfl
    · show [_, SD.d (encR (pl.take i))] = [_, SD.d (.tuple _)]
      rw [htk]
  · show SD.d (.bool _) = SD.d (.bool (along t u pl k))
    congr 2
    unfold rngD along
    rw [List.all_map]
    congr 1
    funext i
    show (match part t (pl.take ((0 : Int) + (i : Int)).toNat), part u (pl.take ((0 : Int) + (i : Int)).toNat) with
      | some a, some b => same a b k
      | _, _ => false) = _
    rw [show ((0 : Int) + (i : Int)).toNat = i by omega]
    all_goals
      cases part t (pl.take i) with
      | none => rfl
      | some a => cases part u (pl.take i) <;> rfl
/-- a show, where all is closed: none -/
structure ShowArg where
  A : Au
  wf : A.Wf
  k : Nat
  t : Tr
  u : Tr
  pl : List Nat
  wt : t.Wf A.ar
  wu : u.Wf A.ar
  ht : t.height ≤ 5
  hu : u.height ≤ 5
  k1 : 1 ≤ k ∧ k ≤ 4
  pl6 : pl.length ≤ 5
  cl : Closed A (PairAt A (k - 1))
def F_law_shows : FS ShowArg := ⟨fun a => [.d (encA a.A), .d (nt a.k), .d (encTr a.t), .d (encTr a.u), .d (encR a.pl)], fun a r => r = .d (.bool false)⟩
theorem encO_none {o : Option Tr} : ∀ r : SD, r = .d (encO o) → (r = .d .none ∧ o.isNone = true) ∨ (r ≠ .d .none ∧ o.isNone = false) := fun r h => by
  subst h
  cases o with
  | none => exact .inl ⟨rfl, rfl⟩
  | some t => exact .inr ⟨by show SD.d (encTr t) ≠ _; rw [enc_tr]; exact (fun z => nomatch z), rfl⟩
theorem c_law_shows (T : Tx K mg) : Cl P w K mg base 12 "_law_shows" F_law_shows.sp := by
  refine cl_mk F_law_shows T.f_law_shows sc_law_shows (fun _ => rfl) (fun _ => rfl) (by decide) ?_
  intro f cdv A outer s H E hr ⟨M, hM, k, t, u, pl, wt, wu, ht, hu, ⟨k1, k4⟩, pl6, hcl⟩
  refine xss_if (xw_pt (xw_or (xt_not (xt_val (xe_ixT (xe_ixT (xe_var 0 rfl (pv 0)) xe_int enc_good) (xe_callD (c_law_state T 5) hr ⟨M, hM, t, wt, ht⟩ (xa_cons (xe_var 0 rfl (pv 0)) (xa_cons (xe_var 2 rfl (pv 2)) xa_nil)) (fun r h => h)) (map_at (good_at (state_lt hM wt)))))) fun _ => (xw_or1 (xt_not (xt_val (xe_ixT (xe_ixT (xe_var 0 rfl (pv 0)) xe_int enc_good) (xe_callD (c_law_state T 5) hr ⟨M, hM, u, wu, hu⟩ (xa_cons (xe_var 0 rfl (pv 0)) (xa_cons (xe_var 3 rfl (pv 3)) xa_nil)) (fun r h => h)) (map_at (good_at (state_lt hM wu))))))))) (fun hc => xss_one (xs_retD xe_bl rfl)) (fun hc => ?_)
  have gt : M.isGood (state M t) = true := by
    cases h : M.isGood (state M t) with
    | true => rfl
    | false => rw [h] at hc; cases hc
  have gu : M.isGood (state M u) = true := by
    cases h : M.isGood (state M u) with
    | true => rfl
    | false => rw [gt, h] at hc; cases hc
  cases hpt : part t pl with
  | none =>
    refine xss_ifT (p := true) (xw_pt (xw_or (p := true) (q := true) (xt_isN (t := true) (xe_callD (c_law_part T) hr (t, pl) (xa_cons (xe_var 2 rfl (pv 2)) (xa_cons (xe_var 4 rfl (pv 4)) xa_nil)) (fun r h => h)) ?_) (fun h => absurd h (by decide)))) rfl (xss_one (xs_retD xe_bl rfl))
    intro r h
    rw [hpt] at h
    exact .inl ⟨h, rfl⟩
  | some x =>
    cases hpu : part u pl with
    | none =>
      refine xss_ifT (p := true) (xw_pt (xw_or (p := false) (q := true) (xt_isN (t := false) (xe_callD (c_law_part T) hr (t, pl) (xa_cons (xe_var 2 rfl (pv 2)) (xa_cons (xe_var 4 rfl (pv 4)) xa_nil)) (fun r h => h)) ?_) (fun h => (xw_or (p := true) (q := true) (xt_isN (t := true) (xe_callD (c_law_part T) hr (u, pl) (xa_cons (xe_var 3 rfl (pv 3)) (xa_cons (xe_var 4 rfl (pv 4)) xa_nil)) (fun r h => h)) ?_) (fun h => absurd h (by decide)))))) rfl (xss_one (xs_retD xe_bl rfl))
      · intro r h
        have := encO_none r h
        rw [hpt] at this
        exact this
      · intro r h
        rw [hpu] at h
        exact .inl ⟨h, rfl⟩
    | some y =>
      refine xss_if (p := !along t u pl k) (xw_pt (xw_or (p := false) (q := !along t u pl k) (xt_isN (t := false) (xe_callD (c_law_part T) hr (t, pl) (xa_cons (xe_var 2 rfl (pv 2)) (xa_cons (xe_var 4 rfl (pv 4)) xa_nil)) (fun r h => h)) ?_) (fun h => (xw_or (p := false) (q := !along t u pl k) (xt_isN (t := false) (xe_callD (c_law_part T) hr (u, pl) (xa_cons (xe_var 3 rfl (pv 3)) (xa_cons (xe_var 4 rfl (pv 4)) xa_nil)) (fun r h => h)) ?_) (fun h => (xw_or1 (xt_not (xt_val (xe_callD (c_law_along T) hr ⟨M.ar, t, u, pl, k, wt, wu, ⟨x, hpt⟩, ⟨y, hpu⟩, k4, by omega⟩ (xa_cons (xe_var 2 rfl (pv 2)) (xa_cons (xe_var 3 rfl (pv 3)) (xa_cons (xe_var 4 rfl (pv 4)) (xa_cons (xe_var 1 rfl (pv 1)) xa_nil)))) (fun r h => h)))))))))) (fun hc => xss_one (xs_retD xe_bl rfl)) (fun hc => ?_)
      · intro r h
        have := encO_none r h
        rw [hpt] at this
        exact this
      · intro r h
        have := encO_none r h
        rw [hpu] at this
        exact this
      · have hal : along t u pl (k - 1 + 1) = true := by
          rw [show k - 1 + 1 = k by omega]
          cases h : along t u pl k with
          | true => rfl
          | false => rw [h] at hc; cases hc
        have hg := closed_graft hcl wt wu gt gu hpt hpu hal
        have wy := part_wf wu hpu
        have wp := put_wf (pl := pl) wt wy
        have hh : (put t pl y).height ≤ 10 := by
          have h1 := put_height (pl := pl) (t := t) (u := y)
          have h2 := part_height hpu
          omega
        refine xss_one (xs_retD (xe_not (xe_ixT (xe_ixT (xe_var 0 rfl (pv 0)) xe_int enc_good) (xe_callD (c_law_state T 10) hr ⟨M, hM, put t pl y, wp, hh⟩ (xa_cons (xe_var 0 rfl (pv 0)) (xa_cons (xe_callD (c_law_put T 5) hr ⟨(t, pl, y), pl6, x, hpt⟩ (xa_cons (xe_var 2 rfl (pv 2)) (xa_cons (xe_var 4 rfl (pv 4)) (xa_cons (xe_callD (y := encTr y) (c_law_part T) hr (u, pl) (xa_cons (xe_var 3 rfl (pv 3)) (xa_cons (xe_var 4 rfl (pv 4)) xa_nil)) ?_) xa_nil))) (fun r h => h)) xa_nil)) (fun r h => h)) (map_at (good_at (state_lt hM wp))))) ?_)
        · intro r h
          rw [h, hpu]; rfl
        · rw [hg]; rfl
end
end PW

-- V7
/-! V7: _law_is_bad, _law_climbed, _law_climbs, _law_met, _law_is_closed. -/
namespace PW
open PySem PySem.Spec PyProof.Rows L2 PL Ma
section
variable {P : Program} {w : World} {K : PySem.W.Frag} {mg : Str → Option Value} {base : Heap}
theorem c_law_is_bad (T : Tx K mg) : Cl P w K mg base 1 "_law_is_bad" F_is_bad.sp := by
  refine cl_mk F_is_bad T.f_law_is_bad sc_law_is_bad (fun _ => rfl) (fun _ => rfl) (by decide) ?_
  intro f cdv A outer s H E hr ⟨M, hM, ⟨p, q, u⟩, l1, l2, l3⟩
  refine xss_one (xs_retD (xe_and (xe_ixT (xe_ixT (xe_var 0 rfl (pv 0)) xe_int enc_good) (xe_ixT (xe_var 1 rfl (pv 1)) xe_int rfl) (map_at (good_at l1))) fun _ => (xe_and (xe_ixT (xe_ixT (xe_var 0 rfl (pv 0)) xe_int enc_good) (xe_ixT (xe_var 1 rfl (pv 1)) xe_int rfl) (map_at (good_at l2))) fun _ => (xe_and1 (xe_not (xe_ixT (xe_ixT (xe_var 0 rfl (pv 0)) xe_int enc_good) (xe_ixT (xe_var 1 rfl (pv 1)) xe_int rfl) (map_at (good_at l3))))))) ?_)
  rfl
structure CbArg where
  A : Au
  wf : A.Wf
  t : P3
  lt : t.1 < A.n ∧ t.2.1 < A.n ∧ t.2.2 < A.n
  sym : Nat
  kd : Option (Bool × P2)
  h : match kd with
    | none => A.ar[sym]? = some 1
    | some (_, p) => A.ar[sym]? = some 2 ∧ p.1 < A.n ∧ p.2 < A.n
def CbArg.child (a : CbArg) : Nat := match a.kd with
  | some (true, _) => 1
  | _ => 0
def CbArg.pair (a : CbArg) : PyData := match a.kd with
  | none => .none
  | some (_, p) => encP p
def CbArg.out (a : CbArg) : P3 := match a.kd with
  | none => c1 a.A a.sym a.t
  | some (false, p) => cl a.A a.sym a.t p
  | some (true, p) => cr a.A a.sym a.t p
def F_law_climbed : FS CbArg := ⟨fun a => [.d (encA a.A), .d (encT a.t), .d (nt a.sym), .d (nt a.child), .d a.pair], fun a r => r = .d (encT a.out)⟩
def fx (b : Bool) (x y : Nat) : List Nat := if b then [y, x] else [x, y]
theorem c_law_climbed (T : Tx K mg) : Cl P w K mg base 2 "_law_climbed" F_law_climbed.sp := by
  refine cl_mk F_law_climbed T.f_law_climbed sc_law_climbed (fun _ => rfl) (fun _ => rfl) (by decide) ?_
  intro f cdv A outer s H E hr ⟨M, hM, ⟨u1, u2, u3⟩, ⟨k1, k2, k3⟩, sym, kd, h⟩
  cases kd with
  | none =>
    dsimp only at h k1 k2 k3
    refine xss_ifT (xt_isN (t := true) (xe_var 4 rfl (pv 4)) (fun r h => .inl ⟨h, rfl⟩)) rfl ?_
    refine xss_one (xs_retD (xe_tuple (XF.toL (xf_lcN (own := [("_law_one", 5)]) (lcZ [u1, u2, u3] nt (fun x => nt (M.step sym [x])) rfl (XI.toC (xi_tupD (xe_var 1 rfl (pv 1)))) (sg_name 5) (fun _ _ _ _ _ => (pg_name (i := 5) sc_law_climbed.nd rfl (by first | exact .inl rfl | exact .inr rfl))) (fun x hx => ⟨trivial, fun _ _ _ _ _ => (xe_callD (c_law_step T) hr ⟨M, hM, sym, [x], h, ?_⟩ (xa_cons (xe_var 0 rfl (pv 0)) (xa_cons (xe_var 2 rfl (pv 2)) (xa_cons (XF.toL (xf_lstA (xd_cons (xe_var 5 rfl (pv 5)) xd_nil))) xa_nil))) fun r h => h)⟩) (by simp)) sc_law_climbed.nd (blkOk_by (N := n_law_climbed) (sc := defScope s_law_climbed) (by decide +kernel)))) T.b_tuple) rfl)
    simp only [List.mem_cons, List.not_mem_nil, or_false] at hx
    simp only [List.mem_singleton]
    rintro s rfl
    rcases hx with rfl | rfl | rfl <;> assumption
  | some bp =>
    obtain ⟨b, p1, p2⟩ := bp
    dsimp only at h k1 k2 k3
    obtain ⟨h2, l1, l2⟩ := h
    have hchild : (CbArg.child ⟨M, hM, (u1, u2, u3), ⟨k1, k2, k3⟩, sym, some (b, p1, p2), h2, l1, l2⟩) = if b then 1 else 0 := by cases b <;> rfl
    have e0 : F_law_climbed.args ⟨M, hM, (u1, u2, u3), ⟨k1, k2, k3⟩, sym, some (b, p1, p2), h2, l1, l2⟩ = [.d (encA M), .d (.tuple (nts [u1, u2, u3])), .d (nt sym), .d (nt (if b then 1 else 0)), .d (encP (p1, p2))] := by
      unfold F_law_climbed
      dsimp only
      rw [hchild]
      rfl
    rw [e0]
    generalize hvs : List.zipWith (fun x y => M.step sym (fx b x y)) [u1, u2, u3] [p1, p2, p1] = vs
    have hres : F_law_climbed.res ⟨M, hM, (u1, u2, u3), ⟨k1, k2, k3⟩, sym, some (b, p1, p2), h2, l1, l2⟩ = fun r => r = .d (.tuple (nts vs)) := by rw [← hvs]; cases b <;> rfl
    rw [hres]
    refine xss_ifF (xt_isN (t := false) (xe_var 4 rfl (pv 4)) (fun r h => .inr ⟨by rw [h]; exact (fun z => nomatch z), rfl⟩)) rfl ?_
    refine xss_set 6 (x := .tuple (nts [p1, p2, p1])) (xe_tupA (xd_cons (xe_ixT (xe_var 4 rfl (pv 4)) xe_int rfl) (xd_cons (xe_ixT (xe_var 4 rfl (pv 4)) xe_int rfl) (xd_cons (xe_ixT (xe_var 4 rfl (pv 4)) xe_int rfl) xd_nil)))) ?_ sc_law_climbed.nd
    refine xss_setF 7 (xf_lstA xd_nil) (fun ad ds e1 => ?_) sc_law_climbed.nd
    subst e1
    refine xss_cons (M := fun ρ => ∃ s8 s9, ρ = [.d (encA M), .d (.tuple (nts [u1, u2, u3])), .d (nt sym), .d (nt (if b then 1 else 0)), .d (encP (p1, p2)), .no, .d (.tuple (nts [p1, p2, p1])), .ol ad (nts vs), s8, s9]) (xs_forD (I := fun k ρ => ∃ s8 s9, ρ = [.d (encA M), .d (.tuple (nts [u1, u2, u3])), .d (nt sym), .d (nt (if b then 1 else 0)), .d (encP (p1, p2)), .no, .d (.tuple (nts [p1, p2, p1])), .ol ad (nts (vs.take k)), s8, s9]) (xi_range1 (n := 3) xe_int (by decide) T.b_range) (pg_name (i := 8) sc_law_climbed.nd rfl (by first | exact .inl rfl | exact .inr rfl)) (sg_name 8) ⟨.no, .no, rfl⟩ (fun k d ρ1 hd hI => ⟨trivial, ?_⟩) (fun ρ1 hI => ?_)) (fun ρ1 e1 => ?_)
    · obtain ⟨hk, rfl⟩ := rngD_get hd
      rw [show ((0 : Int) + (k : Int)) = (k : Int) by omega]
      obtain ⟨s8, s9, rfl⟩ := hI
      have hx := List.getElem?_eq_getElem (show k < [u1, u2, u3].length from hk)
      have hy := List.getElem?_eq_getElem (show k < [p1, p2, p1].length from hk)
      have hxm := List.getElem_mem (show k < [u1, u2, u3].length from hk)
      have hym := List.getElem_mem (show k < [p1, p2, p1].length from hk)
      have hv : vs[k]? = some (M.step sym (fx b [u1, u2, u3][k] [p1, p2, p1][k])) := by
        rw [← hvs, List.getElem?_zipWith, hx, hy]
      have hxl : [u1, u2, u3][k] < M.n := by
        simp only [List.mem_cons, List.not_mem_nil, or_false] at hxm
        rcases hxm with e | e | e <;> rw [e] <;> assumption
      have hyl : [p1, p2, p1][k] < M.n := by
        simp only [List.mem_cons, List.not_mem_nil, or_false] at hym
        rcases hym with e | e | e <;> rw [e] <;> assumption
      generalize [u1, u2, u3][k] = x at hx hxl hv
      generalize [p1, p2, p1][k] = y at hy hyl hv
      have hix := nts_at hx
      have hiy := nts_at hy
      refine xss_setF 9 (xf_lstA (xd_cons (xe_ixT (xe_var 1 rfl (pv 1)) (xe_var 8 rfl (pv 8)) hix) (xd_cons (xe_ixT (xe_var 6 rfl (pv 6)) (xe_var 8 rfl (pv 8)) hiy) xd_nil))) (fun ad9 ds e1 => ?_) sc_law_climbed.nd
      subst e1
      refine xss_cons (M := fun ρ => ∃ ad9, ρ = [.d (encA M), .d (.tuple (nts [u1, u2, u3])), .d (nt sym), .d (nt (if b then 1 else 0)), .d (encP (p1, p2)), .no, .d (.tuple (nts [p1, p2, p1])), .ol ad (nts (vs.take k)), .d (nt k), .ol ad9 (nts (fx b x y))]) (xs_if (xt_eqI (xe_var 3 rfl (pv 3)) xe_int) (fun hc => ?_) (fun hc => ?_)) (fun ρ1 e1 => ?_)
      · have hb : b = true := by cases b with
          | true => rfl
          | false => exact absurd hc (by decide)
        subst hb
        refine xss_setF 9 (xf_lstA (xd_cons (xe_ixT (xe_var 6 rfl (pv 6)) (xe_var 8 rfl (pv 8)) hiy) (xd_cons (xe_ixT (xe_var 1 rfl (pv 1)) (xe_var 8 rfl (pv 8)) hix) xd_nil))) (fun ad9 ds e1 => ?_) sc_law_climbed.nd
        subst e1
        exact xss_nil ⟨_, rfl⟩
      · have hb : b = false := by cases b with
          | false => rfl
          | true => exact absurd hc (by decide)
        subst hb
        exact xss_nil ⟨_, rfl⟩
      · obtain ⟨ad9, rfl⟩ := e1
        have hfl : (fx b x y).length = 2 := by cases b <;> rfl
        have hfs : ∀ s ∈ fx b x y, s < M.n := by
          intro s hs
          cases b <;> simp [fx] at hs <;> rcases hs with rfl | rfl <;> assumption
        refine xss_cons (xs_appN 7 rfl (pv 7) (xe_callD (c_law_step T) hr ⟨M, hM, sym, fx b x y, by rw [hfl]; exact h2, hfs⟩ (xa_cons (xe_var 0 rfl (pv 0)) (xa_cons (xe_var 2 rfl (pv 2)) (xa_cons (xe_varO 9 rfl (pv 9)) xa_nil))) fun r h => h) (fun r h => ⟨_, h⟩) ?_ (fun te h => pe_bm PySem.F.plainAttrs_list PySem.F.slot_list_append PySem.F.type_list_append mt_append (pv 7) (pa_cons h pa_nil))) (fun ρ1 ⟨x', e1, e2⟩ => ?_)
        · rw [List.length_map, List.length_take]; omega
        · cases e1
          subst e2
          refine xss_nil ⟨.d (nt k), .ol ad9 (nts (fx b x y)), ?_⟩
          rw [Ma.take_next hv, show nts (vs.take k ++ [M.step sym (fx b x y)]) = nts (vs.take k) ++ [nt (M.step sym (fx b x y))] from List.map_append]
          rfl
    · rw [rngD_len, List.take_of_length_le (by rw [← hvs]; simp)] at hI
      exact hI
    · obtain ⟨s8, s9, rfl⟩ := e1
      exact xss_one (xs_retD (xe_tuple (xe_varO 7 rfl (pv 7)) T.b_tuple) rfl)
theorem climbT_len {A : Au} {L : List P2} (hL : L.length ≤ 16) {t : P3} {s : Nat} : ∀ a, (climbT A L t s a).length ≤ 32
  | 0 => by simp [climbT]
  | 1 => by simp [climbT]
  | 2 => by
    have : (climbT A L t s 2).length = L.length * 2 := flat_const fun _ _ => rfl
    omega
  | _ + 3 => by simp [climbT]
def F_law_climbs : FS ClimbArg := ⟨fun a => [.d (encA a.A), .d (encT a.t), .d (encL a.L)], fun a r => r = .l ((climbs a.A a.L a.t).map encT)⟩
theorem c_law_climbs (T : Tx K mg) : Cl P w K mg base 3 "_law_climbs" F_law_climbs.sp := by
  refine cl_mk F_law_climbs T.f_law_climbs sc_law_climbs (fun _ => rfl) (fun _ => rfl) (by decide) ?_
  intro f cdv A outer s H E hr ⟨M, t, L, hM, hL, ht⟩
  have hlen := hL.len hM
  have hbound : ∀ i, i ≤ M.ar.length → (upTo M (climbT M L t) i).length ≤ 128 := fun i hi => by
    have h1 := upTo_len hM (f := climbT M L t) 32 (fun s a _ => climbT_len hlen a) i hi
    have h2 := (ar_small _ hM.ar).2.2
    omega
  have har4 := (ar_small _ hM.ar).2.2
  refine xss_setF 3 (xf_lstA xd_nil) (fun ad ds e1 => ?_) sc_law_climbs.nd
  subst e1
  refine xss_cons (M := fun ρ => ∃ s4 s5, ρ = [.d (encA M), .d (encT t), .d (encL L), .ol ad ((upTo M (climbT M L t) M.ar.length).map encT), s4, s5]) (xs_forD (I := fun i ρ => ∃ s4 s5, ρ = [.d (encA M), .d (encT t), .d (encL L), .ol ad ((upTo M (climbT M L t) i).map encT), s4, s5]) (xi_range1 (n := M.ar.length) (XE.weak (xe_lenT (xe_ixT (xe_var 0 rfl (pv 0)) xe_int enc_ar) T.b_len) fun r h => by rw [h, List.length_map]) (by omega) T.b_range) (pg_name (i := 4) sc_law_climbs.nd rfl (by first | exact .inl rfl | exact .inr rfl)) (sg_name 4) ⟨.no, .no, rfl⟩ (fun i d ρ1 hd hI => ⟨trivial, ?_⟩) (fun ρ1 hI => by rw [rngD_len] at hI; exact hI)) (fun ρ1 e1 => ?_)
  · obtain ⟨hi, rfl⟩ := rngD_get hd
    rw [show ((0 : Int) + (i : Int)) = (i : Int) by omega]
    obtain ⟨s4, s5, rfl⟩ := hI
    have ha := List.getElem?_eq_getElem hi
    generalize M.ar[i] = a at ha
    have a2 := hM.ar2 ha
    have hat := nts_at ha
    rw [upTo_succ ha]
    have hb := hbound i (Nat.le_of_lt hi)
    generalize upTo M (climbT M L t) i = D at hb ⊢
    have hDl : (D.map encT).length ≤ 128 := by rw [List.length_map]; exact hb
    rcases (by omega : a = 0 ∨ a = 1 ∨ a = 2) with rfl | rfl | rfl
    · refine xss_ifF (xt_eqI (xe_ixT (xe_ixT (xe_var 0 rfl (pv 0)) xe_int enc_ar) (xe_var 4 rfl (pv 4)) hat) xe_int) rfl ?_
      refine xss_ifF (xt_eqI (xe_ixT (xe_ixT (xe_var 0 rfl (pv 0)) xe_int enc_ar) (xe_var 4 rfl (pv 4)) hat) xe_int) rfl ?_
      exact xss_nil ⟨_, _, by rw [show D ++ climbT M L t i 0 = D from List.append_nil D]; rfl⟩
    · refine xss_ifY (M := fun ρ => ρ = [.d (encA M), .d (encT t), .d (encL L), .ol ad ((D ++ climbT M L t i 1).map encT), .d (nt i), s5]) (xt_eqI (xe_ixT (xe_ixT (xe_var 0 rfl (pv 0)) xe_int enc_ar) (xe_var 4 rfl (pv 4)) hat) xe_int) rfl ?_ (fun ρ1 e1 => ?_)
      · refine xss_cons (xs_appN 3 rfl (pv 3) (xe_callD (c_law_climbed T) hr ⟨M, hM, t, ht, i, none, ha⟩ (xa_cons (xe_var 0 rfl (pv 0)) (xa_cons (xe_var 1 rfl (pv 1)) (xa_cons (xe_var 4 rfl (pv 4)) (xa_cons xe_int (xa_cons xe_non xa_nil))))) fun r h => h) (fun r h => ⟨_, h⟩) (by omega) (fun te h => pe_bm PySem.F.plainAttrs_list PySem.F.slot_list_append PySem.F.type_list_append mt_append (pv 3) (pa_cons h pa_nil))) (fun ρ1 ⟨x, e1, e2⟩ => ?_)
        cases e1
        subst e2
        exact xss_nil (by rw [List.map_append]; rfl)
      · subst e1
        refine xss_ifF (xt_eqI (xe_ixT (xe_ixT (xe_var 0 rfl (pv 0)) xe_int enc_ar) (xe_var 4 rfl (pv 4)) hat) xe_int) rfl ?_
        exact xss_nil ⟨_, _, rfl⟩
    · refine xss_ifF (xt_eqI (xe_ixT (xe_ixT (xe_var 0 rfl (pv 0)) xe_int enc_ar) (xe_var 4 rfl (pv 4)) hat) xe_int) rfl ?_
      refine xss_ifY (M := fun ρ => ∃ s5, ρ = [.d (encA M), .d (encT t), .d (encL L), .ol ad ((D ++ climbT M L t i 2).map encT), .d (nt i), s5]) (xt_eqI (xe_ixT (xe_ixT (xe_var 0 rfl (pv 0)) xe_int enc_ar) (xe_var 4 rfl (pv 4)) hat) xe_int) rfl ?_ (fun ρ1 e1 => ?_)
      · refine xss_one (xs_forD (I := fun j ρ => ∃ s5, ρ = [.d (encA M), .d (encT t), .d (encL L), .ol ad ((D ++ (L.take j).flatMap fun p => [cl M i t p, cr M i t p]).map encT), .d (nt i), s5]) (xi_tupD (ds := L.map encP) (xe_var 2 rfl (pv 2))) (pg_name (i := 5) sc_law_climbs.nd rfl (by first | exact .inl rfl | exact .inr rfl)) (sg_name 5) ⟨s5, by rw [List.take_zero, List.flatMap_nil, List.append_nil]; rfl⟩ (fun j d ρ1 hd hI => ⟨trivial, ?_⟩) (fun ρ1 hI => ?_))
        · obtain ⟨p, hp, rfl⟩ := encL_get hd
          have hpl := hL.lt p (List.mem_of_getElem? hp)
          obtain ⟨s5, rfl⟩ := hI
          have hflat : ((L.take j).flatMap fun p => [cl M i t p, cr M i t p]).length ≤ 32 := by
            rw [flat_const (n := 2) fun _ _ => rfl, List.length_take]
            omega
          rw [Ma.take_next hp, List.flatMap_append, List.flatMap_singleton, ← List.append_assoc]
          generalize hD2 : D ++ ((L.take j).flatMap fun p => [cl M i t p, cr M i t p]) = D2
          have hl2 : D2.length ≤ 160 := by rw [← hD2, List.length_append]; omega
          clear hD2 hflat
          have hl3 : (D2.map encT).length ≤ 160 := by rw [List.length_map]; exact hl2
          refine xss_cons (xs_appN 3 rfl (pv 3) (xe_callD (c_law_climbed T) hr ⟨M, hM, t, ht, i, some (false, p), ha, hpl⟩ (xa_cons (xe_var 0 rfl (pv 0)) (xa_cons (xe_var 1 rfl (pv 1)) (xa_cons (xe_var 4 rfl (pv 4)) (xa_cons xe_int (xa_cons (xe_var 5 rfl (pv 5)) xa_nil))))) fun r h => h) (fun r h => ⟨_, h⟩) (by omega) (fun te h => pe_bm PySem.F.plainAttrs_list PySem.F.slot_list_append PySem.F.type_list_append mt_append (pv 3) (pa_cons h pa_nil))) (fun ρ1 ⟨x, e1, e2⟩ => ?_)
          cases e1
          subst e2
          refine xss_cons (xs_appN 3 rfl (pv 3) (xe_callD (c_law_climbed T) hr ⟨M, hM, t, ht, i, some (true, p), ha, hpl⟩ (xa_cons (xe_var 0 rfl (pv 0)) (xa_cons (xe_var 1 rfl (pv 1)) (xa_cons (xe_var 4 rfl (pv 4)) (xa_cons xe_int (xa_cons (xe_var 5 rfl (pv 5)) xa_nil))))) fun r h => h) (fun r h => ⟨_, h⟩) (by rw [List.length_append]; simp; omega) (fun te h => pe_bm PySem.F.plainAttrs_list PySem.F.slot_list_append PySem.F.type_list_append mt_append (pv 3) (pa_cons h pa_nil))) (fun ρ1 ⟨x, e1, e2⟩ => ?_)
          cases e1
          subst e2
          refine xss_nil ⟨.d (encP p), ?_⟩
          rw [List.map_append]
          show _ = [_, _, _, SD.ol ad (_ ++ [_, _]), _, _]
          rw [show ∀ (l : List PyData) (a b : PyData), l ++ [a, b] = (l ++ [a]) ++ [b] by intro l a b; simp]
          rfl
        · rw [List.length_map, List.take_length] at hI
          exact hI
      · obtain ⟨s5, rfl⟩ := e1
        exact xss_nil ⟨_, _, rfl⟩
  · obtain ⟨s4, s5, rfl⟩ := e1
    exact xss_one (xs_retO 3 rfl (pv 3) rfl)
end
end PW

-- V8
/-! V8: _law_met, _law_is_closed. -/
namespace PW
open PySem PySem.Spec PyProof.Rows L2 PL Ma
section
variable {P : Program} {w : World} {K : PySem.W.Frag} {mg : Str → Option Value} {base : Heap}
def bt (p : P2) : P3 := (p.1, p.2, p.2)
theorem bt_nodup {L : List P2} (h : L.Nodup) : (L.map bt).Nodup := by
  rw [List.nodup_iff_pairwise_ne, List.pairwise_map]
  refine List.Pairwise.imp (fun {x y} hne e => hne ?_) h
  unfold bt at e
  injection e with e1 e2
  injection e2 with e2 _
  exact Prod.ext e1 e2
theorem foldl_take {fs : List P3} (h : fs.Nodup) {i : Nat} {t : P3} (ht : fs[i]? = some t) : putS (fs.take i) t = fs.take (i + 1) := by
  unfold putS
  rw [Ma.take_next ht, if_neg fun hm => ?_]
  obtain ⟨j, hj⟩ := List.mem_iff_getElem?.mp hm
  have hj2 := hj
  rw [List.getElem?_take] at hj
  split at hj
  · rename_i hji
    have hil := (List.getElem?_eq_some_iff.mp ht).1
    have hjl := (List.getElem?_eq_some_iff.mp hj).1
    have e1 := (List.getElem?_eq_some_iff.mp ht).2
    have e2 := (List.getElem?_eq_some_iff.mp hj).2
    exact (List.pairwise_iff_getElem.mp (List.nodup_iff_pairwise_ne.mp h) j i hjl hil hji) (e2.trans e1.symm)
  · cases hj
structure LM (A : Au) (L : List P2) (fs : List P3) : Prop where
  nd : fs.Nodup
  met : ∀ t ∈ fs, Met A (InL L) t
  bas : ∀ p ∈ L, bt p ∈ fs
theorem LM.len {A : Au} (w : A.Wf) {L : List P2} (hL : Lay A L) {fs : List P3} (h : LM A L fs) : fs.length ≤ 64 := nodup_T h.nd fun t m => ((h.met t m).lt4 w hL.lt).2
def Cov (A : Au) (L : List P2) (fs : List P3) (k : Nat) : Prop := ∀ (j : Nat) t, j < k → fs[j]? = some t → ∀ u, Up A L t u → u ∈ fs
theorem c_law_met (T : Tx K mg) : Cl P w K mg base 4 "_law_met" F_met_with.sp := by
  refine cl_mk F_met_with T.f_law_met sc_law_met (fun _ => rfl) (fun _ => rfl) (by decide) ?_
  intro f cdv A outer s H E hr ⟨⟨M, L⟩, hM, hL⟩
  dsimp only at hM hL
  have hlen := hL.len hM
  refine xss_cons (xs_setLcN 2 (own := [("_law_one", 3), ("_law_other", 4)]) (lcZ L encP (fun p => encT (bt p)) rfl (XI.toC (xi_tupD (xe_var 1 rfl (pv 1)))) (sg_pair 3 4) (fun _ _ _ _ _ => (pg_tup rfl (pgs_cons (pg_name (i := 3) sc_law_met.nd rfl (by first | exact .inl rfl | exact .inr rfl)) (pgs_cons (pg_name (i := 4) sc_law_met.nd rfl (by first | exact .inl rfl | exact .inr rfl)) pgs_nil)))) (fun p hp => ⟨⟨_, _, rfl⟩, fun _ _ _ _ _ => (xe_tupA (xd_cons (xe_var 3 rfl (pv 3)) (xd_cons (xe_var 4 rfl (pv 4)) (xd_cons (xe_var 4 rfl (pv 4)) xd_nil))))⟩) (by omega)) sc_law_met.nd (blkOk_by (N := n_law_met) (sc := defScope s_law_met) (by decide +kernel)) (sw_true rfl rfl rfl (by decide +kernel))) (fun ρ1 ⟨ad2, ds, e1, e2⟩ => ?_)
  have e1 : ds = (L.map bt).map encT := by rw [e1, List.map_map]; rfl
  subst e1 e2
  have h0 : LM M L (L.map bt) := ⟨bt_nodup hL.nd, fun t m => by obtain ⟨p, hp, rfl⟩ := List.mem_map.mp m; exact .base hp, fun p hp => List.mem_map.mpr ⟨p, hp, rfl⟩⟩
  generalize L.map bt = fs0 at h0
  have h0l := h0.len hM hL
  refine xss_cons (xs_newT 5 sc_law_met.nd) (fun ρ1 ⟨ad, e1⟩ => ?_)
  subst e1
  refine xss_cons (M := fun ρ => ∃ s6, ρ = [.d (encA M), .d (encL L), .ol ad2 (fs0.map encT), .no, .no, .ot ad (fs0.map kt), s6, .no, .no]) (xs_forO 2 (I := fun i ρ => ∃ s6, ρ = [.d (encA M), .d (encL L), .ol ad2 (fs0.map encT), .no, .no, .ot ad ((fs0.take i).map kt), s6, .no, .no]) rfl (pv 2) (pg_name (i := 6) sc_law_met.nd rfl (by first | exact .inl rfl | exact .inr rfl)) (sg_name 6) ⟨.no, rfl⟩ (fun i ρ1 ⟨s6, e⟩ => by rw [e]; rfl) (fun i d ρ1 hd hI => ⟨trivial, ?_⟩) (fun ρ1 hI => by rw [List.length_map, List.take_length] at hI; exact hI)) (fun ρ1 e1 => ?_)
  · obtain ⟨t, ht, rfl⟩ := encT_get hd
    obtain ⟨s6, rfl⟩ := hI
    refine xss_cons (xs_putL 5 rfl (pv 5) (xe_var 6 rfl (pv 6)) (fun r h => ⟨kt t, h⟩) (by rw [List.length_map, List.length_take]; omega) (hu_of hr)) (fun ρ1 ⟨k, e1, e2⟩ => ?_)
    cases kT3_inj e1
    rw [kt_put, foldl_take h0.nd ht] at e2
    subst e2
    exact xss_nil ⟨_, rfl⟩
  · obtain ⟨s6, rfl⟩ := e1
    refine xss_cons (M := fun ρ => ∃ fs s6 s7 s8, ρ = [.d (encA M), .d (encL L), .ol ad2 (fs.map encT), .no, .no, .ot ad (fs.map kt), s6, s7, s8] ∧ LM M L fs ∧ Cov M L fs 64) (xs_forD (I := fun k ρ => ∃ fs s6 s7 s8, ρ = [.d (encA M), .d (encL L), .ol ad2 (fs.map encT), .no, .no, .ot ad (fs.map kt), s6, s7, s8] ∧ LM M L fs ∧ Cov M L fs k) (xi_range1 (n := 64) xe_int (by decide) T.b_range) (pg_name (i := 7) sc_law_met.nd rfl (by first | exact .inl rfl | exact .inr rfl)) (sg_name 7) ⟨fs0, s6, .no, .no, rfl, h0, fun j t h => absurd h (by omega)⟩ (fun k d ρ1 hd hI => ⟨trivial, ?_⟩) (fun ρ1 hI => by rw [rngD_len] at hI; exact hI)) (fun ρ1 e1 => ?_)
    · obtain ⟨hk, rfl⟩ := rngD_get hd
      rw [show ((0 : Int) + (k : Int)) = (k : Int) by omega]
      obtain ⟨fs, s6, s7, s8, rfl, hw, hcov⟩ := hI
      refine xss_one (xs_if (xt_ltI (xe_var 7 rfl (pv 7)) (xe_lenL (xe_varO 2 rfl (pv 2)) T.b_len)) (fun hc => ?_) (fun hc => ?_))
      · have hkl : k < fs.length := by simpa using hc
        have ht := List.getElem?_eq_getElem hkl
        generalize fs[k] = t at ht
        have hmt := hw.met t (List.mem_of_getElem? ht)
        refine xss_one (xs_forD (ds := (climbs M L t).map encT) (I := fun j ρ => ∃ fs2 ext s8, ρ = [.d (encA M), .d (encL L), .ol ad2 (fs2.map encT), .no, .no, .ot ad (fs2.map kt), s6, .d (nt k), s8] ∧ LM M L fs2 ∧ fs2 = fs ++ ext ∧ ∀ u ∈ (climbs M L t).take j, u ∈ fs2)
          (xi_new (xf_call (c_law_climbs T) hr (Aa := fun rs => rs = [.d (encA M), .d (encT t), .d (encL L)]) (xa_cons (xe_var 0 rfl (pv 0)) (xa_cons (xe_ixL (xe_varO 2 rfl (pv 2)) (xe_var 7 rfl (pv 7)) (map_at ht)) (xa_cons (xe_var 1 rfl (pv 1)) xa_nil))) (fun rs e => ⟨⟨M, t, L, hM, hL, (hmt.lt4 hM hL.lt).1⟩, e.symm, fun r h => ⟨_, h, rfl⟩⟩))) (pg_name (i := 8) sc_law_met.nd rfl (by first | exact .inl rfl | exact .inr rfl)) (sg_name 8)
          ⟨fs, [], s8, rfl, hw, by simp, by simp⟩ (fun j d ρ1 hd hI => ⟨trivial, ?_⟩) (fun ρ1 hI => ?_))
        · obtain ⟨u, hu, rfl⟩ := encT_get hd
          obtain ⟨fs2, ext, s8, rfl, hw2, e2, hdone⟩ := hI
          have hup : Up M L t u := (climbs_iff hM).mp (List.mem_of_getElem? hu)
          have l2 := hw2.len hM hL
          rw [Ma.take_next hu]
          refine xss_one (xs_if (p := !decide (kt u ∈ fs2.map kt)) (xt_notinT (xe_var 8 rfl (pv 8)) (xe_varT 5 rfl (pv 5)) (hu_of hr)) (fun hb => ?_) (fun hb => ?_))
          · have hno : u ∉ fs2 := fun h => by rw [decide_eq_true (kt_mem.mpr h)] at hb; cases hb
            have hput : putS fs2 u = fs2 ++ [u] := if_neg hno
            refine xss_cons (xs_putL 5 rfl (pv 5) (xe_var 8 rfl (pv 8)) (fun r h => ⟨kt u, h⟩) (by rw [List.length_map]; omega) (hu_of hr)) (fun ρ1 ⟨k', e1, e3⟩ => ?_)
            cases kT3_inj e1
            rw [kt_put, hput] at e3
            subst e3
            refine xss_cons (xs_appN 2 rfl (pv 2) (xe_var 8 rfl (pv 8)) (fun r h => ⟨_, h⟩) (by rw [List.length_map]; omega) (fun te h => pe_bm PySem.F.plainAttrs_list PySem.F.slot_list_append PySem.F.type_list_append mt_append (pv 2) (pa_cons h pa_nil))) (fun ρ1 ⟨x, e1, e3⟩ => ?_)
            cases e1
            subst e3
            refine xss_nil ⟨fs2 ++ [u], ext ++ [u], .d (encT u), ?_, ⟨by rw [← hput]; exact putS_nodup hw2.nd, fun v hv => ?_, fun p hp => List.mem_append_left _ (hw2.bas p hp)⟩, by rw [e2, List.append_assoc], fun v hv => ?_⟩
            · rw [List.map_append, List.map_append]; rfl
            · rcases List.mem_append.mp hv with hv | hv
              · exact hw2.met v hv
              · simp at hv; rw [hv]; exact hmt.climb hup
            · rcases List.mem_append.mp hv with hv | hv
              · exact List.mem_append_left _ (hdone v hv)
              · exact List.mem_append_right _ hv
          · have hin : u ∈ fs2 := by
              by_cases h : u ∈ fs2
              · exact h
              · rw [decide_eq_false (fun z => h (kt_mem.mp z))] at hb; cases hb
            refine xss_nil ⟨fs2, ext, .d (encT u), rfl, hw2, e2, fun v hv => ?_⟩
            rcases List.mem_append.mp hv with hv | hv
            · exact hdone v hv
            · simp at hv; rw [hv]; exact hin
        · rw [List.length_map, List.take_length] at hI
          obtain ⟨fs2, ext, s8, rfl, hw2, e2, hdone⟩ := hI
          refine ⟨fs2, s6, _, s8, rfl, hw2, fun j v hj hv u hu => ?_⟩
          have hjl : j < fs.length := by omega
          rw [e2, List.getElem?_append_left hjl] at hv
          rcases Nat.lt_succ_iff_lt_or_eq.mp hj with hj | rfl
          · rw [e2]; exact List.mem_append_left _ (hcov j v hj hv u hu)
          · rw [ht] at hv
            cases hv
            exact hdone u ((climbs_iff hM).mpr hu)
      · have hkl : ¬ k < fs.length := by simpa using hc
        refine xss_nil ⟨fs, s6, _, s8, rfl, hw, fun j v hj hv u hu => ?_⟩
        have := (List.getElem?_eq_some_iff.mp hv).1
        exact hcov j v (by omega) hv u hu
    · obtain ⟨fs, s6, s7, s8, rfl, hw, hcov⟩ := e1
      have hl := hw.len hM hL
      refine xss_one (xs_ret (xe_tupleN (Θ := fun r => ∃ Ts : List P3, r = .d (.tuple (Ts.map encT)) ∧ Ts.Nodup ∧ ∀ t, t ∈ Ts ↔ Met M (InL L) t) (XF.toE (xf_sortedL (ks := []) (A := fun ks => ks = fs.map kt) (B := fun z => ∃ Ts : List P3, z = Ts.map encT ∧ Ts.Perm fs) (XE.weak (xe_varO 2 rfl (pv 2)) fun r h => ⟨fs.map kt, by rw [h, List.map_map]; rfl, rfl⟩) ?_ ?_ T.b_sorted)) ?_ T.b_tuple) ?_)
      · rintro ks rfl k hk2
        obtain ⟨p, _, rfl⟩ := List.mem_map.mp hk2
        exact fun h => nomatch h
      · rintro ks ms rfl pm
        obtain ⟨ns, rfl, pn⟩ := perm_map_inv pm.symm rfl
        exact ⟨ns, by rw [List.map_map]; rfl, pn⟩
      · rintro ds ⟨Ts, rfl, pn⟩
        refine ⟨Ts, rfl, pn.nodup_iff.mpr hw.nd, fun t => ?_⟩
        rw [pn.mem_iff]
        refine ⟨hw.met t, fun m => met_all hw.bas (fun v hv u hu => ?_) m⟩
        obtain ⟨j, hj⟩ := List.mem_iff_getElem?.mp hv
        exact hcov j v (by have := (List.getElem?_eq_some_iff.mp hj).1; omega) hj u hu
      · rintro r ⟨L', rfl, h⟩
        exact ⟨⟨_, rfl⟩, L', rfl, h⟩
theorem c_law_is_closed (T : Tx K mg) : Cl P w K mg base 5 "_law_is_closed" F_closed_with.sp := by
  refine cl_mk F_closed_with T.f_law_is_closed sc_law_is_closed (fun _ => rfl) (fun _ => rfl) (by decide) ?_
  intro f cdv A outer s H E hr ⟨⟨M, L⟩, hM, hL⟩
  dsimp only at hM hL
  have hq : ∀ z : List PyData, (∃ ds, (∃ Ts : List P3, ds = Ts.map encT ∧ Ts.Nodup ∧ ∀ t, t ∈ Ts ↔ Met M (InL L) t) ∧ z = ds.map (badD M)) → ∃ bs : List Bool, z = bs.map PyData.bool ∧ (!bs.any id) = closedB M (InL L) := by
    rintro z ⟨ds, ⟨Ts, rfl, nd, hT⟩, rfl⟩
    exact ⟨Ts.map (Bad M), by rw [List.map_map, List.map_map]; rfl, bad_any hT⟩
  refine xss_one (xs_ret (Φ := fun r => r = .d (.bool (!!closedB M (InL L)))) (xe_not (xe_anyN (t := !closedB M (InL L)) (A := fun bs => (!bs.any id) = closedB M (InL L)) (XE.weak (XF.toE (xf_lcN (own := [("_law_triple", 2)]) (lcDN (F := badD M) (Φ := fun z => ∃ Ts : List P3, z = Ts.map encT ∧ Ts.Nodup ∧ ∀ t, t ∈ Ts ↔ Met M (InL L) t) (XI.toC (xi_tup (xe_call (c_law_met T) hr (Aa := fun rs => rs = [.d (encA M), .d (encL L)]) (xa_cons (xe_var 0 rfl (pv 0)) (xa_cons (xe_var 1 rfl (pv 1)) xa_nil)) (fun rs e => ⟨⟨(M, L), hM, hL⟩, e.symm, fun r ⟨Ts, h1, h2⟩ => ⟨⟨_, h1⟩, _, h1, Ts, rfl, h2⟩⟩)))) (sg_name 2) (fun _ _ _ _ _ => (pg_name (i := 2) sc_law_is_closed.nd rfl (by first | exact .inl rfl | exact .inr rfl))) ?_ ?_) sc_law_is_closed.nd (blkOk_by (N := n_law_is_closed) (sc := defScope s_law_is_closed) (by decide +kernel)))) ?_) ?_ T.b_any)) ?_)
  · rintro ds ⟨Ts, rfl, nd, hT⟩ d hd
    obtain ⟨t, ht, rfl⟩ := List.mem_map.mp hd
    exact ⟨trivial, fun _ _ _ _ _ => xe_callD (c_law_is_bad T) hr ⟨M, hM, t, (((hT t).mp ht).lt4 hM hL.lt).1⟩ (xa_cons (xe_var 0 rfl (pv 0)) (xa_cons (xe_var 2 rfl (pv 2)) xa_nil)) fun r h => h⟩
  · rintro ds ⟨Ts, rfl, nd, hT⟩
    rw [List.length_map]
    have := nodup_T nd fun t ht => (((hT t).mp ht).lt4 hM hL.lt).2
    omega
  · rintro r ⟨z, rfl, hz⟩
    obtain ⟨bs, rfl, hb⟩ := hq z hz
    exact ⟨bs, rfl, hb⟩
  · intro bs hb
    rw [← hb, Bool.not_not]
  · rintro r rfl
    exact ⟨⟨_, rfl⟩, by rw [Bool.not_not]; rfl⟩
end
end PW

-- V9
/-! V9: _law_made, _law_reached, _law_layers. -/
namespace PW
open PySem PySem.Spec PyProof.Rows L2 PL Ma
section
variable {P : Program} {w : World} {K : PySem.W.Frag} {mg : Str → Option Value} {base : Heap}
theorem kp_mem {l : List P2} {p : P2} : kp p ∈ l.map kp ↔ p ∈ l := by
  rw [List.mem_map]
  exact ⟨fun ⟨q, hq, e⟩ => kp_inj e ▸ hq, fun h => ⟨p, h, rfl⟩⟩
def tD (D : List P2) : PyData → Bool
  | .int x => !decide (kp (D.getD x.toNat (0, 0)) ∈ (D.take x.toNat).map kp)
  | _ => false
def fD (D : List P2) : PyData → PyData
  | .int x => encP (D.getD x.toNat (0, 0))
  | _ => .none
theorem dd_eq (D : List P2) : ((rngD 0 D.length).filter (tD D)).map (fD D) = (ddI D).map encP := by
  unfold rngD ddI
  rw [List.filter_map, List.map_map, List.map_map]
  have h1 : (tD D ∘ fun (i : Nat) => PyData.int (0 + (i : Int))) = fun k => !decide (D.getD k (0, 0) ∈ D.take k) := by
    funext k
    show (!decide (kp (D.getD ((0 : Int) + (k : Int)).toNat (0, 0)) ∈ (D.take ((0 : Int) + (k : Int)).toNat).map kp)) = _
    rw [show ((0 : Int) + (k : Int)).toNat = k by omega]
    congr 1
    rw [decide_eq_decide]
    exact kp_mem
  rw [h1]
  refine List.map_congr_left fun k _ => ?_
  show encP (D.getD ((0 : Int) + (k : Int)).toNat (0, 0)) = _
  rw [show ((0 : Int) + (k : Int)).toNat = k by omega]
  rfl
theorem c_law_made (T : Tx K mg) : Cl P w K mg base 2 "_law_made" F_made_by.sp := by
  refine cl_mk F_made_by T.f_law_made sc_law_made (fun _ => rfl) (fun _ => rfl) (by decide) ?_
  intro f cdv A outer s H E hr ⟨⟨M, L⟩, hM, hL⟩
  dsimp only at hM hL
  have hlen := hL.len hM
  have har4 := (ar_small _ hM.ar).2.2
  have hu65 : (BX P w K mg base n_law_made "_law_made" (defScope s_law_made) f cdv A outer s H E).A.units + 65 < cLine := by
    have := hr.un
    show (A.deeper _).units + 65 < cLine
    omega
  have hbound : ∀ i, i ≤ M.ar.length → (upTo M (madeSym M L) i).length ≤ 1024 := fun i hi => by
    have h1 := upTo_len hM (f := madeSym M L) 256 (fun s a _ => madeSym_len hlen a) i hi
    omega
  refine xss_setF 2 (xf_lstA xd_nil) (fun ad ds e1 => ?_) sc_law_made.nd
  subst e1
  refine xss_cons (M := fun ρ => ∃ ad s3 s4 s5 s6 s7 s8, ρ = [.d (encA M), .d (encL L), .ol ad ((upTo M (madeSym M L) M.ar.length).map encP), s3, s4, s5, s6, s7, s8, .no]) (xs_forD (I := fun i ρ => ∃ ad s3 s4 s5 s6 s7 s8, ρ = [.d (encA M), .d (encL L), .ol ad ((upTo M (madeSym M L) i).map encP), s3, s4, s5, s6, s7, s8, .no]) (xi_range1 (n := M.ar.length) (XE.weak (xe_lenT (xe_ixT (xe_var 0 rfl (pv 0)) xe_int enc_ar) T.b_len) fun r h => by rw [h, List.length_map]) (by omega) T.b_range) (pg_name (i := 3) sc_law_made.nd rfl (by first | exact .inl rfl | exact .inr rfl)) (sg_name 3) ⟨ad, .no, .no, .no, .no, .no, .no, rfl⟩ (fun i d ρ1 hd hI => ⟨trivial, ?_⟩) (fun ρ1 hI => by rw [rngD_len] at hI; exact hI)) (fun ρ1 e1 => ?_)
  · obtain ⟨hi, rfl⟩ := rngD_get hd
    rw [show ((0 : Int) + (i : Int)) = (i : Int) by omega]
    obtain ⟨ad, s3, s4, s5, s6, s7, s8, rfl⟩ := hI
    have ha := List.getElem?_eq_getElem hi
    generalize M.ar[i] = a at ha
    have a2 := hM.ar2 ha
    have hat := nts_at ha
    rw [upTo_succ ha]
    have hb := hbound i (Nat.le_of_lt hi)
    have hml : (madeSym M L i a).length ≤ 256 := madeSym_len hlen a
    generalize upTo M (madeSym M L) i = D at hb ⊢
    have hDl : (D.map encP).length ≤ 1024 := by rw [List.length_map]; exact hb
    rcases (by omega : a = 0 ∨ a = 1 ∨ a = 2) with rfl | rfl | rfl
    · refine xss_ifY (M := fun ρ => ∃ s4, ρ = [.d (encA M), .d (encL L), .ol ad ((D ++ madeSym M L i 0).map encP), .d (nt i), s4, s5, s6, s7, s8, .no]) (xt_eqI (xe_ixT (xe_ixT (xe_var 0 rfl (pv 0)) xe_int enc_ar) (xe_var 3 rfl (pv 3)) hat) xe_int) rfl ?_ (fun ρ1 e1 => ?_)
      · refine xss_set 4 (xe_callD (c_law_step T) hr ⟨M, hM, i, [], ha, by simp⟩ (xa_cons (xe_var 0 rfl (pv 0)) (xa_cons (xe_var 3 rfl (pv 3)) (xa_cons (XF.toL (xf_lstA xd_nil)) xa_nil))) fun r h => h) ?_ sc_law_made.nd
        refine xss_cons (xs_appN 2 rfl (pv 2) (xe_tupA (xd_cons (xe_var 4 rfl (pv 4)) (xd_cons (xe_var 4 rfl (pv 4)) xd_nil))) (fun r h => ⟨_, h⟩) (by omega) (fun te h => pe_bm PySem.F.plainAttrs_list PySem.F.slot_list_append PySem.F.type_list_append mt_append (pv 2) (pa_cons h pa_nil))) (fun ρ1 ⟨x, e1, e2⟩ => ?_)
        cases e1
        subst e2
        exact xss_nil ⟨_, by rw [List.map_append]; rfl⟩
      · obtain ⟨s4, rfl⟩ := e1
        refine xss_ifF (xt_eqI (xe_ixT (xe_ixT (xe_var 0 rfl (pv 0)) xe_int enc_ar) (xe_var 3 rfl (pv 3)) hat) xe_int) rfl ?_
        refine xss_ifF (xt_eqI (xe_ixT (xe_ixT (xe_var 0 rfl (pv 0)) xe_int enc_ar) (xe_var 3 rfl (pv 3)) hat) xe_int) rfl ?_
        exact xss_nil ⟨_, _, _, _, _, _, _, rfl⟩
    · refine xss_ifF (xt_eqI (xe_ixT (xe_ixT (xe_var 0 rfl (pv 0)) xe_int enc_ar) (xe_var 3 rfl (pv 3)) hat) xe_int) rfl ?_
      refine xss_ifY (M := fun ρ => ∃ ad, ρ = [.d (encA M), .d (encL L), .ol ad ((D ++ madeSym M L i 1).map encP), .d (nt i), s4, s5, s6, s7, s8, .no]) (xt_eqI (xe_ixT (xe_ixT (xe_var 0 rfl (pv 0)) xe_int enc_ar) (xe_var 3 rfl (pv 3)) hat) xe_int) rfl ?_ (fun ρ1 e1 => ?_)
      · refine xss_setF 2 (xf_catD (xe_varO 2 rfl (pv 2)) (XF.toL (xf_lcN (own := [("_law_one", 5), ("_law_other", 6)]) (lcZ L encP (fun p => encP (M.step i [p.1], M.step i [p.2])) rfl (XI.toC (xi_tupD (xe_var 1 rfl (pv 1)))) (sg_pair 5 6) (fun _ _ _ _ _ => (pg_tup rfl (pgs_cons (pg_name (i := 5) sc_law_made.nd rfl (by first | exact .inl rfl | exact .inr rfl)) (pgs_cons (pg_name (i := 6) sc_law_made.nd rfl (by first | exact .inl rfl | exact .inr rfl)) pgs_nil)))) (fun p hp => ⟨⟨_, _, rfl⟩, fun _ _ _ _ _ => (xe_tupA (xd_cons (xe_callD (c_law_step T) hr ⟨M, hM, i, [p.1], ha, by simpa using (hL.lt p hp).1⟩ (xa_cons (xe_var 0 rfl (pv 0)) (xa_cons (xe_var 3 rfl (pv 3)) (xa_cons (XF.toL (xf_lstA (xd_cons (xe_var 5 rfl (pv 5)) xd_nil))) xa_nil))) fun r h => h) (xd_cons (xe_callD (c_law_step T) hr ⟨M, hM, i, [p.2], ha, by simpa using (hL.lt p hp).2⟩ (xa_cons (xe_var 0 rfl (pv 0)) (xa_cons (xe_var 3 rfl (pv 3)) (xa_cons (XF.toL (xf_lstA (xd_cons (xe_var 6 rfl (pv 6)) xd_nil))) xa_nil))) fun r h => h) xd_nil)))⟩) (by omega)) sc_law_made.nd (blkOk_by (N := n_law_made) (sc := defScope s_law_made) (by decide +kernel)))) (by rw [List.length_map, List.length_map]; omega)) (fun ad ds e1 => ?_) sc_law_made.nd
        subst e1
        refine xss_nil ⟨ad, ?_⟩
        rw [show (D ++ madeSym M L i 1).map encP = D.map encP ++ L.map (fun p => encP (M.step i [p.1], M.step i [p.2])) by rw [List.map_append, madeSym, List.map_map]; rfl]
        rfl
      · obtain ⟨ad, rfl⟩ := e1
        refine xss_ifF (xt_eqI (xe_ixT (xe_ixT (xe_var 0 rfl (pv 0)) xe_int enc_ar) (xe_var 3 rfl (pv 3)) hat) xe_int) rfl ?_
        exact xss_nil ⟨_, _, _, _, _, _, _, rfl⟩
    · refine xss_ifF (xt_eqI (xe_ixT (xe_ixT (xe_var 0 rfl (pv 0)) xe_int enc_ar) (xe_var 3 rfl (pv 3)) hat) xe_int) rfl ?_
      refine xss_ifF (xt_eqI (xe_ixT (xe_ixT (xe_var 0 rfl (pv 0)) xe_int enc_ar) (xe_var 3 rfl (pv 3)) hat) xe_int) rfl ?_
      refine xss_ifY (M := fun ρ => ∃ s5 s6 s7 s8, ρ = [.d (encA M), .d (encL L), .ol ad ((D ++ madeSym M L i 2).map encP), .d (nt i), s4, s5, s6, s7, s8, .no]) (xt_eqI (xe_ixT (xe_ixT (xe_var 0 rfl (pv 0)) xe_int enc_ar) (xe_var 3 rfl (pv 3)) hat) xe_int) rfl ?_ (fun ρ1 e1 => ?_)
      · refine xss_one (xs_forD (I := fun j ρ => ∃ s5 s6 s7 s8, ρ = [.d (encA M), .d (encL L), .ol ad ((D ++ (L.take j).flatMap fun p => L.map fun q => (M.step i [p.1, q.1], M.step i [p.2, q.2])).map encP), .d (nt i), s4, s5, s6, s7, s8, .no]) (xi_tupD (ds := L.map encP) (xe_var 1 rfl (pv 1))) (pg_tup rfl (pgs_cons (pg_name (i := 5) sc_law_made.nd rfl (by first | exact .inl rfl | exact .inr rfl)) (pgs_cons (pg_name (i := 6) sc_law_made.nd rfl (by first | exact .inl rfl | exact .inr rfl)) pgs_nil))) (sg_pair 5 6) ⟨s5, s6, s7, s8, by rw [List.take_zero, List.flatMap_nil, List.append_nil]; rfl⟩ (fun j d ρ1 hd hI => ?_) (fun ρ1 hI => ?_))
        · obtain ⟨p, hp, rfl⟩ := encL_get hd
          have hpl := hL.lt p (List.mem_of_getElem? hp)
          refine ⟨⟨_, _, rfl⟩, ?_⟩
          obtain ⟨s5, s6, s7, s8, rfl⟩ := hI
          have hflat : ((L.take j).flatMap fun p => L.map fun q => (M.step i [p.1, q.1], M.step i [p.2, q.2])).length ≤ 256 := by
            rw [flat_const (n := L.length) fun _ _ => by simp]
            have h16 : (L.take j).length ≤ 16 := by rw [List.length_take]; omega
            exact Nat.le_trans (Nat.mul_le_mul h16 hlen) (by decide)
          rw [Ma.take_next hp, List.flatMap_append, List.flatMap_singleton, ← List.append_assoc]
          generalize hD2 : D ++ ((L.take j).flatMap fun p => L.map fun q => (M.step i [p.1, q.1], M.step i [p.2, q.2])) = D2
          have hl2 : D2.length ≤ 2000 := by rw [← hD2, List.length_append]; omega
          clear hD2 hflat
          refine xss_one (xs_forD (I := fun jj ρ => ∃ s7 s8, ρ = [.d (encA M), .d (encL L), .ol ad ((D2 ++ (L.take jj).map fun q => (M.step i [p.1, q.1], M.step i [p.2, q.2])).map encP), .d (nt i), s4, .d (nt p.1), .d (nt p.2), s7, s8, .no]) (xi_tupD (ds := L.map encP) (xe_var 1 rfl (pv 1))) (pg_tup rfl (pgs_cons (pg_name (i := 7) sc_law_made.nd rfl (by first | exact .inl rfl | exact .inr rfl)) (pgs_cons (pg_name (i := 8) sc_law_made.nd rfl (by first | exact .inl rfl | exact .inr rfl)) pgs_nil))) (sg_pair 7 8) ⟨s7, s8, by rw [List.take_zero, List.map_nil, List.append_nil]; rfl⟩ (fun jj d ρ1 hd hI => ?_) (fun ρ1 hI => ?_))
          · obtain ⟨q, hq, rfl⟩ := encL_get hd
            have hql := hL.lt q (List.mem_of_getElem? hq)
            refine ⟨⟨_, _, rfl⟩, ?_⟩
            obtain ⟨s7, s8, rfl⟩ := hI
            have b1 : ∀ s ∈ [p.1, q.1], s < M.n := by simpa using ⟨hpl.1, hql.1⟩
            have b2 : ∀ s ∈ [p.2, q.2], s < M.n := by simpa using ⟨hpl.2, hql.2⟩
            rw [Ma.take_next hq, show (L.take jj ++ [q]).map (fun q => (M.step i [p.1, q.1], M.step i [p.2, q.2])) = (L.take jj).map (fun q => (M.step i [p.1, q.1], M.step i [p.2, q.2])) ++ [(M.step i [p.1, q.1], M.step i [p.2, q.2])] from List.map_append, ← List.append_assoc]
            have hl3 : (D2 ++ (L.take jj).map fun q => (M.step i [p.1, q.1], M.step i [p.2, q.2])).length ≤ 3000 := by
              rw [List.length_append, List.length_map, List.length_take]; omega
            generalize (D2 ++ (L.take jj).map fun q => (M.step i [p.1, q.1], M.step i [p.2, q.2])) = D3 at hl3
            refine xss_cons (xs_appN 2 rfl (pv 2) (xe_tupA (xd_cons (xe_callD (c_law_step T) hr ⟨M, hM, i, [p.1, q.1], ha, b1⟩ (xa_cons (xe_var 0 rfl (pv 0)) (xa_cons (xe_var 3 rfl (pv 3)) (xa_cons (XF.toL (xf_lstA (xd_cons (xe_var 5 rfl (pv 5)) (xd_cons (xe_var 7 rfl (pv 7)) xd_nil)))) xa_nil))) fun r h => h) (xd_cons (xe_callD (c_law_step T) hr ⟨M, hM, i, [p.2, q.2], ha, b2⟩ (xa_cons (xe_var 0 rfl (pv 0)) (xa_cons (xe_var 3 rfl (pv 3)) (xa_cons (XF.toL (xf_lstA (xd_cons (xe_var 6 rfl (pv 6)) (xd_cons (xe_var 8 rfl (pv 8)) xd_nil)))) xa_nil))) fun r h => h) xd_nil))) (fun r h => ⟨_, h⟩) (by rw [List.length_map]; omega) (fun te h => pe_bm PySem.F.plainAttrs_list PySem.F.slot_list_append PySem.F.type_list_append mt_append (pv 2) (pa_cons h pa_nil))) (fun ρ1 ⟨x, e1, e2⟩ => ?_)
            cases e1
            subst e2
            exact xss_nil ⟨.d (nt q.1), .d (nt q.2), by rw [List.map_append]; rfl⟩
          · rw [List.length_map, List.take_length] at hI
            obtain ⟨s7, s8, rfl⟩ := hI
            exact ⟨_, _, _, _, rfl⟩
        · rw [List.length_map, List.take_length] at hI
          exact hI
      · obtain ⟨s5, s6, s7, s8, rfl⟩ := e1
        exact xss_nil ⟨_, _, _, _, _, _, _, rfl⟩
  · obtain ⟨ad, s3, s4, s5, s6, s7, s8, rfl⟩ := e1
    have hb := hbound M.ar.length (Nat.le_refl _)
    generalize hD : upTo M (madeSym M L) M.ar.length = D at hb
    refine xss_one (xs_ret (xe_tupleN (Θ := fun r => ∃ L' : List P2, r = .d (encL L') ∧ L'.Nodup ∧ ∀ p, p ∈ L' ↔ Made M (· ∈ L) p) (XF.toE (xf_sortedL (ks := []) (A := fun ks => ks = (ddI D).map kp) (B := fun z => ∃ Q : List P2, z = Q.map encP ∧ Q.Perm (ddI D)) (XE.weak (XF.toL (xf_lcF (own := [("_law_k", 9)]) (ds := rngD 0 D.length) (F := fD D) (T := tD D) (XI.toC (xi_range1 (n := D.length) (XE.weak (xe_lenL (xe_varO 2 rfl (pv 2)) T.b_len) fun r h => by rw [h, List.length_map]) (by omega) T.b_range)) (sg_name 9) (fun _ _ _ _ _ => (pg_name (i := 9) sc_law_made.nd rfl (by first | exact .inl rfl | exact .inr rfl))) (fun d hd => ?_) (by rw [rngD_len]; omega) sc_law_made.nd (blkOk_by (N := n_law_made) (sc := defScope s_law_made) (by decide +kernel)))) ?_) ?_ ?_ T.b_sorted)) ?_ T.b_tuple) ?_)
    · obtain ⟨k, hk⟩ := List.mem_iff_getElem?.mp hd
      obtain ⟨hkl, rfl⟩ := rngD_get hk
      rw [show ((0 : Int) + (k : Int)) = (k : Int) by omega]
      have hx := List.getElem?_eq_getElem hkl
      have hg := getD_of (d := ((0, 0) : P2)) hx
      have hix : atI (D.map encP) (k : Int) = some (encP (D.getD k (0, 0))) := by rw [hg]; exact map_at hx
      have hsl : cutD (D.map encP) none (some (k : Int)) = ((D.take k).map kp).map encK := by rw [cut_take, List.map_map, ← List.map_take]; rfl
      have htk : ((k : Int)).toNat = k := Int.toNat_natCast k
      refine ⟨trivial, fun _ _ _ _ _ => ?_, fun _ _ _ _ _ _ => ?_⟩
      · show XB _ _ _ (!decide (kp (D.getD ((k : Int)).toNat (0, 0)) ∈ (D.take ((k : Int)).toNat).map kp))
        rw [htk]
        exact (xt_notinL (k := kp (D.getD k (0, 0))) (xe_ixL (xe_varO 2 rfl (pv 2)) (xe_var 9 rfl (pv 9)) hix) (XE.weak (XF.toL (xf_slL (xe_varO 2 rfl (pv 2)) xo_none (xo_some (xe_var 9 rfl (pv 9))))) fun r h => by rw [h, hsl]) hu65)
      · show XD _ _ _ (encP (D.getD ((k : Int)).toNat (0, 0)))
        rw [htk]
        exact (xe_ixL (xe_varO 2 rfl (pv 2)) (xe_var 9 rfl (pv 9)) hix)
    · rintro r rfl
      exact ⟨(ddI D).map kp, by rw [dd_eq, encL_kp], rfl⟩
    · rintro ks rfl k hk2
      obtain ⟨p, _, rfl⟩ := List.mem_map.mp hk2
      exact fun h => nomatch h
    · rintro ks ms rfl pm
      obtain ⟨ns, rfl, pn⟩ := perm_map_inv pm.symm rfl
      exact ⟨ns, by rw [encL_kp], pn⟩
    · rintro ds ⟨Q, rfl, pn⟩
      refine ⟨Q, rfl, pn.nodup_iff.mpr (ddI_nodup D), fun p => ?_⟩
      rw [pn.mem_iff, ddI_mem, ← hD, made_iff hM]
    · rintro r ⟨L', rfl, h⟩
      exact ⟨⟨_, rfl⟩, L', rfl, h⟩
end
end PW

-- Va
/-! Va: _law_reached, _law_layers. -/
namespace PW
open PySem PySem.Spec PyProof.Rows L2 PL Ma
section
variable {P : Program} {w : World} {K : PySem.W.Frag} {mg : Str → Option Value} {base : Heap}
def tR (A : Au) (F G : List Nat) : PyData → Bool
  | .int x => decide (x ∈ zs F) || decide (x ∈ zs G)
  | _ => false
theorem zs_mem {l : List Nat} {k : Nat} : ((k : Int) ∈ zs l) ↔ k ∈ l := by
  unfold zs
  rw [List.mem_map]
  constructor
  · rintro ⟨n, hn, e⟩
    have e : n = k := by omega
    exact e ▸ hn
  · exact fun h => ⟨k, h, rfl⟩
theorem stepR_eq (A : Au) (F : List Nat) : ((rngD 0 A.n).filter (tR A F (freshR A F))).map (fun d => d) = nts (stepR A F) := by
  rw [List.map_id']
  unfold rngD stepR
  rw [List.filter_map]
  have h1 : (tR A F (freshR A F) ∘ fun (i : Nat) => PyData.int (0 + (i : Int))) = fun s => decide (s ∈ F) || decide (s ∈ freshR A F) := by
    funext k
    show (decide (((0 : Int) + (k : Int)) ∈ zs F) || decide (((0 : Int) + (k : Int)) ∈ zs (freshR A F))) = _
    rw [show ((0 : Int) + (k : Int)) = (k : Int) by omega]
    congr 1 <;> rw [decide_eq_decide] <;> exact zs_mem
  rw [h1]
  refine List.map_congr_left fun k _ => ?_
  rw [show ((0 : Int) + (k : Int)) = (k : Int) by omega]
theorem c_law_reached (T : Tx K mg) : Cl P w K mg base 2 "_law_reached" F_reachable.sp := by
  refine cl_mk F_reachable T.f_law_reached sc_law_reached (fun _ => rfl) (fun _ => rfl) (by decide) ?_
  intro f cdv A outer s H E hr ⟨M, hM⟩
  have har4 := (ar_small _ hM.ar).2.2
  have n4 := hM.n4
  have hgl : (M.good.map PyData.bool).length = M.n := List.length_map ..
  refine xss_setF 1 (xf_lstA xd_nil) (fun ad ds e1 => ?_) sc_law_reached.nd
  subst e1
  refine xss_cons (M := fun ρ => ∃ a1 s2 s3 s4 s5, ρ = [.d (encA M), .ol a1 (nts (Rk M (M.n + 1))), s2, s3, s4, s5, .no, .no]) (xs_forD (I := fun t ρ => ∃ a1 s2 s3 s4 s5, ρ = [.d (encA M), .ol a1 (nts (Rk M t)), s2, s3, s4, s5, .no, .no]) (xi_range1 (n := M.n + 1) (XE.weak (xe_add (xe_lenT (xe_ixT (xe_var 0 rfl (pv 0)) xe_int enc_good) T.b_len) xe_int) fun r h => by rw [h, hgl]; rfl) (by omega) T.b_range) (pg_name (i := 2) sc_law_reached.nd rfl (by first | exact .inl rfl | exact .inr rfl)) (sg_name 2) ⟨ad, .no, .no, .no, .no, rfl⟩ (fun t dt ρ1 hd hI => ⟨trivial, ?_⟩) (fun ρ1 hI => by rw [rngD_len] at hI; exact hI)) (fun ρ1 e1 => ?_)
  · obtain ⟨a1, s2, s3, s4, s5, rfl⟩ := hI
    generalize hF : Rk M t = F
    have hFl : F.length ≤ 4 := by rw [← hF]; have := Rk_len M t; omega
    have hFr : ∀ x ∈ F, x < M.n := fun x hx => (Rk_reached hM t x (by rw [hF]; exact hx)).lt hM
    have hFn : (nts F).length ≤ 4 := by rw [List.length_map]; exact hFl
    have hbound : ∀ i, i ≤ M.ar.length → (upTo M (stepSym M F) i).length ≤ 64 := fun i hi => by
      have h1 := upTo_len hM (f := stepSym M F) 16 (fun s a _ => stepSym_len hFl a) i hi
      omega
    refine xss_setF 3 (xf_lstA xd_nil) (fun ad ds e1 => ?_) sc_law_reached.nd
    subst e1
    refine xss_cons (M := fun ρ => ∃ a3 s4 s5, ρ = [.d (encA M), .ol a1 (nts F), .d dt, .ol a3 (nts (freshR M F)), s4, s5, .no, .no]) (xs_forD (I := fun i ρ => ∃ a3 s4 s5, ρ = [.d (encA M), .ol a1 (nts F), .d dt, .ol a3 (nts (upTo M (stepSym M F) i)), s4, s5, .no, .no]) (xi_range1 (n := M.ar.length) (XE.weak (xe_lenT (xe_ixT (xe_var 0 rfl (pv 0)) xe_int enc_ar) T.b_len) fun r h => by rw [h, List.length_map]) (by omega) T.b_range) (pg_name (i := 4) sc_law_reached.nd rfl (by first | exact .inl rfl | exact .inr rfl)) (sg_name 4) ⟨ad, s4, s5, rfl⟩ (fun i d ρ1 hd hI => ⟨trivial, ?_⟩) (fun ρ1 hI => by rw [rngD_len] at hI; exact hI)) (fun ρ1 e1 => ?_)
    · obtain ⟨hi, rfl⟩ := rngD_get hd
      rw [show ((0 : Int) + (i : Int)) = (i : Int) by omega]
      obtain ⟨a3, s4, s5, rfl⟩ := hI
      have ha := List.getElem?_eq_getElem hi
      generalize M.ar[i] = a at ha
      have a2 := hM.ar2 ha
      have hat := nts_at ha
      rw [upTo_succ ha]
      have hb := hbound i (Nat.le_of_lt hi)
      have hml : (stepSym M F i a).length ≤ 16 := stepSym_len hFl a
      generalize upTo M (stepSym M F) i = D at hb ⊢
      have hDl : (nts D).length ≤ 64 := by rw [List.length_map]; exact hb
      rcases (by omega : a = 0 ∨ a = 1 ∨ a = 2) with rfl | rfl | rfl
      · refine xss_ifY (M := fun ρ => ρ = [.d (encA M), .ol a1 (nts F), .d dt, .ol a3 (nts (D ++ stepSym M F i 0)), .d (nt i), s5, .no, .no]) (xt_eqI (xe_ixT (xe_ixT (xe_var 0 rfl (pv 0)) xe_int enc_ar) (xe_var 4 rfl (pv 4)) hat) xe_int) rfl ?_ (fun ρ1 e1 => ?_)
        · refine xss_cons (xs_appN 3 rfl (pv 3) (xe_callD (c_law_step T) hr ⟨M, hM, i, [], ha, by simp⟩ (xa_cons (xe_var 0 rfl (pv 0)) (xa_cons (xe_var 4 rfl (pv 4)) (xa_cons (XF.toL (xf_lstA xd_nil)) xa_nil))) fun r h => h) (fun r h => ⟨_, h⟩) (by omega) (fun te h => pe_bm PySem.F.plainAttrs_list PySem.F.slot_list_append PySem.F.type_list_append mt_append (pv 3) (pa_cons h pa_nil))) (fun ρ1 ⟨x, e1, e2⟩ => ?_)
          cases e1
          subst e2
          exact xss_nil (by rw [show nts (D ++ stepSym M F i 0) = nts D ++ [nt (M.step i [])] from List.map_append]; rfl)
        · subst e1
          refine xss_ifF (xt_eqI (xe_ixT (xe_ixT (xe_var 0 rfl (pv 0)) xe_int enc_ar) (xe_var 4 rfl (pv 4)) hat) xe_int) rfl ?_
          refine xss_ifF (xt_eqI (xe_ixT (xe_ixT (xe_var 0 rfl (pv 0)) xe_int enc_ar) (xe_var 4 rfl (pv 4)) hat) xe_int) rfl ?_
          exact xss_nil ⟨_, _, _, rfl⟩
      · refine xss_ifF (xt_eqI (xe_ixT (xe_ixT (xe_var 0 rfl (pv 0)) xe_int enc_ar) (xe_var 4 rfl (pv 4)) hat) xe_int) rfl ?_
        refine xss_ifY (M := fun ρ => ∃ a3, ρ = [.d (encA M), .ol a1 (nts F), .d dt, .ol a3 (nts (D ++ stepSym M F i 1)), .d (nt i), s5, .no, .no]) (xt_eqI (xe_ixT (xe_ixT (xe_var 0 rfl (pv 0)) xe_int enc_ar) (xe_var 4 rfl (pv 4)) hat) xe_int) rfl ?_ (fun ρ1 e1 => ?_)
        · refine xss_setF 3 (xf_catD (xe_varO 3 rfl (pv 3)) (XF.toL (xf_lcN (own := [("_law_one", 5)]) (lcZ F nt (fun x => nt (M.step i [x])) rfl (xc_listD (xe_varO 1 rfl (pv 1))) (sg_name 5) (fun _ _ _ _ _ => (pg_name (i := 5) sc_law_reached.nd rfl (by first | exact .inl rfl | exact .inr rfl))) (fun x hx => ⟨trivial, fun _ _ _ _ _ => (xe_callD (c_law_step T) hr ⟨M, hM, i, [x], ha, by simpa using hFr x hx⟩ (xa_cons (xe_var 0 rfl (pv 0)) (xa_cons (xe_var 4 rfl (pv 4)) (xa_cons (XF.toL (xf_lstA (xd_cons (xe_var 5 rfl (pv 5)) xd_nil))) xa_nil))) fun r h => h)⟩) (by omega)) sc_law_reached.nd (blkOk_by (N := n_law_reached) (sc := defScope s_law_reached) (by decide +kernel)))) (by rw [List.length_map, List.length_map]; omega)) (fun ad ds e1 => ?_) sc_law_reached.nd
          subst e1
          refine xss_nil ⟨ad, ?_⟩
          rw [show nts (D ++ stepSym M F i 1) = nts D ++ F.map (fun x => nt (M.step i [x])) by rw [nts, List.map_append, stepSym, List.map_map]; rfl]
          rfl
        · obtain ⟨a3, rfl⟩ := e1
          refine xss_ifF (xt_eqI (xe_ixT (xe_ixT (xe_var 0 rfl (pv 0)) xe_int enc_ar) (xe_var 4 rfl (pv 4)) hat) xe_int) rfl ?_
          exact xss_nil ⟨_, _, _, rfl⟩
      · refine xss_ifF (xt_eqI (xe_ixT (xe_ixT (xe_var 0 rfl (pv 0)) xe_int enc_ar) (xe_var 4 rfl (pv 4)) hat) xe_int) rfl ?_
        refine xss_ifF (xt_eqI (xe_ixT (xe_ixT (xe_var 0 rfl (pv 0)) xe_int enc_ar) (xe_var 4 rfl (pv 4)) hat) xe_int) rfl ?_
        refine xss_ifY (M := fun ρ => ∃ a3 s5, ρ = [.d (encA M), .ol a1 (nts F), .d dt, .ol a3 (nts (D ++ stepSym M F i 2)), .d (nt i), s5, .no, .no]) (xt_eqI (xe_ixT (xe_ixT (xe_var 0 rfl (pv 0)) xe_int enc_ar) (xe_var 4 rfl (pv 4)) hat) xe_int) rfl ?_ (fun ρ1 e1 => ?_)
        · refine xss_one (xs_forO 1 (ds := nts F) (I := fun j ρ => ∃ a3 s5, ρ = [.d (encA M), .ol a1 (nts F), .d dt, .ol a3 (nts (D ++ (F.take j).flatMap fun x => F.map fun y => M.step i [x, y])), .d (nt i), s5, .no, .no]) rfl (pv 1) (pg_name (i := 5) sc_law_reached.nd rfl (by first | exact .inl rfl | exact .inr rfl)) (sg_name 5) ⟨a3, s5, by rw [List.take_zero, List.flatMap_nil, List.append_nil]; rfl⟩ (fun j ρ1 ⟨a3, s5, e⟩ => by rw [e]; rfl) (fun j d ρ1 hd hI => ⟨trivial, ?_⟩) (fun ρ1 hI => ?_))
          · obtain ⟨x, hx, rfl⟩ := nts_get hd
            obtain ⟨a3, s5, rfl⟩ := hI
            have hxr := hFr x (List.mem_of_getElem? hx)
            have hflat : ((F.take j).flatMap fun x => F.map fun y => M.step i [x, y]).length ≤ 16 := by
              rw [flat_const (n := F.length) fun _ _ => by simp]
              have h4 : (F.take j).length ≤ 4 := by rw [List.length_take]; omega
              exact Nat.le_trans (Nat.mul_le_mul h4 hFl) (by decide)
            rw [Ma.take_next hx, List.flatMap_append, List.flatMap_singleton, ← List.append_assoc]
            generalize hD2 : D ++ ((F.take j).flatMap fun x => F.map fun y => M.step i [x, y]) = D2
            have hl2 : D2.length ≤ 200 := by rw [← hD2, List.length_append]; omega
            clear hD2 hflat
            refine xss_setF 3 (xf_catD (xe_varO 3 rfl (pv 3)) (XF.toL (xf_lcN (own := [("_law_other", 6)]) (lcZ F nt (fun y => nt (M.step i [x, y])) rfl (xc_listD (xe_varO 1 rfl (pv 1))) (sg_name 6) (fun _ _ _ _ _ => (pg_name (i := 6) sc_law_reached.nd rfl (by first | exact .inl rfl | exact .inr rfl))) (fun y hy => ⟨trivial, fun _ _ _ _ _ => (xe_callD (c_law_step T) hr ⟨M, hM, i, [x, y], ha, by simpa using ⟨hxr, hFr y hy⟩⟩ (xa_cons (xe_var 0 rfl (pv 0)) (xa_cons (xe_var 4 rfl (pv 4)) (xa_cons (XF.toL (xf_lstA (xd_cons (xe_var 5 rfl (pv 5)) (xd_cons (xe_var 6 rfl (pv 6)) xd_nil)))) xa_nil))) fun r h => h)⟩) (by omega)) sc_law_reached.nd (blkOk_by (N := n_law_reached) (sc := defScope s_law_reached) (by decide +kernel)))) (by rw [List.length_map, List.length_map]; omega)) (fun ad ds e1 => ?_) sc_law_reached.nd
            subst e1
            refine xss_nil ⟨ad, .d (nt x), ?_⟩
            rw [show nts (D2 ++ F.map fun y => M.step i [x, y]) = nts D2 ++ F.map (fun y => nt (M.step i [x, y])) by rw [nts, List.map_append, List.map_map]; rfl]
            rfl
          · rw [List.length_map, List.take_length] at hI
            exact hI
        · obtain ⟨a3, s5, rfl⟩ := e1
          exact xss_nil ⟨_, _, _, rfl⟩
    · obtain ⟨a3, s4, s5, rfl⟩ := e1
      refine xss_setF 1 (xf_lcF (own := [("_law_state_here", 7)]) (ds := rngD 0 M.n) (F := fun d => d) (T := tR M F (freshR M F)) (XI.toC (xi_range1 (n := M.n) (XE.weak (xe_lenT (xe_ixT (xe_var 0 rfl (pv 0)) xe_int enc_good) T.b_len) fun r h => by rw [h, hgl]) (by omega) T.b_range)) (sg_name 7) (fun _ _ _ _ _ => (pg_name (i := 7) sc_law_reached.nd rfl (by first | exact .inl rfl | exact .inr rfl))) (fun d hd => ?_) (by rw [rngD_len]; omega) sc_law_reached.nd (blkOk_by (N := n_law_reached) (sc := defScope s_law_reached) (by decide +kernel))) (fun ad ds e1 => ?_) sc_law_reached.nd
      · obtain ⟨k, hk⟩ := List.mem_iff_getElem?.mp hd
        obtain ⟨hkl, rfl⟩ := rngD_get hk
        refine ⟨trivial, fun _ _ _ _ _ => ?_, fun _ _ _ _ _ _ => xe_var 7 rfl (pv 7)⟩
        exact (xw_pt (xw_or (xt_inI (ns := zs F) (xe_var 7 rfl (pv 7)) (XE.weak (xe_varO 1 rfl (pv 1)) fun r h => by rw [h, zs_int])) fun _ => (xw_or1 (xt_inI (ns := zs (freshR M F)) (xe_var 7 rfl (pv 7)) (XE.weak (xe_varO 3 rfl (pv 3)) fun r h => by rw [h, zs_int])))))
      · rw [stepR_eq] at e1
        subst e1
        exact xss_nil ⟨ad, _, _, _, _, by rw [show Rk M (t + 1) = stepR M F by rw [← hF]; rfl]; rfl⟩
  · obtain ⟨a1, s2, s3, s4, s5, rfl⟩ := e1
    exact xss_one (xs_retD (xe_tuple (xe_varO 1 rfl (pv 1)) T.b_tuple) ⟨_, rfl, Rk_all hM⟩)
theorem c_law_layers (T : Tx K mg) : Cl P w K mg base 3 "_law_layers" F_layers_of.sp := by
  refine cl_mk F_layers_of T.f_law_layers sc_law_layers (fun _ => rfl) (fun _ => rfl) (by decide) ?_
  intro f cdv A outer s H E hr ⟨⟨M, many⟩, hM, m1, m2⟩
  dsimp only at hM m1 m2
  refine xss_setN 2 (Φ := fun r => ∃ rs : List Nat, r = .d (.tuple (nts rs)) ∧ rs.Nodup ∧ ∀ s, s ∈ rs ↔ Reached M s) (xe_call (c_law_reached T) hr (Aa := fun rs => rs = [.d (encA M)]) (xa_cons (xe_var 0 rfl (pv 0)) xa_nil) (fun rs e => ⟨⟨M, hM⟩, e.symm, fun r ⟨rs, h1, h2⟩ => ⟨⟨_, h1⟩, rs, h1, h2⟩⟩)) (fun r ⟨rs, h, _⟩ => ⟨_, h⟩) (fun x ⟨rs, hx, nd, hall⟩ => ?_) sc_law_layers.nd
  cases hx
  have l4 := reach_len hM nd hall
  refine xss_setF 3 (xf_lstA xd_nil) (fun ad ds e1 => ?_) sc_law_layers.nd
  subst e1
  refine xss_cons (M := fun ρ => ∃ a3 s4, ρ = [.d (encA M), .d (nt many), .d (.tuple (nts rs)), .ol a3 ((pairsOf2 rs).map encP), s4, .no, .no, .no]) (xs_forD (I := fun i ρ => ∃ a3 s4, ρ = [.d (encA M), .d (nt many), .d (.tuple (nts rs)), .ol a3 (((rs.take i).flatMap fun x => rs.map fun y => (x, y)).map encP), s4, .no, .no, .no]) (xi_tupD (xe_var 2 rfl (pv 2))) (pg_name (i := 4) sc_law_layers.nd rfl (by first | exact .inl rfl | exact .inr rfl)) (sg_name 4) ⟨ad, .no, rfl⟩ (fun i d ρ1 hd hI => ⟨trivial, ?_⟩) (fun ρ1 hI => by rw [List.length_map, List.take_length] at hI; exact hI)) (fun ρ1 e1 => ?_)
  · obtain ⟨x, hx, rfl⟩ := nts_get hd
    obtain ⟨a3, s4, rfl⟩ := hI
    have hflat : ((rs.take i).flatMap fun x => rs.map fun y => (x, y)).length ≤ 16 := by
      rw [flat_const (n := rs.length) fun _ _ => by simp]
      have h4 : (rs.take i).length ≤ 4 := by rw [List.length_take]; omega
      exact Nat.le_trans (Nat.mul_le_mul h4 l4) (by decide)
    rw [Ma.take_next hx, List.flatMap_append, List.flatMap_singleton]
    generalize ((rs.take i).flatMap fun x => rs.map fun y => (x, y)) = D at hflat
    refine xss_setF 3 (xf_catD (xe_varO 3 rfl (pv 3)) (XF.toL (xf_lcN (own := [("_law_other", 5)]) (lcZ rs nt (fun y => encP (x, y)) rfl (XI.toC (xi_tupD (xe_var 2 rfl (pv 2)))) (sg_name 5) (fun _ _ _ _ _ => (pg_name (i := 5) sc_law_layers.nd rfl (by first | exact .inl rfl | exact .inr rfl))) (fun y hy => ⟨trivial, fun _ _ _ _ _ => (xe_tupA (xd_cons (xe_var 4 rfl (pv 4)) (xd_cons (xe_var 5 rfl (pv 5)) xd_nil)))⟩) (by omega)) sc_law_layers.nd (blkOk_by (N := n_law_layers) (sc := defScope s_law_layers) (by decide +kernel)))) (by rw [List.length_map, List.length_map]; omega)) (fun ad ds e1 => ?_) sc_law_layers.nd
    subst e1
    refine xss_nil ⟨ad, .d (nt x), ?_⟩
    rw [show (D ++ rs.map fun y => (x, y)).map encP = D.map encP ++ rs.map (fun y => encP (x, y)) by rw [List.map_append, List.map_map]; rfl]
    rfl
  · obtain ⟨a3, s4, rfl⟩ := e1
    refine xss_setF 6 (xf_lstA (ds := [encL (pairsOf2 rs)]) (xd_cons (xe_tuple (xe_varO 3 rfl (pv 3)) T.b_tuple) xd_nil)) (fun ad ds e1 => ?_) sc_law_layers.nd
    subst e1
    refine xss_cons (M := fun ρ => ∃ Ls s7, ρ = [.d (encA M), .d (nt many), .d (.tuple (nts rs)), .ol a3 ((pairsOf2 rs).map encP), s4, .no, .ol ad (Ls.map encL), s7] ∧ Ls.length = many ∧ LaysOk M Ls) (xs_forD (I := fun i ρ => ∃ Ls s7, ρ = [.d (encA M), .d (nt many), .d (.tuple (nts rs)), .ol a3 ((pairsOf2 rs).map encP), s4, .no, .ol ad (Ls.map encL), s7] ∧ Ls.length = i + 1 ∧ LaysOk M Ls) (xi_range1 (n := many - 1) (XE.weak (xe_sub (xe_var 1 rfl (pv 1)) xe_int) fun r h => by rw [h, show ((many : Int) - 1) = ((many - 1 : Nat) : Int) by omega]) (by omega) T.b_range) (pg_name (i := 7) sc_law_layers.nd rfl (by first | exact .inl rfl | exact .inr rfl)) (sg_name 7) ⟨[pairsOf2 rs], .no, rfl, rfl, fun j L h => ?_⟩ (fun i d ρ1 hd hI => ⟨trivial, ?_⟩) (fun ρ1 hI => ?_)) (fun ρ1 e1 => ?_)
    · match j, h with
      | 0, h => cases h; exact layer0 nd hall
    · obtain ⟨Ls, s7, rfl, hlen, hok⟩ := hI
      obtain ⟨hi, rfl⟩ := rngD_get hd
      have hlast : Ls[i]? = some Ls[i] := List.getElem?_eq_getElem (by omega)
      generalize Ls[i] = L at hlast
      have hL := hok _ L hlast
      refine xss_cons (xs_appN 6 rfl (pv 6) (Φ := fun r => ∃ L' : List P2, r = .d (encL L') ∧ L'.Nodup ∧ ∀ p, p ∈ L' ↔ Made M (· ∈ L) p) (xe_call (c_law_made T) hr (Aa := fun rs => rs = [.d (encA M), .d (encL L)]) (xa_cons (xe_var 0 rfl (pv 0)) (xa_cons (xe_ixL (xe_varO 6 rfl (pv 6)) xe_neg ?_) xa_nil)) (fun rs e => ⟨⟨(M, L), hM, lay_of hM hL⟩, e.symm, fun r ⟨rs, h1, h2⟩ => ⟨⟨_, h1⟩, rs, h1, h2⟩⟩)) (fun r ⟨_, h, _⟩ => ⟨_, h⟩) ?_ (fun te h => pe_bm PySem.F.plainAttrs_list PySem.F.slot_list_append PySem.F.type_list_append mt_append (pv 6) (pa_cons h pa_nil))) (fun ρ1 ⟨x, ⟨L', e1, nd', hm'⟩, e2⟩ => ?_)
      · rw [at_last (by rw [List.length_map]; omega), List.length_map, List.getElem?_map, hlen, show i + 1 - 1 = i by omega, hlast]
        rfl
      · rw [List.length_map]; omega
      · cases e1
        subst e2
        refine xss_nil ⟨Ls ++ [L'], _, by rw [List.map_append]; rfl, by rw [List.length_append, hlen]; rfl, fun j M' hj => ?_⟩
        by_cases hjl : j < Ls.length
        · rw [List.getElem?_append_left hjl] at hj
          exact hok j M' hj
        · rw [List.getElem?_append_right (by omega)] at hj
          have e0 : j - Ls.length = 0 := by
            have := (List.getElem?_eq_some_iff.mp hj).1
            simpa using this
          rw [e0] at hj
          cases hj
          have : j = i + 1 := by omega
          rw [this]
          exact hL.next nd' hm'
    · obtain ⟨Ls, s7, rfl, hlen, hok⟩ := hI
      rw [rngD_len] at hlen
      exact ⟨Ls, s7, rfl, by omega, hok⟩
    · obtain ⟨Ls, s7, rfl, hlen, hok⟩ := e1
      exact xss_one (xs_retO 6 rfl (pv 6) ⟨Ls, rfl, hlen, hok⟩)
end
end PW

-- Vb
/-! Vb: _law_stream, law. -/
namespace PL
open PySem PySem.Spec PyProof.Rows L2
/-- items of a list of one's own kind, those that pass -/
theorem xf_lcZF {X : Cx} {ρ : List SD} {tg iter elt tst : Expr} {scope : Scope} {own : List (Str × Nat)} {pos : Pos} {α : Type} (l : List α) (fa : α → PyData) (T : α → Bool) {ds : List PyData} (hds : ds = l.map fa) {g : TG} {ok : PyData → Prop} {f : PyData → List SD → List SD} {is : List Nat} (hi : XIc X ρ tg iter (fun z => z = ds)) (sg : SG g ok f is)
    (hg : ∀ (s : Shared) (H : Hp) (C : Addr) (cl : List (Str × Addr)) (fp : List Addr), PG (X.blk s H scope (compEnvC scope cl C X.env) fp) tg g)
    (he : ∀ x, x ∈ l → ok (fa x) ∧ (∀ (s : Shared) (H : Hp) (C : Addr) (cl : List (Str × Addr)) (fp : List Addr), XB (X.blk s H scope (compEnvC scope cl C X.env) fp) (f (fa x) (wipeR ρ (ownS own))) tst (T x)) ∧
      ∀ (s : Shared) (H : Hp) (C : Addr) (cl : List (Str × Addr)) (fp : List Addr), XD (X.blk s H scope (compEnvC scope cl C X.env) fp) (f (fa x) (wipeR ρ (ownS own))) elt (fa x))
    (hl : l.length ≤ 50000) (hN : X.N.Nodup) (okb : BlkOk X.N X.env.scope scope own) (his : ∀ i ∈ is, i ∈ ownS own := by decide) (hc : X.calm = true := by rfl) (hs : ∀ x, foldedSetIterable iter X.env x = pure x := by intro _; rfl) :
    XF X ρ (.ListComp elt [⟨tg, iter, [tst], 0⟩] scope pos) (fun z => z = (l.filter T).map fa) := by
  refine PE.imp (pe_lc hc hN hi okb hg (fun s H C cl fp => pts_one (PT.uni (X := X.blk s H scope (compEnvC scope cl C X.env) fp) (e := tst) (ι := α) (t := fun x => tT (f (fa x) (wipeR ρ (ownS own))) (fun r => r = T x)) (P := fun x => x ∈ l) fun x hx => (he x hx).2.1 s H C cl fp))
    (fun s H C cl fp => PE.uni (X := X.blk s H scope (compEnvC scope cl C X.env) fp) (e := elt) (ι := α) (t := fun x => tE (f (fa x) (wipeR ρ (ownS own))) (fun r => r = .d (fa x))) (P := fun x => x ∈ l) fun x hx => (he x hx).2.2 s H C cl fp) hs) fun σ H Q h => ?_
  refine lc_tF (P := fun ds' i out => out = ((l.take i).filter T).map fa) sg his _ _ (fun ds' e => by simp) (fun ds' e => by rw [e, hds, List.length_map]; exact hl) (fun ds' i d out e hd _ => ?_) (fun ds' i d out e hd ho => ?_) (fun ds' out e ho => by
    have ho : out = ((l.take ds'.length).filter T).map fa := ho
    have e : ds' = ds := e
    rw [ho, e, hds, List.length_map, List.take_length]) h
  · have e : ds' = ds := e
    rw [e, hds, List.getElem?_map] at hd
    cases hx : l[i]? with
    | none => rw [hx] at hd; cases hd
    | some x =>
      rw [hx] at hd
      cases hd
      exact (he x (List.mem_of_getElem? hx)).1
  · have e : ds' = ds := e
    rw [e, hds, List.getElem?_map] at hd
    cases hx : l[i]? with
    | none => rw [hx] at hd; cases hd
    | some x =>
      rw [hx] at hd
      cases hd
      have hm := List.mem_of_getElem? hx
      have ho : out = ((l.take i).filter T).map fa := ho
      have hnext : ((l.take (i + 1)).filter T).map fa = out ++ ([x].filter T).map fa := by
        rw [List.take_add_one, hx, List.filter_append, List.map_append, ho]; rfl
      refine ⟨T x, fun σ H Q q => ⟨x, hm, q⟩, fun ht => ⟨_, fun σ H Q q => ⟨x, hm, q⟩, fun r hr => ⟨fa x, hr, ?_⟩⟩, fun ht => ?_⟩
      · show out ++ [fa x] = ((l.take (i + 1)).filter T).map fa
        rw [hnext, List.filter_cons, if_pos ht]
        rfl
      · show out = ((l.take (i + 1)).filter T).map fa
        rw [hnext, List.filter_cons, if_neg (by rw [ht]; decide)]
        simp
end PL
namespace PW
open PySem PySem.Spec PyProof.Rows L2 PL Ma
section
variable {P : Program} {w : World} {K : PySem.W.Frag} {mg : Str → Option Value} {base : Heap}
/-- the stream's making -/
def spStream (K : PySem.W.Frag) : Sp := fun vs H Q _ => ∃ (a : Addr) (ns : List Int), vs = [.ref a] ∧ SqL K H a (ns.map V.int) ∧
  ∀ l sl, H sl = none → H l = none → sl ≠ l → Q (.ref l) (upd (upd H sl (.lst (ns.map V.int))) l (.lst [.ref sl, .int 0, .int 0]))
theorem c_law_stream (T : Tx K mg) : Cl P w K mg base 1 "_law_stream" (spStream K) := by
  obtain ⟨f, fd, hF, hm, hb⟩ := T.f_law_stream
  refine ⟨f, fd, _, hF.ok sc_law_stream (fun vs H Q E h => ?_) (fun cdv A outer s H vs Q E hr h => ?_), hm, hF.kp, hb⟩
  · obtain ⟨a, ns, rfl, _⟩ := h
    rfl
  · obtain ⟨a, ns, rfl, hS, q⟩ := h
    refine ⟨_, pss_one (ps_ret (pe_lst (pa_cons (pe_callTy call_list_of rfl T.b_list (by decide +kernel) (pa_cons (pv 0) pa_nil)) (pa_cons pe_int (pa_cons pe_int pa_nil))))), ?_⟩
    refine ⟨_, rfl, a, _, rfl, .inl hS, fun sl hsl => ⟨sz_of (by simp), fun l hl => ?_⟩⟩
    have hne : sl ≠ l := fun e => by rw [e, upd_same] at hl; cases hl
    exact q l sl hsl (by rw [upd_ne (Ne.symm hne)] at hl; exact hl) hne
end
end PW

-- Vc
/-! Vc: law. -/
namespace PW
open PySem PySem.Spec PyProof.Rows L2 PL Ma
section
variable {P : Program} {w : World} {K : PySem.W.Frag} {mg : Str → Option Value} {base : Heap}
noncomputable abbrev cb (A : Au) (k : Nat) : Bool := closedB A (PairAt A (k - 1))
theorem cb_mono {A : Au} {i j : Nat} (h : i ≤ j) (c : cb A i = true) : cb A j = true :=
  closedB_iff.mpr (Closed.up (by omega) (closedB_iff.mp c))
def deps (e : Nat) : List Nat := [1, 2, 3, 4, e]
theorem deps_mono {e : Nat} (h : 5 ≤ e) {i j a b : Nat} (hij : i ≤ j) (ha : (deps e)[i]? = some a) (hb : (deps e)[j]? = some b) : a ≤ b := by
  have hj : j < 5 := (List.getElem?_eq_some_iff.mp hb).1
  rcases (by omega : j = 0 ∨ j = 1 ∨ j = 2 ∨ j = 3 ∨ j = 4) with rfl | rfl | rfl | rfl | rfl <;>
    (rcases (by omega : i = 0 ∨ i = 1 ∨ i = 2 ∨ i = 3 ∨ i = 4) with rfl | rfl | rfl | rfl | rfl <;> simp [deps] at ha hb <;> omega)
theorem deps_range {e : Nat} (h : 5 ≤ e ∧ e ≤ 12) {a : Nat} (ha : a ∈ deps e) : 1 ≤ a ∧ a ≤ 12 := by
  simp [deps] at ha
  omega
structure TreeOk (A : Au) (ts : List Tr) : Prop where
  len : ts.length ≤ 5000
  ok : ∀ t ∈ ts, t.Wf A.ar ∧ t.height ≤ 5
set_option maxHeartbeats 8000000 in
theorem law_body (T : Tx K mg) (f : Addr) (cdv : Value) (A : Around) (outer : List Env) (s : Shared) (H : Hp) (E : XK) (hr : Room 12 (A.deeper (envOfC "law" (defScope s_law) s.heap.objs.size f cdv))) (ns : List Int) :
    XSs (BX P w K mg base n_law "law" (defScope s_law) f cdv A outer s H E) [.no, .st ns, .no, .no, .no, .no, .no, .no, .no, .no, .no, .no, .no] (defBody s_law).tail (fun _ => False) (fun r => r = .d (.bool true)) := by
  refine xss_setN 2 (Φ := fun r => ∃ M : Au, M.Wf ∧ r = .d (encA M)) (xe_call (c_law_some T) hr (Aa := fun rs => rs = [.st ns, .d (nt 3)]) (xa_cons (xe_varS 1 rfl (pv 1)) (xa_cons xe_int xa_nil)) (fun rs e => ⟨ns, e.symm, fun r ⟨M, h1, h2⟩ => ⟨⟨_, h2⟩, M, h1, h2⟩⟩)) (fun r ⟨M, _, h⟩ => ⟨_, h⟩) (fun x ⟨M, hM, hx⟩ => ?_) sc_law.nd
  cases hx
  have hmt := mostT_le M.ar
  have har4 := ar_small _ hM.ar
  have hgl : (M.good.map PyData.bool).length = M.n := List.length_map ..
  refine xss_setF 3 (xf_call (Ψ := fun z => ∃ Ls : List (List P2), z = Ls.map encL ∧ Ls.length = 12 ∧ LaysOk M Ls) (c_law_layers T) hr (Aa := fun rs => rs = [.d (encA M), .d (nt 12)]) (xa_cons (xe_var 2 rfl (pv 2)) (xa_cons xe_int xa_nil)) (fun rs e => ⟨⟨(M, 12), hM, by simp, by simp⟩, e.symm, fun r ⟨Ls, h1, h2⟩ => ⟨_, h1, Ls, rfl, h2⟩⟩)) (fun ad3 ds e1 => ?_) sc_law.nd
  obtain ⟨Ls, rfl, hLl, hLs⟩ := e1
  refine xss_setF 4 (xf_lstA xd_nil) (fun ad4 ds e1 => ?_) sc_law.nd
  subst e1
  refine xss_cons (M := fun ρ => ∃ e s5, 5 ≤ e ∧ ρ = [.no, .st ns, .d (encA M), .ol ad3 (Ls.map encL), .ol ad4 (((deps e).map (cb M)).map PyData.bool), s5, .no, .no, .no, .no, .no, .no, .no])
    (xs_for (Φ := fun z => ∃ e : Nat, (5 ≤ e ∧ e ≤ 12) ∧ z = nts (deps e)) (I := fun ds i ρ => ∀ e, (5 ≤ e ∧ e ≤ 12) → ds = nts (deps e) → ∃ s5, ρ = [.no, .st ns, .d (encA M), .ol ad3 (Ls.map encL), .ol ad4 ((((deps e).take i).map (cb M)).map PyData.bool), s5, .no, .no, .no, .no, .no, .no, .no])
      (xi_new (xf_lstN (A := fun rs => ∃ e : Nat, (5 ≤ e ∧ e ≤ 12) ∧ rs = (nts (deps e)).map SD.d) (xa_consN (B := fun rs => ∃ e : Nat, (5 ≤ e ∧ e ≤ 12) ∧ rs = (nts [1, 2, 3, 4, e]).map SD.d) xe_int (xa_consN (B := fun rs => ∃ e : Nat, (5 ≤ e ∧ e ≤ 12) ∧ rs = (nts [2, 3, 4, e]).map SD.d) xe_int (xa_consN (B := fun rs => ∃ e : Nat, (5 ≤ e ∧ e ≤ 12) ∧ rs = (nts [3, 4, e]).map SD.d) xe_int (xa_consN (B := fun rs => ∃ e : Nat, (5 ≤ e ∧ e ≤ 12) ∧ rs = (nts [4, e]).map SD.d) xe_int (xa_consN (B := fun rs => ∃ e : Nat, (5 ≤ e ∧ e ≤ 12) ∧ rs = (nts [e]).map SD.d) (xe_addN (Θ := fun r => ∃ e : Nat, (5 ≤ e ∧ e ≤ 12) ∧ r = .d (nt e)) xe_int (xe_next T rfl rfl rfl rfl rfl hr (m := 8) (xe_varS 1 rfl (pv 1)) xe_int (by decide)) ?_) xa_nil ?_) ?_) ?_) ?_) ?_) ?_)) (pg_name (i := 5) sc_law.nd rfl (by first | exact .inl rfl | exact .inr rfl)) (sg_name 5)
      (fun ds _ e he hds => ⟨.no, rfl⟩) (fun ds i d ρ1 hp hd hI => ⟨trivial, ?_⟩) (fun ds ρ1 hp hI => ?_)) (fun ρ1 e1 => ?_)
  · rintro x y rfl ⟨d, hd, rfl⟩
    exact ⟨5, d, rfl, rfl, 5 + d, by omega, rfl⟩
  · rintro r rs ⟨e, he, rfl⟩ rfl
    exact ⟨e, he, rfl⟩
  · rintro r rs rfl ⟨e, he, rfl⟩
    exact ⟨e, he, rfl⟩
  · rintro r rs rfl ⟨e, he, rfl⟩
    exact ⟨e, he, rfl⟩
  · rintro r rs rfl ⟨e, he, rfl⟩
    exact ⟨e, he, rfl⟩
  · rintro r rs rfl ⟨e, he, rfl⟩
    exact ⟨e, he, rfl⟩
  · rintro rs ⟨e, he, rfl⟩
    exact ⟨_, rfl, by simp [deps], e, he, rfl⟩
  · obtain ⟨e, he, rfl⟩ := hp
    obtain ⟨s5, rfl⟩ := hI e he rfl
    obtain ⟨k, hk, rfl⟩ := nts_get hd
    have hkr := deps_range he (List.mem_of_getElem? hk)
    have hi5 : i < 5 := (List.getElem?_eq_some_iff.mp hk).1
    have htl : ((((deps e).take i).map (cb M)).map PyData.bool).length ≤ 5 := by rw [List.length_map, List.length_map, List.length_take]; omega
    have hnext : (((deps e).take i).map (cb M)).map PyData.bool ++ [.bool (cb M k)] = (((deps e).take (i + 1)).map (cb M)).map PyData.bool := by
      rw [Ma.take_next hk, List.map_append, List.map_append]; rfl
    refine xss_cons (xs_appN 4 rfl (pv 4) (xe_callD (c_is_closed T) hr ⟨(M, k), hM, hkr⟩ (xa_cons (xe_var 2 rfl (pv 2)) (xa_cons (xe_var 5 rfl (pv 5)) xa_nil)) fun r h => h) (fun r h => ⟨_, h⟩) (by omega) (fun te h => pe_bm PySem.F.plainAttrs_list PySem.F.slot_list_append PySem.F.type_list_append mt_append (pv 4) (pa_cons h pa_nil))) (fun ρ1 ⟨x, e1, e2⟩ => ?_)
    cases e1
    subst e2
    have hlast : atI ((((deps e).take i).map (cb M)).map PyData.bool ++ [.bool (cb M k)]) (-1) = some (.bool (cb M k)) := by
      rw [at_last (by simp)]
      simp
    have hLk : Ls[k - 1]? = some Ls[k - 1] := List.getElem?_eq_getElem (by omega)
    generalize Ls[k - 1] = L at hLk
    have hL := hLs _ L hLk
    have hcb : closedB M (InL L) = cb M k := closedB_congr hL.mem
    refine xss_ifF (xw_pt (xw_or (p := false) (q := false) (XT.weak (xt_not (xt_val (xe_callD (y := .bool (cb M k == cb M k)) (c_law_equal T) hr (cb M k, cb M k) (xa_cons (xe_ixL (xe_varO 4 rfl (pv 4)) xe_neg hlast) (xa_cons (xe_callD (y := .bool (cb M k)) (c_law_is_closed T) hr ⟨(M, L), hM, lay_of hM hL⟩ (xa_cons (xe_var 2 rfl (pv 2)) (xa_cons (xe_ixL (d := encL L) (xe_varO 3 rfl (pv 3)) (xe_sub (xe_var 5 rfl (pv 5)) xe_int) ?_) xa_nil)) ?_) xa_nil)) fun r h => h))) fun r h => by rw [h]; simp) fun _ => (xw_or1 (XT.weak (xw_pt (xw_and (p := decide (true ∈ ((deps e).take (i + 1)).map (cb M))) (q := !decide (cb M k = true)) (xt_inB xe_bl (XE.weak (xe_varO 4 rfl (pv 4)) fun r h => by rw [h, hnext])) fun _ => (xw_and1 (xt_isNot (xe_ixL (xe_varO 4 rfl (pv 4)) xe_neg hlast) xe_bl)))) ?_)))) rfl ?_
    · rw [show (k : Int) - 1 = ((k - 1 : Nat) : Int) by omega]
      exact map_at hLk
    · rintro r h
      rw [h]
      show SD.d (.bool (closedB M (InL L))) = _
      rw [hcb]
    · rintro r rfl
      by_cases hm : true ∈ ((deps e).take (i + 1)).map (cb M)
      · obtain ⟨a, ha, ha2⟩ := List.mem_map.mp hm
        obtain ⟨j, hj⟩ := List.mem_iff_getElem?.mp ha
        have hjl := (List.getElem?_eq_some_iff.mp hj).1
        rw [List.length_take] at hjl
        rw [List.getElem?_take, if_pos (by omega)] at hj
        have hle := deps_mono he.1 (show j ≤ i by omega) hj hk
        rw [decide_eq_true (cb_mono hle ha2)]
        simp
      · rw [decide_eq_false hm]; rfl
    · refine xss_nil fun e' he' hee => ?_
      have : e' = e := by
        have h4 : (nts (deps e))[4]? = (nts (deps e'))[4]? := by rw [hee]
        simp [deps] at h4
        omega
      subst this
      exact ⟨.d (nt k), by rw [← hnext]; rfl⟩
  · obtain ⟨e, he, rfl⟩ := hp
    obtain ⟨s5, rfl⟩ := hI e he rfl
    exact ⟨e, s5, he.1, by rw [List.length_map, List.take_length]⟩
  · obtain ⟨e, s5, he5, rfl⟩ := e1
    have htold : ∀ j : Nat, j < 4 → atI (((deps e).map (cb M)).map PyData.bool) (j : Int) = some (.bool (cb M (j + 1))) := fun j hj => by
      refine ix_at ?_
      rw [List.getElem?_map, List.getElem?_map]
      rcases (by omega : j = 0 ∨ j = 1 ∨ j = 2 ∨ j = 3) with rfl | rfl | rfl | rfl <;> rfl
    generalize ((deps e).map (cb M)).map PyData.bool = told at htold
    refine xss_setF 6 (xf_lstA xd_nil) (fun ad ds e1 => ?_) sc_law.nd
    subst e1
    refine xss_cons (M := fun ρ => ∃ a6 ts s7, ρ = [.no, .st ns, .d (encA M), .ol ad3 (Ls.map encL), .ol ad4 told, s5, .ol a6 (encTs ts), s7, .no, .no, .no, .no, .no] ∧ TreeOk M ts)
      (xs_forF2 7 (Φ := fun qs => qs = encTss (sizesT M.ar (mostT M.ar))) (I := fun qs i ρ => ∃ a6 ts s7, ρ = [.no, .st ns, .d (encA M), .ol ad3 (Ls.map encL), .ol ad4 told, s5, .ol a6 (encTs ts), s7, .no, .no, .no, .no, .no] ∧ ts.length ≤ 400 * i ∧ ∀ t ∈ ts, t.Wf M.ar ∧ t.height ≤ 5)
        (xf2_call (c_law_trees T) hr (Aa := fun rs => rs = [.d (.tuple (nts M.ar)), .d (nt (mostT M.ar))]) (xa_cons (xe_ixT (xe_var 2 rfl (pv 2)) xe_int enc_ar) (xa_cons (XE.weak (xe_sub xe_int (xe_int1 (xe_eqI (xe_lenT (xe_ixT (xe_var 2 rfl (pv 2)) xe_int enc_ar) T.b_len) xe_int) T.b_int)) ?_) xa_nil)) (fun rs e => ⟨⟨M.ar, hM.ar⟩, e.symm, fun r h => ⟨_, h, rfl⟩⟩)) (pg_name (i := 7) sc_law.nd rfl (by first | exact .inl rfl | exact .inr rfl))
        (fun qs _ => ⟨ad, [], .no, rfl, by simp, by simp⟩) (fun qs i q ρ1 hp hq hI => ?_) (fun qs ρ1 hp hI => ?_)) (fun ρ1 e1 => ?_)
    · rintro r h
      rw [h, List.length_map]
      congr 2
      show (5 : Int) - (if decide ((M.ar.length : Int) = 4) = true then (1 : Int) else 0) = ((mostT M.ar : Nat) : Int)
      unfold mostT
      by_cases h4 : M.ar.length = 4
      · rw [if_pos h4, decide_eq_true (by omega)]; rfl
      · rw [if_neg h4, decide_eq_false (by omega)]; rfl
    · subst hp
      obtain ⟨a6, ts, s7, rfl, hl, hok⟩ := hI
      rw [List.getElem?_map] at hq
      cases hrow : (sizesT M.ar (mostT M.ar))[i]? with
      | none => rw [hrow] at hq; cases hq
      | some row =>
        rw [hrow] at hq
        cases hq
        obtain ⟨hrl, hrok⟩ := sizesT_row hM.ar (Nat.le_refl _) (List.mem_of_getElem? hrow)
        have hi6 : i < mostT M.ar + 1 := by
          have := (List.getElem?_eq_some_iff.mp hrow).1
          rwa [sizesT_len] at this
        refine xss_setF 6 (xf_catD (xe_varO 6 rfl (pv 6)) (XF.toL (xf_lcZF (own := [("_law_tree", 8)]) row encTr (fun t => M.isGood (state M t)) rfl (xc_listD (xe_varL 7 rfl (pv 7))) (sg_name 8) (fun _ _ _ _ _ => (pg_name (i := 8) sc_law.nd rfl (by first | exact .inl rfl | exact .inr rfl))) (fun t ht => ⟨trivial, fun _ _ _ _ _ => (xt_val (xe_ixT (xe_ixT (xe_var 2 rfl (pv 2)) xe_int enc_good) (xe_callD (c_law_state T 5) hr ⟨M, hM, t, (hrok t ht).1, (hrok t ht).2⟩ (xa_cons (xe_var 2 rfl (pv 2)) (xa_cons (xe_var 8 rfl (pv 8)) xa_nil)) fun r h => h) (map_at (good_at (state_lt hM (hrok t ht).1))))), fun _ _ _ _ _ => (xe_var 8 rfl (pv 8))⟩) (by omega) sc_law.nd (blkOk_by (N := n_law) (sc := defScope s_law) (by decide +kernel)))) ?_) (fun ad ds e1 => ?_) sc_law.nd
        · rw [List.length_map, List.length_map]
          have := List.length_filter_le (fun t => M.isGood (state M t)) row
          omega
        · subst e1
          refine xss_nil ⟨ad, ts ++ row.filter (fun t => M.isGood (state M t)), .l (encTs row), ?_, ?_, fun t ht => ?_⟩
          · rw [show encTs (ts ++ row.filter (fun t => M.isGood (state M t))) = encTs ts ++ (row.filter (fun t => M.isGood (state M t))).map encTr from List.map_append]; rfl
          · rw [List.length_append]
            have := List.length_filter_le (fun t => M.isGood (state M t)) row
            omega
          · rcases List.mem_append.mp ht with ht | ht
            · exact hok t ht
            · exact hrok t (List.mem_filter.mp ht).1
    · subst hp
      obtain ⟨a6, ts, s7, rfl, hl, hok⟩ := hI
      rw [List.length_map, sizesT_len] at hl
      exact ⟨a6, ts, s7, rfl, ⟨by omega, hok⟩⟩
    · obtain ⟨a6, ts, s7, rfl, hts⟩ := e1
      have htl : (encTs ts).length ≤ 5000 := by rw [List.length_map]; exact hts.len
      refine xss_cons (M := fun _ => True) (xs_forD (I := fun _ ρ => ∃ s5 s9 s10 s11 s12, ρ = [.no, .st ns, .d (encA M), .ol ad3 (Ls.map encL), .ol ad4 told, s5, .ol a6 (encTs ts), s7, .no, s9, s10, s11, s12]) (xi_range1 (n := 40) xe_int (by decide) T.b_range) (pg_name (i := 9) sc_law.nd rfl (by first | exact .inl rfl | exact .inr rfl)) (sg_name 9) ⟨_, _, _, _, _, rfl⟩ (fun i d ρ1 hd hI => ⟨trivial, ?_⟩) (fun ρ1 hI => trivial)) (fun ρ1 _ => xss_one (xs_retD xe_bl rfl))
      obtain ⟨s5, s9, s10, s11, s12, rfl⟩ := hI
      refine xss_one (xs_if (xt_list (xe_varO 6 rfl (pv 6))) (fun hc => ?_) (fun hc => xss_nil ⟨_, _, _, _, _, rfl⟩))
      have hpos : 1 ≤ ts.length := by cases ts with
        | nil => simp at hc
        | cons _ _ => simp
      have hpick : ∀ (x y : SD), x = .l (encTs ts) → (∃ d : Nat, d < (encTs ts).length ∧ y = .d (nt d)) → ∃ ds i d, x = .l ds ∧ y = .d (.int i) ∧ atI ds i = some d ∧ ∃ t ∈ ts, SD.d d = .d (encTr t) := by
        rintro x y rfl ⟨d, hd, rfl⟩
        rw [List.length_map] at hd
        exact ⟨_, _, _, rfl, rfl, map_at (List.getElem?_eq_getElem hd), _, List.getElem_mem hd, rfl⟩
      have hmlen : 1 ≤ (encTs ts).length ∧ (encTs ts).length < 1000000 := by rw [List.length_map]; have := hts.len; omega
      refine xss_setN 10 (Φ := fun r => ∃ t ∈ ts, r = .d (encTr t)) (xe_ixLN (xe_varO 6 rfl (pv 6)) (xe_next T rfl rfl rfl rfl rfl hr (m := (encTs ts).length) (xe_varS 1 rfl (pv 1)) (xe_lenL (xe_varO 6 rfl (pv 6)) T.b_len) hmlen) hpick) (fun r ⟨t, _, h⟩ => ⟨_, h⟩) (fun x ⟨t, ht, hx⟩ => ?_) sc_law.nd
      cases hx
      refine xss_setN 11 (Φ := fun r => ∃ t ∈ ts, r = .d (encTr t)) (xe_ixLN (xe_varO 6 rfl (pv 6)) (xe_next T rfl rfl rfl rfl rfl hr (m := (encTs ts).length) (xe_varS 1 rfl (pv 1)) (xe_lenL (xe_varO 6 rfl (pv 6)) T.b_len) hmlen) hpick) (fun r ⟨t, _, h⟩ => ⟨_, h⟩) (fun x ⟨u, hu, hx⟩ => ?_) sc_law.nd
      cases hx
      obtain ⟨wt, ht5⟩ := hts.ok t ht
      obtain ⟨wu, hu5⟩ := hts.ok u hu
      refine xss_one (xs_forD (ds := encRs (placesT t)) (I := fun _ ρ => ∃ s5 s12, ρ = [.no, .st ns, .d (encA M), .ol ad3 (Ls.map encL), .ol ad4 told, s5, .ol a6 (encTs ts), s7, .no, .d d, .d (encTr t), .d (encTr u), s12]) (xi_new (xf_call (c_law_places T 5) hr (Aa := fun rs => rs = [.d (encTr t)]) (xa_cons (xe_var 10 rfl (pv 10)) xa_nil) (fun rs e => ⟨⟨t, ht5, by omega⟩, e.symm, fun r h => ⟨_, h, rfl⟩⟩))) (pg_name (i := 12) sc_law.nd rfl (by first | exact .inl rfl | exact .inr rfl)) (sg_name 12) ⟨s5, s12, rfl⟩ (fun j dp ρ1 hdp hI => ⟨trivial, ?_⟩) (fun ρ1 ⟨s5, s12, e⟩ => ⟨s5, _, _, _, s12, e⟩))
      obtain ⟨s5, s12, rfl⟩ := hI
      rw [List.getElem?_map] at hdp
      cases hpl : (placesT t)[j]? with
      | none => rw [hpl] at hdp; cases hdp
      | some pl =>
        rw [hpl] at hdp
        cases hdp
        have hpll := place_len t pl (List.mem_of_getElem? hpl)
        refine xss_one (xs_forD (I := fun _ ρ => ∃ s5, ρ = [.no, .st ns, .d (encA M), .ol ad3 (Ls.map encL), .ol ad4 told, s5, .ol a6 (encTs ts), s7, .no, .d d, .d (encTr t), .d (encTr u), .d (encR pl)]) (xi_range2 (i := 1) (j := 5) xe_int xe_int (by decide) T.b_range) (pg_name (i := 5) sc_law.nd rfl (by first | exact .inl rfl | exact .inr rfl)) (sg_name 5) ⟨s5, rfl⟩ (fun k dk ρ1 hdk hI => ⟨trivial, ?_⟩) (fun ρ1 ⟨s5, e⟩ => ⟨s5, _, e⟩))
        obtain ⟨s5, rfl⟩ := hI
        obtain ⟨hk, rfl⟩ := rngD_get hdk
        have hk4 : k < 4 := hk
        rw [show (1 : Int) + (k : Int) = ((k + 1 : Nat) : Int) by omega]
        refine xss_ifF (xw_pt (xw_and (q := false) (xt_val (xe_ixL (xe_varO 4 rfl (pv 4)) (xe_sub (xe_var 5 rfl (pv 5)) xe_int) ?_)) fun hb => (xw_and1 (xt_val (xe_callD (c_law_shows T) hr ⟨M, hM, k + 1, t, u, pl, wt, wu, ht5, hu5, by omega, by omega, closedB_iff.mp hb⟩ (xa_cons (xe_var 2 rfl (pv 2)) (xa_cons (xe_var 5 rfl (pv 5)) (xa_cons (xe_var 10 rfl (pv 10)) (xa_cons (xe_var 11 rfl (pv 11)) (xa_cons (xe_var 12 rfl (pv 12)) xa_nil))))) fun r h => h))))) (Bool.and_false _) (xss_nil ⟨_, rfl⟩)
        rw [show ((k + 1 : Nat) : Int) - 1 = (k : Int) by omega]
        exact htold k hk4
end
end PW

-- Vd
/-! Vd: law as a function. -/
namespace PW
open PySem PySem.Spec PyProof.Rows L2 PL Ma
section
variable {P : Program} {w : World} {K : PySem.W.Frag} {mg : Str → Option Value} {base : Heap}
/-- what law(script) is asked -/
def spL (K : PySem.W.Frag) : Sp := fun vs H Q _ => ∃ (a : Addr) (ns : List Int), vs = [.ref a] ∧ SqL K H a (ns.map V.int) ∧ ns.length ≤ 63 ∧ ∀ H', Q (.bl true) H'
/-- the state behind the stream's making -/
theorem law_state0 {H : Hp} {v0 : V} {l sl : Addr} {ns : List Int} (hsl : H sl = none) (hl : H l = none) (hne : sl ≠ l) {H1 : Hp} (hH : H1 = upd (upd H sl (.lst (ns.map V.int))) l (.lst [.ref sl, .int 0, .int 0])) :
    Ent0 ⟨H1, some (l, sl), H1⟩ ∧ StOk ⟨H1, some (l, sl), H1⟩ H1 ((L2.start n_law [v0]).set 1 (some (.ref l))) [.no, .st ns, .no, .no, .no, .no, .no, .no, .no, .no, .no, .no, .no] := by
  have e1 : H1 sl = some (.lst (ns.map V.int)) := by rw [hH, upd_ne hne, upd_same]
  have e2 : H1 l = some (.lst [.ref sl, .int 0, .int 0]) := by rw [hH, upd_same]
  have so : SOk ⟨H1, some (l, sl), H1⟩ H1 := fun l' sl' e => by
    cases e
    exact ⟨hne, ⟨ns, e1⟩, 0, 0, e2, Int.le_refl _, Int.le_refl _⟩
  have own0 : ∀ i, ownAt [.no, .st ns, .no, .no, .no, .no, .no, .no, .no, .no, .no, .no, .no] i = none := fun i => by
    rcases i with _ | _ | _ | _ | _ | _ | _ | _ | _ | _ | _ | _ | _ | i <;> rfl
  refine ⟨⟨so, rfl⟩, rfl, fun a u h _ => h, so, fun l' sl' e => ?_, fun i r h => ?_, fun i j a _ h => (by rw [own0] at h; cases h), fun a h => h⟩
  · cases e
    exact ⟨(by show H1 l ≠ none; rw [e2]; exact (fun z => nomatch z)), (by show H1 sl ≠ none; rw [e1]; exact (fun z => nomatch z))⟩
  · rcases i with _ | _ | _ | _ | _ | _ | _ | _ | _ | _ | _ | _ | _ | i
    · cases h; trivial
    · cases h; exact ⟨l, sl, rfl, rfl, e1, hne⟩
    all_goals first | (cases h; trivial) | (exact nomatch h)
theorem ok_law (T : Tx K mg) {e : Addr} {ed : FuncData} (F : Fun K "law" "law" s_law e ed) : FnOk P w K mg base CX0 13 e ed ["_law_script"] (spL K) := by
  refine F.ok sc_law (fun vs H Q E h => ?_) (fun cdv A outer s H vs Q E hr h => ?_)
  · obtain ⟨a, ns, rfl, _⟩ := h
    rfl
  obtain ⟨a, ns, rfl, hS, h63, q⟩ := h
  obtain ⟨f, fd, ps, hF, hm, hkp, hb⟩ := c_law_stream (P := P) (w := w) (base := base) T
  refine ⟨_, pss_cons (ps_set (i := 1) sc_law.nd rfl (Or.inl rfl) (pe_call hF (hr.mono (by decide)) rfl hm hkp hb .nil pass0 (pa_cons (pv 0) pa_nil))) (law_body T e cdv A outer s H E hr ns), ?_⟩
  refine ⟨_, rfl, a, ns, rfl, hS, fun l sl hsl hl hne => ?_⟩
  obtain ⟨s0, S⟩ := law_state0 (v0 := .ref a) (ns := ns) hsl hl hne rfl
  refine ⟨_, _, Le.refl _, s0, S, fun _ _ _ _ _ _ z => z.elim, fun v H' r _ hv hr' => ?_⟩
  subst hr'
  cases hv
  exact q H'
end
end PW

-- Ve
/-! Ve: the top, the theorem. -/
namespace PW
open PySem PySem.Spec PyProof.Rows L2 PL Ma
set_option maxHeartbeats 0 in
theorem all_mk {l : PySem.W.OpenLaw} {w : World} {K : PySem.W.Frag} {h : Heap} {mg : Str → Option Value} {fa f1 f2 f3 f4 f5 f6 f7 f8 f9 f10 f11 f12 f13 f14 f15 f16 f17 f18 f19 f20 f21 f22 f23 f24 f25 f26 f27 f28 f29 f30 f31 f32 f33 f34 f35 f36 f37 f38 f39 f40 f41 f42 f43 : Addr} (X : K.In h) (G : h.Ns mainGlobals mg) (hfa : mg "law" = some (.ref fa))
    {od1 an1 od2 an2 od3 an3 od4 an4 od5 an5 od6 an6 od7 an7 od8 an8 od9 an9 od10 an10 od11 an11 od12 an12 od13 an13 od14 an14 od15 an15 od16 an16 od17 an17 od18 an18 od19 an19 od20 an20 od21 an21 od22 an22 od23 an23 od24 an24 od25 an25 od26 an26 od27 an27 od28 an28 od29 an29 od30 an30 od31 an31 od32 an32 od33 an33 od34 an34 od35 an35 od36 an36 od37 an37 od38 an38 od39 an39 od40 an40 od41 an41 od42 an42 od43 an43 : Option Addr} {sl1 sl2 sl3 sl4 sl5 sl6 sl7 sl8 sl9 sl10 sl11 sl12 sl13 sl14 sl15 sl16 sl17 sl18 sl19 sl20 sl21 sl22 sl23 sl24 sl25 sl26 sl27 sl28 sl29 sl30 sl31 sl32 sl33 sl34 sl35 sl36 sl37 sl38 sl39 sl40 sl41 sl42 sl43 : Array (Option Value)} {oc1 kV1 dc1 pm1 cd1 ct1 oc2 kV2 dc2 pm2 cd2 ct2 oc3 kV3 dc3 pm3 cd3 ct3 oc4 kV4 dc4 pm4 cd4 ct4 oc5 kV5 dc5 pm5 cd5 ct5 oc6 kV6 dc6 pm6 cd6 ct6 oc7 kV7 dc7 pm7 cd7 ct7 oc8 kV8 dc8 pm8 cd8 ct8 oc9 kV9 dc9 pm9 cd9 ct9 oc10 kV10 dc10 pm10 cd10 ct10 oc11 kV11 dc11 pm11 cd11 ct11 oc12 kV12 dc12 pm12 cd12 ct12 oc13 kV13 dc13 pm13 cd13 ct13 oc14 kV14 dc14 pm14 cd14 ct14 oc15 kV15 dc15 pm15 cd15 ct15 oc16 kV16 dc16 pm16 cd16 ct16 oc17 kV17 dc17 pm17 cd17 ct17 oc18 kV18 dc18 pm18 cd18 ct18 oc19 kV19 dc19 pm19 cd19 ct19 oc20 kV20 dc20 pm20 cd20 ct20 oc21 kV21 dc21 pm21 cd21 ct21 oc22 kV22 dc22 pm22 cd22 ct22 oc23 kV23 dc23 pm23 cd23 ct23 oc24 kV24 dc24 pm24 cd24 ct24 oc25 kV25 dc25 pm25 cd25 ct25 oc26 kV26 dc26 pm26 cd26 ct26 oc27 kV27 dc27 pm27 cd27 ct27 oc28 kV28 dc28 pm28 cd28 ct28 oc29 kV29 dc29 pm29 cd29 ct29 oc30 kV30 dc30 pm30 cd30 ct30 oc31 kV31 dc31 pm31 cd31 ct31 oc32 kV32 dc32 pm32 cd32 ct32 oc33 kV33 dc33 pm33 cd33 ct33 oc34 kV34 dc34 pm34 cd34 ct34 oc35 kV35 dc35 pm35 cd35 ct35 oc36 kV36 dc36 pm36 cd36 ct36 oc37 kV37 dc37 pm37 cd37 ct37 oc38 kV38 dc38 pm38 cd38 ct38 oc39 kV39 dc39 pm39 cd39 ct39 oc40 kV40 dc40 pm40 cd40 ct40 oc41 kV41 dc41 pm41 cd41 ct41 oc42 kV42 dc42 pm42 cd42 ct42 oc43 kV43 dc43 pm43 cd43 ct43 : Value}
    {t1 t2 t3 t4 : Tok}
    (a1 : PySem.W.nsIn K mainGlobals "is_number" = some (some (.ref f1))) (l1 : K.lookup f1 = some ⟨oc1, od1, .func (PySem.W.fnOf "is_number" "is_number" (defArgs s_is_number) (defBody s_is_number) (defScope s_is_number) .none kV1 dc1 pm1 an1 cd1 ct1), sl1⟩) (c1 : PySem.W.codeIn K cd1 "is_number" = true) (k1 : PySem.W.keepIn K (.ref f1) = true)
    (a2 : PySem.W.nsIn K mainGlobals "is_arities" = some (some (.ref f2))) (l2 : K.lookup f2 = some ⟨oc2, od2, .func (PySem.W.fnOf "is_arities" "is_arities" (defArgs s_is_arities) (defBody s_is_arities) (defScope s_is_arities) .none kV2 dc2 pm2 an2 cd2 ct2), sl2⟩) (c2 : PySem.W.codeIn K cd2 "is_arities" = true) (k2 : PySem.W.keepIn K (.ref f2) = true)
    (a3 : PySem.W.nsIn K mainGlobals "is_row" = some (some (.ref f3))) (l3 : K.lookup f3 = some ⟨oc3, od3, .func (PySem.W.fnOf "is_row" "is_row" (defArgs s_is_row) (defBody s_is_row) (defScope s_is_row) .none kV3 dc3 pm3 an3 cd3 ct3), sl3⟩) (c3 : PySem.W.codeIn K cd3 "is_row" = true) (k3 : PySem.W.keepIn K (.ref f3) = true)
    (a4 : PySem.W.nsIn K mainGlobals "is_automaton" = some (some (.ref f4))) (l4 : K.lookup f4 = some ⟨oc4, od4, .func (PySem.W.fnOf "is_automaton" "is_automaton" (defArgs s_is_automaton) (defBody s_is_automaton) (defScope s_is_automaton) .none kV4 dc4 pm4 an4 cd4 ct4), sl4⟩) (c4 : PySem.W.codeIn K cd4 "is_automaton" = true) (k4 : PySem.W.keepIn K (.ref f4) = true)
    (a5 : PySem.W.nsIn K mainGlobals "next_state" = some (some (.ref f5))) (l5 : K.lookup f5 = some ⟨oc5, od5, .func (PySem.W.fnOf "next_state" "next_state" (defArgs s_next_state) (defBody s_next_state) (defScope s_next_state) .none kV5 dc5 pm5 an5 cd5 ct5), sl5⟩) (c5 : PySem.W.codeIn K cd5 "next_state" = true) (k5 : PySem.W.keepIn K (.ref f5) = true)
    (a6 : PySem.W.nsIn K mainGlobals "rows_of" = some (some (.ref f6))) (l6 : K.lookup f6 = some ⟨oc6, od6, .func (PySem.W.fnOf "rows_of" "rows_of" (defArgs s_rows_of) (defBody s_rows_of) (defScope s_rows_of) .none kV6 dc6 pm6 an6 cd6 ct6), sl6⟩) (c6 : PySem.W.codeIn K cd6 "rows_of" = true) (k6 : PySem.W.keepIn K (.ref f6) = true)
    (a7 : PySem.W.nsIn K mainGlobals "reachable" = some (some (.ref f7))) (l7 : K.lookup f7 = some ⟨oc7, od7, .func (PySem.W.fnOf "reachable" "reachable" (defArgs s_reachable) (defBody s_reachable) (defScope s_reachable) .none kV7 dc7 pm7 an7 cd7 ct7), sl7⟩) (c7 : PySem.W.codeIn K cd7 "reachable" = true) (k7 : PySem.W.keepIn K (.ref f7) = true)
    (a8 : PySem.W.nsIn K mainGlobals "is_whole" = some (some (.ref f8))) (l8 : K.lookup f8 = some ⟨oc8, od8, .func (PySem.W.fnOf "is_whole" "is_whole" (defArgs s_is_whole) (defBody s_is_whole) (defScope s_is_whole) .none kV8 dc8 pm8 an8 cd8 ct8), sl8⟩) (c8 : PySem.W.codeIn K cd8 "is_whole" = true) (k8 : PySem.W.keepIn K (.ref f8) = true)
    (a9 : PySem.W.nsIn K mainGlobals "check_automaton" = some (some (.ref f9))) (l9 : K.lookup f9 = some ⟨oc9, od9, .func (PySem.W.fnOf "check_automaton" "check_automaton" (defArgs s_check_automaton) (defBody s_check_automaton) (defScope s_check_automaton) .none kV9 dc9 pm9 an9 cd9 ct9), sl9⟩) (c9 : PySem.W.codeIn K cd9 "check_automaton" = true) (k9 : PySem.W.keepIn K (.ref f9) = true)
    (a10 : PySem.W.nsIn K mainGlobals "check_number" = some (some (.ref f10))) (l10 : K.lookup f10 = some ⟨oc10, od10, .func (PySem.W.fnOf "check_number" "check_number" (defArgs s_check_number) (defBody s_check_number) (defScope s_check_number) .none kV10 dc10 pm10 an10 cd10 ct10), sl10⟩) (c10 : PySem.W.codeIn K cd10 "check_number" = true) (k10 : PySem.W.keepIn K (.ref f10) = true)
    (a11 : PySem.W.nsIn K mainGlobals "made_by" = some (some (.ref f11))) (l11 : K.lookup f11 = some ⟨oc11, od11, .func (PySem.W.fnOf "made_by" "made_by" (defArgs s_made_by) (defBody s_made_by) (defScope s_made_by) .none kV11 dc11 pm11 an11 cd11 ct11), sl11⟩) (c11 : PySem.W.codeIn K cd11 "made_by" = true) (k11 : PySem.W.keepIn K (.ref f11) = true)
    (a12 : PySem.W.nsIn K mainGlobals "layers_of" = some (some (.ref f12))) (l12 : K.lookup f12 = some ⟨oc12, od12, .func (PySem.W.fnOf "layers_of" "layers_of" (defArgs s_layers_of) (defBody s_layers_of) (defScope s_layers_of) .none kV12 dc12 pm12 an12 cd12 ct12), sl12⟩) (c12 : PySem.W.codeIn K cd12 "layers_of" = true) (k12 : PySem.W.keepIn K (.ref f12) = true)
    (a13 : PySem.W.nsIn K mainGlobals "pairs_at" = some (some (.ref f13))) (l13 : K.lookup f13 = some ⟨oc13, od13, .func (PySem.W.fnOf "pairs_at" "pairs_at" (defArgs s_pairs_at) (defBody s_pairs_at) (defScope s_pairs_at) .none kV13 dc13 pm13 an13 cd13 ct13), sl13⟩) (c13 : PySem.W.codeIn K cd13 "pairs_at" = true) (k13 : PySem.W.keepIn K (.ref f13) = true)
    (a14 : PySem.W.nsIn K mainGlobals "climbs_from" = some (some (.ref f14))) (l14 : K.lookup f14 = some ⟨oc14, od14, .func (PySem.W.fnOf "climbs_from" "climbs_from" (defArgs s_climbs_from) (defBody s_climbs_from) (defScope s_climbs_from) .none kV14 dc14 pm14 an14 cd14 ct14), sl14⟩) (c14 : PySem.W.codeIn K cd14 "climbs_from" = true) (k14 : PySem.W.keepIn K (.ref f14) = true)
    (a15 : PySem.W.nsIn K mainGlobals "met_with" = some (some (.ref f15))) (l15 : K.lookup f15 = some ⟨oc15, od15, .func (PySem.W.fnOf "met_with" "met_with" (defArgs s_met_with) (defBody s_met_with) (defScope s_met_with) .none kV15 dc15 pm15 an15 cd15 ct15), sl15⟩) (c15 : PySem.W.codeIn K cd15 "met_with" = true) (k15 : PySem.W.keepIn K (.ref f15) = true)
    (a16 : PySem.W.nsIn K mainGlobals "is_bad" = some (some (.ref f16))) (l16 : K.lookup f16 = some ⟨oc16, od16, .func (PySem.W.fnOf "is_bad" "is_bad" (defArgs s_is_bad) (defBody s_is_bad) (defScope s_is_bad) .none kV16 dc16 pm16 an16 cd16 ct16), sl16⟩) (c16 : PySem.W.codeIn K cd16 "is_bad" = true) (k16 : PySem.W.keepIn K (.ref f16) = true)
    (a17 : PySem.W.nsIn K mainGlobals "closed_with" = some (some (.ref f17))) (l17 : K.lookup f17 = some ⟨oc17, od17, .func (PySem.W.fnOf "closed_with" "closed_with" (defArgs s_closed_with) (defBody s_closed_with) (defScope s_closed_with) .none kV17 dc17 pm17 an17 cd17 ct17), sl17⟩) (c17 : PySem.W.codeIn K cd17 "closed_with" = true) (k17 : PySem.W.keepIn K (.ref f17) = true)
    (a18 : PySem.W.nsIn K mainGlobals "is_closed" = some (some (.ref f18))) (l18 : K.lookup f18 = some ⟨oc18, od18, .func (PySem.W.fnOf "is_closed" "is_closed" (defArgs s_is_closed) (defBody s_is_closed) (defScope s_is_closed) .none kV18 dc18 pm18 an18 cd18 ct18), sl18⟩) (c18 : PySem.W.codeIn K cd18 "is_closed" = true) (k18 : PySem.W.keepIn K (.ref f18) = true)
    (a19 : PySem.W.nsIn K mainGlobals "_law_stream" = some (some (.ref f19))) (l19 : K.lookup f19 = some ⟨oc19, od19, .func (PySem.W.fnOf "_law_stream" "_law_stream" (defArgs s_law_stream) (defBody s_law_stream) (defScope s_law_stream) .none kV19 dc19 pm19 an19 cd19 ct19), sl19⟩) (c19 : PySem.W.codeIn K cd19 "_law_stream" = true) (k19 : PySem.W.keepIn K (.ref f19) = true)
    (a20 : PySem.W.nsIn K mainGlobals "_law_next" = some (some (.ref f20))) (l20 : K.lookup f20 = some ⟨oc20, od20, .func (PySem.W.fnOf "_law_next" "_law_next" (defArgs s_law_next) (defBody s_law_next) (defScope s_law_next) .none kV20 dc20 pm20 an20 cd20 ct20), sl20⟩) (c20 : PySem.W.codeIn K cd20 "_law_next" = true) (k20 : PySem.W.keepIn K (.ref f20) = true)
    (a21 : PySem.W.nsIn K mainGlobals "_law_is_integer" = some (some (.ref f21))) (l21 : K.lookup f21 = some ⟨oc21, od21, .func (PySem.W.fnOf "_law_is_integer" "_law_is_integer" (defArgs s_law_is_integer) (defBody s_law_is_integer) (defScope s_law_is_integer) .none kV21 dc21 pm21 an21 cd21 ct21), sl21⟩) (c21 : PySem.W.codeIn K cd21 "_law_is_integer" = true) (k21 : PySem.W.keepIn K (.ref f21) = true)
    (a22 : PySem.W.nsIn K mainGlobals "_law_equal" = some (some (.ref f22))) (l22 : K.lookup f22 = some ⟨oc22, od22, .func (PySem.W.fnOf "_law_equal" "_law_equal" (defArgs s_law_equal) (defBody s_law_equal) (defScope s_law_equal) .none kV22 dc22 pm22 an22 cd22 ct22), sl22⟩) (c22 : PySem.W.codeIn K cd22 "_law_equal" = true) (k22 : PySem.W.keepIn K (.ref f22) = true)
    (a23 : PySem.W.nsIn K mainGlobals "_law_automaton" = some (some (.ref f23))) (l23 : K.lookup f23 = some ⟨oc23, od23, .func (PySem.W.fnOf "_law_automaton" "_law_automaton" (defArgs s_law_automaton) (defBody s_law_automaton) (defScope s_law_automaton) .none kV23 dc23 pm23 an23 cd23 ct23), sl23⟩) (c23 : PySem.W.codeIn K cd23 "_law_automaton" = true) (k23 : PySem.W.keepIn K (.ref f23) = true)
    (a24 : PySem.W.nsIn K mainGlobals "_law_thin" = some (some (.ref f24))) (l24 : K.lookup f24 = some ⟨oc24, od24, .func (PySem.W.fnOf "_law_thin" "_law_thin" (defArgs s_law_thin) (defBody s_law_thin) (defScope s_law_thin) .none kV24 dc24 pm24 an24 cd24 ct24), sl24⟩) (c24 : PySem.W.codeIn K cd24 "_law_thin" = true) (k24 : PySem.W.keepIn K (.ref f24) = true)
    (a25 : PySem.W.nsIn K mainGlobals "_law_some" = some (some (.ref f25))) (l25 : K.lookup f25 = some ⟨oc25, od25, .func (PySem.W.fnOf "_law_some" "_law_some" (defArgs s_law_some) (defBody s_law_some) (defScope s_law_some) .none kV25 dc25 pm25 an25 cd25 ct25), sl25⟩) (c25 : PySem.W.codeIn K cd25 "_law_some" = true) (k25 : PySem.W.keepIn K (.ref f25) = true)
    (a26 : PySem.W.nsIn K mainGlobals "_law_step" = some (some (.ref f26))) (l26 : K.lookup f26 = some ⟨oc26, od26, .func (PySem.W.fnOf "_law_step" "_law_step" (defArgs s_law_step) (defBody s_law_step) (defScope s_law_step) .none kV26 dc26 pm26 an26 cd26 ct26), sl26⟩) (c26 : PySem.W.codeIn K cd26 "_law_step" = true) (k26 : PySem.W.keepIn K (.ref f26) = true)
    (a27 : PySem.W.nsIn K mainGlobals "_law_state" = some (some (.ref f27))) (l27 : K.lookup f27 = some ⟨oc27, od27, .func (PySem.W.fnOf "_law_state" "_law_state" (defArgs s_law_state) (defBody s_law_state) (defScope s_law_state) .none kV27 dc27 pm27 an27 cd27 ct27), sl27⟩) (c27 : PySem.W.codeIn K cd27 "_law_state" = true) (k27 : PySem.W.keepIn K (.ref f27) = true)
    (a28 : PySem.W.nsIn K mainGlobals "_law_trees" = some (some (.ref f28))) (l28 : K.lookup f28 = some ⟨oc28, od28, .func (PySem.W.fnOf "_law_trees" "_law_trees" (defArgs s_law_trees) (defBody s_law_trees) (defScope s_law_trees) .none kV28 dc28 pm28 an28 cd28 ct28), sl28⟩) (c28 : PySem.W.codeIn K cd28 "_law_trees" = true) (k28 : PySem.W.keepIn K (.ref f28) = true)
    (a29 : PySem.W.nsIn K mainGlobals "_law_reached" = some (some (.ref f29))) (l29 : K.lookup f29 = some ⟨oc29, od29, .func (PySem.W.fnOf "_law_reached" "_law_reached" (defArgs s_law_reached) (defBody s_law_reached) (defScope s_law_reached) .none kV29 dc29 pm29 an29 cd29 ct29), sl29⟩) (c29 : PySem.W.codeIn K cd29 "_law_reached" = true) (k29 : PySem.W.keepIn K (.ref f29) = true)
    (a30 : PySem.W.nsIn K mainGlobals "_law_made" = some (some (.ref f30))) (l30 : K.lookup f30 = some ⟨oc30, od30, .func (PySem.W.fnOf "_law_made" "_law_made" (defArgs s_law_made) (defBody s_law_made) (defScope s_law_made) .none kV30 dc30 pm30 an30 cd30 ct30), sl30⟩) (c30 : PySem.W.codeIn K cd30 "_law_made" = true) (k30 : PySem.W.keepIn K (.ref f30) = true)
    (a31 : PySem.W.nsIn K mainGlobals "_law_layers" = some (some (.ref f31))) (l31 : K.lookup f31 = some ⟨oc31, od31, .func (PySem.W.fnOf "_law_layers" "_law_layers" (defArgs s_law_layers) (defBody s_law_layers) (defScope s_law_layers) .none kV31 dc31 pm31 an31 cd31 ct31), sl31⟩) (c31 : PySem.W.codeIn K cd31 "_law_layers" = true) (k31 : PySem.W.keepIn K (.ref f31) = true)
    (a32 : PySem.W.nsIn K mainGlobals "_law_climbed" = some (some (.ref f32))) (l32 : K.lookup f32 = some ⟨oc32, od32, .func (PySem.W.fnOf "_law_climbed" "_law_climbed" (defArgs s_law_climbed) (defBody s_law_climbed) (defScope s_law_climbed) .none kV32 dc32 pm32 an32 cd32 ct32), sl32⟩) (c32 : PySem.W.codeIn K cd32 "_law_climbed" = true) (k32 : PySem.W.keepIn K (.ref f32) = true)
    (a33 : PySem.W.nsIn K mainGlobals "_law_climbs" = some (some (.ref f33))) (l33 : K.lookup f33 = some ⟨oc33, od33, .func (PySem.W.fnOf "_law_climbs" "_law_climbs" (defArgs s_law_climbs) (defBody s_law_climbs) (defScope s_law_climbs) .none kV33 dc33 pm33 an33 cd33 ct33), sl33⟩) (c33 : PySem.W.codeIn K cd33 "_law_climbs" = true) (k33 : PySem.W.keepIn K (.ref f33) = true)
    (a34 : PySem.W.nsIn K mainGlobals "_law_met" = some (some (.ref f34))) (l34 : K.lookup f34 = some ⟨oc34, od34, .func (PySem.W.fnOf "_law_met" "_law_met" (defArgs s_law_met) (defBody s_law_met) (defScope s_law_met) .none kV34 dc34 pm34 an34 cd34 ct34), sl34⟩) (c34 : PySem.W.codeIn K cd34 "_law_met" = true) (k34 : PySem.W.keepIn K (.ref f34) = true)
    (a35 : PySem.W.nsIn K mainGlobals "_law_is_bad" = some (some (.ref f35))) (l35 : K.lookup f35 = some ⟨oc35, od35, .func (PySem.W.fnOf "_law_is_bad" "_law_is_bad" (defArgs s_law_is_bad) (defBody s_law_is_bad) (defScope s_law_is_bad) .none kV35 dc35 pm35 an35 cd35 ct35), sl35⟩) (c35 : PySem.W.codeIn K cd35 "_law_is_bad" = true) (k35 : PySem.W.keepIn K (.ref f35) = true)
    (a36 : PySem.W.nsIn K mainGlobals "_law_is_closed" = some (some (.ref f36))) (l36 : K.lookup f36 = some ⟨oc36, od36, .func (PySem.W.fnOf "_law_is_closed" "_law_is_closed" (defArgs s_law_is_closed) (defBody s_law_is_closed) (defScope s_law_is_closed) .none kV36 dc36 pm36 an36 cd36 ct36), sl36⟩) (c36 : PySem.W.codeIn K cd36 "_law_is_closed" = true) (k36 : PySem.W.keepIn K (.ref f36) = true)
    (a37 : PySem.W.nsIn K mainGlobals "_law_part" = some (some (.ref f37))) (l37 : K.lookup f37 = some ⟨oc37, od37, .func (PySem.W.fnOf "_law_part" "_law_part" (defArgs s_law_part) (defBody s_law_part) (defScope s_law_part) .none kV37 dc37 pm37 an37 cd37 ct37), sl37⟩) (c37 : PySem.W.codeIn K cd37 "_law_part" = true) (k37 : PySem.W.keepIn K (.ref f37) = true)
    (a38 : PySem.W.nsIn K mainGlobals "_law_put" = some (some (.ref f38))) (l38 : K.lookup f38 = some ⟨oc38, od38, .func (PySem.W.fnOf "_law_put" "_law_put" (defArgs s_law_put) (defBody s_law_put) (defScope s_law_put) .none kV38 dc38 pm38 an38 cd38 ct38), sl38⟩) (c38 : PySem.W.codeIn K cd38 "_law_put" = true) (k38 : PySem.W.keepIn K (.ref f38) = true)
    (a39 : PySem.W.nsIn K mainGlobals "_law_places" = some (some (.ref f39))) (l39 : K.lookup f39 = some ⟨oc39, od39, .func (PySem.W.fnOf "_law_places" "_law_places" (defArgs s_law_places) (defBody s_law_places) (defScope s_law_places) .none kV39 dc39 pm39 an39 cd39 ct39), sl39⟩) (c39 : PySem.W.codeIn K cd39 "_law_places" = true) (k39 : PySem.W.keepIn K (.ref f39) = true)
    (a40 : PySem.W.nsIn K mainGlobals "_law_same" = some (some (.ref f40))) (l40 : K.lookup f40 = some ⟨oc40, od40, .func (PySem.W.fnOf "_law_same" "_law_same" (defArgs s_law_same) (defBody s_law_same) (defScope s_law_same) .none kV40 dc40 pm40 an40 cd40 ct40), sl40⟩) (c40 : PySem.W.codeIn K cd40 "_law_same" = true) (k40 : PySem.W.keepIn K (.ref f40) = true)
    (a41 : PySem.W.nsIn K mainGlobals "_law_along" = some (some (.ref f41))) (l41 : K.lookup f41 = some ⟨oc41, od41, .func (PySem.W.fnOf "_law_along" "_law_along" (defArgs s_law_along) (defBody s_law_along) (defScope s_law_along) .none kV41 dc41 pm41 an41 cd41 ct41), sl41⟩) (c41 : PySem.W.codeIn K cd41 "_law_along" = true) (k41 : PySem.W.keepIn K (.ref f41) = true)
    (a42 : PySem.W.nsIn K mainGlobals "_law_shows" = some (some (.ref f42))) (l42 : K.lookup f42 = some ⟨oc42, od42, .func (PySem.W.fnOf "_law_shows" "_law_shows" (defArgs s_law_shows) (defBody s_law_shows) (defScope s_law_shows) .none kV42 dc42 pm42 an42 cd42 ct42), sl42⟩) (c42 : PySem.W.codeIn K cd42 "_law_shows" = true) (k42 : PySem.W.keepIn K (.ref f42) = true)
    (a43 : PySem.W.nsIn K mainGlobals "law" = some (some (.ref f43))) (l43 : K.lookup f43 = some ⟨oc43, od43, .func (PySem.W.fnOf "law" "law" (defArgs s_law) (defBody s_law) (defScope s_law) .none kV43 dc43 pm43 an43 cd43 ct43), sl43⟩) (c43 : PySem.W.codeIn K cd43 "law" = true) (k43 : PySem.W.keepIn K (.ref f43) = true)
    (g1 : PySem.W.nsIn K mainGlobals "MOST_SYMBOLS" = some (some (.int 4 t1)))
    (g2 : PySem.W.nsIn K mainGlobals "MOST_ARITY" = some (some (.int 2 t2)))
    (g3 : PySem.W.nsIn K mainGlobals "MOST_STATES" = some (some (.int 4 t3)))
    (g4 : PySem.W.nsIn K mainGlobals "MOST_DEPTH" = some (some (.int 12 t4)))
    (z1 : PySem.W.nsIn K mainGlobals "abs" = some none)
    (z2 : PySem.W.nsIn K mainGlobals "all" = some none)
    (z3 : PySem.W.nsIn K mainGlobals "any" = some none)
    (z4 : PySem.W.nsIn K mainGlobals "bool" = some none)
    (z5 : PySem.W.nsIn K mainGlobals "enumerate" = some none)
    (z6 : PySem.W.nsIn K mainGlobals "int" = some none)
    (z7 : PySem.W.nsIn K mainGlobals "isinstance" = some none)
    (z8 : PySem.W.nsIn K mainGlobals "len" = some none)
    (z9 : PySem.W.nsIn K mainGlobals "list" = some none)
    (z10 : PySem.W.nsIn K mainGlobals "min" = some none)
    (z11 : PySem.W.nsIn K mainGlobals "range" = some none)
    (z12 : PySem.W.nsIn K mainGlobals "sorted" = some none)
    (z13 : PySem.W.nsIn K mainGlobals "str" = some none)
    (z14 : PySem.W.nsIn K mainGlobals "tuple" = some none)
    (z15 : PySem.W.nsIn K mainGlobals "zip" = some none)
    : ∃ fd : FuncData, (∀ (s : Shared) (v : Value), BindsTo s fd ⟨[v], []⟩ [("_law_script", v)]) ∧ ∀ base : Heap, K.In base → base.Ns mainGlobals mg → FnOk l.prog w K mg base CX0 13 fa fd ["_law_script"] (spL K) := by
  have e := hfa.symm.trans (PySem.W.mg_of X G a43)
  cases e
  have T : Tx K mg := {
    b_abs := PySem.W.mg_none_of X G z1
    b_all := PySem.W.mg_none_of X G z2
    b_any := PySem.W.mg_none_of X G z3
    b_bool := PySem.W.mg_none_of X G z4
    b_enumerate := PySem.W.mg_none_of X G z5
    b_int := PySem.W.mg_none_of X G z6
    b_isinstance := PySem.W.mg_none_of X G z7
    b_len := PySem.W.mg_none_of X G z8
    b_list := PySem.W.mg_none_of X G z9
    b_min := PySem.W.mg_none_of X G z10
    b_range := PySem.W.mg_none_of X G z11
    b_sorted := PySem.W.mg_none_of X G z12
    b_str := PySem.W.mg_none_of X G z13
    b_tuple := PySem.W.mg_none_of X G z14
    b_zip := PySem.W.mg_none_of X G z15
    g_MOST_SYMBOLS := ⟨_, PySem.W.mg_of X G g1⟩
    g_MOST_ARITY := ⟨_, PySem.W.mg_of X G g2⟩
    g_MOST_STATES := ⟨_, PySem.W.mg_of X G g3⟩
    g_MOST_DEPTH := ⟨_, PySem.W.mg_of X G g4⟩
    f_is_number := ⟨_, _, fun_mk (st := s_is_number) l1 c1 k1, PySem.W.mg_of X G a1, (fun_mk (st := s_is_number) l1 c1 k1).binds (ps := ["value", "low", "high"]) fun _ _ _ _ _ _ us hl => match us, hl with | [_, _, _], _ => rfl⟩
    f_is_arities := ⟨_, _, fun_mk (st := s_is_arities) l2 c2 k2, PySem.W.mg_of X G a2, (fun_mk (st := s_is_arities) l2 c2 k2).binds (ps := ["value"]) fun _ _ _ _ _ _ us hl => match us, hl with | [_], _ => rfl⟩
    f_is_row := ⟨_, _, fun_mk (st := s_is_row) l3 c3 k3, PySem.W.mg_of X G a3, (fun_mk (st := s_is_row) l3 c3 k3).binds (ps := ["value", "arity", "count"]) fun _ _ _ _ _ _ us hl => match us, hl with | [_, _, _], _ => rfl⟩
    f_is_automaton := ⟨_, _, fun_mk (st := s_is_automaton) l4 c4 k4, PySem.W.mg_of X G a4, (fun_mk (st := s_is_automaton) l4 c4 k4).binds (ps := ["value"]) fun _ _ _ _ _ _ us hl => match us, hl with | [_], _ => rfl⟩
    f_next_state := ⟨_, _, fun_mk (st := s_next_state) l5 c5 k5, PySem.W.mg_of X G a5, (fun_mk (st := s_next_state) l5 c5 k5).binds (ps := ["automaton", "symbol", "states"]) fun _ _ _ _ _ _ us hl => match us, hl with | [_, _, _], _ => rfl⟩
    f_rows_of := ⟨_, _, fun_mk (st := s_rows_of) l6 c6 k6, PySem.W.mg_of X G a6, (fun_mk (st := s_rows_of) l6 c6 k6).binds (ps := ["known", "arity"]) fun _ _ _ _ _ _ us hl => match us, hl with | [_, _], _ => rfl⟩
    f_reachable := ⟨_, _, fun_mk (st := s_reachable) l7 c7 k7, PySem.W.mg_of X G a7, (fun_mk (st := s_reachable) l7 c7 k7).binds (ps := ["automaton"]) fun _ _ _ _ _ _ us hl => match us, hl with | [_], _ => rfl⟩
    f_is_whole := ⟨_, _, fun_mk (st := s_is_whole) l8 c8 k8, PySem.W.mg_of X G a8, (fun_mk (st := s_is_whole) l8 c8 k8).binds (ps := ["value", "least", "most"]) fun _ _ _ _ _ _ us hl => match us, hl with | [_, _, _], _ => rfl⟩
    f_check_automaton := ⟨_, _, fun_mk (st := s_check_automaton) l9 c9 k9, PySem.W.mg_of X G a9, (fun_mk (st := s_check_automaton) l9 c9 k9).binds (ps := ["automaton"]) fun _ _ _ _ _ _ us hl => match us, hl with | [_], _ => rfl⟩
    f_check_number := ⟨_, _, fun_mk (st := s_check_number) l10 c10 k10, PySem.W.mg_of X G a10, (fun_mk (st := s_check_number) l10 c10 k10).binds (ps := ["value", "least", "most", "name"]) fun _ _ _ _ _ _ us hl => match us, hl with | [_, _, _, _], _ => rfl⟩
    f_made_by := ⟨_, _, fun_mk (st := s_made_by) l11 c11 k11, PySem.W.mg_of X G a11, (fun_mk (st := s_made_by) l11 c11 k11).binds (ps := ["automaton", "layer"]) fun _ _ _ _ _ _ us hl => match us, hl with | [_, _], _ => rfl⟩
    f_layers_of := ⟨_, _, fun_mk (st := s_layers_of) l12 c12 k12, PySem.W.mg_of X G a12, (fun_mk (st := s_layers_of) l12 c12 k12).binds (ps := ["automaton", "many"]) fun _ _ _ _ _ _ us hl => match us, hl with | [_, _], _ => rfl⟩
    f_pairs_at := ⟨_, _, fun_mk (st := s_pairs_at) l13 c13 k13, PySem.W.mg_of X G a13, (fun_mk (st := s_pairs_at) l13 c13 k13).binds (ps := ["automaton", "depth"]) fun _ _ _ _ _ _ us hl => match us, hl with | [_, _], _ => rfl⟩
    f_climbs_from := ⟨_, _, fun_mk (st := s_climbs_from) l14 c14 k14, PySem.W.mg_of X G a14, (fun_mk (st := s_climbs_from) l14 c14 k14).binds (ps := ["automaton", "triple", "layer"]) fun _ _ _ _ _ _ us hl => match us, hl with | [_, _, _], _ => rfl⟩
    f_met_with := ⟨_, _, fun_mk (st := s_met_with) l15 c15 k15, PySem.W.mg_of X G a15, (fun_mk (st := s_met_with) l15 c15 k15).binds (ps := ["automaton", "layer"]) fun _ _ _ _ _ _ us hl => match us, hl with | [_, _], _ => rfl⟩
    f_is_bad := ⟨_, _, fun_mk (st := s_is_bad) l16 c16 k16, PySem.W.mg_of X G a16, (fun_mk (st := s_is_bad) l16 c16 k16).binds (ps := ["automaton", "triple"]) fun _ _ _ _ _ _ us hl => match us, hl with | [_, _], _ => rfl⟩
    f_closed_with := ⟨_, _, fun_mk (st := s_closed_with) l17 c17 k17, PySem.W.mg_of X G a17, (fun_mk (st := s_closed_with) l17 c17 k17).binds (ps := ["automaton", "layer"]) fun _ _ _ _ _ _ us hl => match us, hl with | [_, _], _ => rfl⟩
    f_is_closed := ⟨_, _, fun_mk (st := s_is_closed) l18 c18 k18, PySem.W.mg_of X G a18, (fun_mk (st := s_is_closed) l18 c18 k18).binds (ps := ["automaton", "depth"]) fun _ _ _ _ _ _ us hl => match us, hl with | [_, _], _ => rfl⟩
    f_law_stream := ⟨_, _, fun_mk (st := s_law_stream) l19 c19 k19, PySem.W.mg_of X G a19, (fun_mk (st := s_law_stream) l19 c19 k19).binds (ps := ["_law_script"]) fun _ _ _ _ _ _ us hl => match us, hl with | [_], _ => rfl⟩
    f_law_next := ⟨_, _, fun_mk (st := s_law_next) l20 c20 k20, PySem.W.mg_of X G a20, (fun_mk (st := s_law_next) l20 c20 k20).binds (ps := ["_law_stream_here", "_law_many"]) fun _ _ _ _ _ _ us hl => match us, hl with | [_, _], _ => rfl⟩
    f_law_is_integer := ⟨_, _, fun_mk (st := s_law_is_integer) l21 c21 k21, PySem.W.mg_of X G a21, (fun_mk (st := s_law_is_integer) l21 c21 k21).binds (ps := ["_law_actual"]) fun _ _ _ _ _ _ us hl => match us, hl with | [_], _ => rfl⟩
    f_law_equal := ⟨_, _, fun_mk (st := s_law_equal) l22 c22 k22, PySem.W.mg_of X G a22, (fun_mk (st := s_law_equal) l22 c22 k22).binds (ps := ["_law_actual", "_law_due"]) fun _ _ _ _ _ _ us hl => match us, hl with | [_, _], _ => rfl⟩
    f_law_automaton := ⟨_, _, fun_mk (st := s_law_automaton) l23 c23 k23, PySem.W.mg_of X G a23, (fun_mk (st := s_law_automaton) l23 c23 k23).binds (ps := ["_law_stream_here", "_law_most"]) fun _ _ _ _ _ _ us hl => match us, hl with | [_, _], _ => rfl⟩
    f_law_thin := ⟨_, _, fun_mk (st := s_law_thin) l24 c24 k24, PySem.W.mg_of X G a24, (fun_mk (st := s_law_thin) l24 c24 k24).binds (ps := ["_law_stream_here"]) fun _ _ _ _ _ _ us hl => match us, hl with | [_], _ => rfl⟩
    f_law_some := ⟨_, _, fun_mk (st := s_law_some) l25 c25 k25, PySem.W.mg_of X G a25, (fun_mk (st := s_law_some) l25 c25 k25).binds (ps := ["_law_stream_here", "_law_most"]) fun _ _ _ _ _ _ us hl => match us, hl with | [_, _], _ => rfl⟩
    f_law_step := ⟨_, _, fun_mk (st := s_law_step) l26 c26 k26, PySem.W.mg_of X G a26, (fun_mk (st := s_law_step) l26 c26 k26).binds (ps := ["_law_automaton_here", "_law_symbol", "_law_states"]) fun _ _ _ _ _ _ us hl => match us, hl with | [_, _, _], _ => rfl⟩
    f_law_state := ⟨_, _, fun_mk (st := s_law_state) l27 c27 k27, PySem.W.mg_of X G a27, (fun_mk (st := s_law_state) l27 c27 k27).binds (ps := ["_law_automaton_here", "_law_tree"]) fun _ _ _ _ _ _ us hl => match us, hl with | [_, _], _ => rfl⟩
    f_law_trees := ⟨_, _, fun_mk (st := s_law_trees) l28 c28 k28, PySem.W.mg_of X G a28, (fun_mk (st := s_law_trees) l28 c28 k28).binds (ps := ["_law_arities", "_law_most"]) fun _ _ _ _ _ _ us hl => match us, hl with | [_, _], _ => rfl⟩
    f_law_reached := ⟨_, _, fun_mk (st := s_law_reached) l29 c29 k29, PySem.W.mg_of X G a29, (fun_mk (st := s_law_reached) l29 c29 k29).binds (ps := ["_law_automaton_here"]) fun _ _ _ _ _ _ us hl => match us, hl with | [_], _ => rfl⟩
    f_law_made := ⟨_, _, fun_mk (st := s_law_made) l30 c30 k30, PySem.W.mg_of X G a30, (fun_mk (st := s_law_made) l30 c30 k30).binds (ps := ["_law_automaton_here", "_law_layer"]) fun _ _ _ _ _ _ us hl => match us, hl with | [_, _], _ => rfl⟩
    f_law_layers := ⟨_, _, fun_mk (st := s_law_layers) l31 c31 k31, PySem.W.mg_of X G a31, (fun_mk (st := s_law_layers) l31 c31 k31).binds (ps := ["_law_automaton_here", "_law_many"]) fun _ _ _ _ _ _ us hl => match us, hl with | [_, _], _ => rfl⟩
    f_law_climbed := ⟨_, _, fun_mk (st := s_law_climbed) l32 c32 k32, PySem.W.mg_of X G a32, (fun_mk (st := s_law_climbed) l32 c32 k32).binds (ps := ["_law_automaton_here", "_law_triple", "_law_symbol", "_law_child", "_law_pair"]) fun _ _ _ _ _ _ us hl => match us, hl with | [_, _, _, _, _], _ => rfl⟩
    f_law_climbs := ⟨_, _, fun_mk (st := s_law_climbs) l33 c33 k33, PySem.W.mg_of X G a33, (fun_mk (st := s_law_climbs) l33 c33 k33).binds (ps := ["_law_automaton_here", "_law_triple", "_law_layer"]) fun _ _ _ _ _ _ us hl => match us, hl with | [_, _, _], _ => rfl⟩
    f_law_met := ⟨_, _, fun_mk (st := s_law_met) l34 c34 k34, PySem.W.mg_of X G a34, (fun_mk (st := s_law_met) l34 c34 k34).binds (ps := ["_law_automaton_here", "_law_layer"]) fun _ _ _ _ _ _ us hl => match us, hl with | [_, _], _ => rfl⟩
    f_law_is_bad := ⟨_, _, fun_mk (st := s_law_is_bad) l35 c35 k35, PySem.W.mg_of X G a35, (fun_mk (st := s_law_is_bad) l35 c35 k35).binds (ps := ["_law_automaton_here", "_law_triple"]) fun _ _ _ _ _ _ us hl => match us, hl with | [_, _], _ => rfl⟩
    f_law_is_closed := ⟨_, _, fun_mk (st := s_law_is_closed) l36 c36 k36, PySem.W.mg_of X G a36, (fun_mk (st := s_law_is_closed) l36 c36 k36).binds (ps := ["_law_automaton_here", "_law_layer"]) fun _ _ _ _ _ _ us hl => match us, hl with | [_, _], _ => rfl⟩
    f_law_part := ⟨_, _, fun_mk (st := s_law_part) l37 c37 k37, PySem.W.mg_of X G a37, (fun_mk (st := s_law_part) l37 c37 k37).binds (ps := ["_law_tree", "_law_place"]) fun _ _ _ _ _ _ us hl => match us, hl with | [_, _], _ => rfl⟩
    f_law_put := ⟨_, _, fun_mk (st := s_law_put) l38 c38 k38, PySem.W.mg_of X G a38, (fun_mk (st := s_law_put) l38 c38 k38).binds (ps := ["_law_tree", "_law_place", "_law_part_here"]) fun _ _ _ _ _ _ us hl => match us, hl with | [_, _, _], _ => rfl⟩
    f_law_places := ⟨_, _, fun_mk (st := s_law_places) l39 c39 k39, PySem.W.mg_of X G a39, (fun_mk (st := s_law_places) l39 c39 k39).binds (ps := ["_law_tree"]) fun _ _ _ _ _ _ us hl => match us, hl with | [_], _ => rfl⟩
    f_law_same := ⟨_, _, fun_mk (st := s_law_same) l40 c40 k40, PySem.W.mg_of X G a40, (fun_mk (st := s_law_same) l40 c40 k40).binds (ps := ["_law_first", "_law_second", "_law_depth"]) fun _ _ _ _ _ _ us hl => match us, hl with | [_, _, _], _ => rfl⟩
    f_law_along := ⟨_, _, fun_mk (st := s_law_along) l41 c41 k41, PySem.W.mg_of X G a41, (fun_mk (st := s_law_along) l41 c41 k41).binds (ps := ["_law_first", "_law_second", "_law_place", "_law_depth"]) fun _ _ _ _ _ _ us hl => match us, hl with | [_, _, _, _], _ => rfl⟩
    f_law_shows := ⟨_, _, fun_mk (st := s_law_shows) l42 c42 k42, PySem.W.mg_of X G a42, (fun_mk (st := s_law_shows) l42 c42 k42).binds (ps := ["_law_automaton_here", "_law_depth", "_law_base", "_law_other", "_law_place"]) fun _ _ _ _ _ _ us hl => match us, hl with | [_, _, _, _, _], _ => rfl⟩
  }
  refine ⟨PySem.W.fnOf "law" "law" (defArgs s_law) (defBody s_law) (defScope s_law) .none kV43 dc43 pm43 an43 cd43 ct43, fun s v => .of_eq rfl, fun base _ _ => ?_⟩
  exact ok_law T (fun_mk (st := s_law) l43 c43 k43)
end PW
open PySem PySem.W PyProof.Rows
set_option maxHeartbeats 0 in
theorem PySem.Challenge.cw_rootfirst_k37_whole_closed_under_exchang_holds : PySem.Challenge.rw_rootfirst_k37_whole_closed_under_exchang.Holds := by
  w_on; o_law; k_head; (case hw => w_witness2)
  k_fill
  refine L2.walk_of (l := PySem.Challenge.rw_rootfirst_k37_whole_closed_under_exchang) (n := 63) (k := 13) (x := "_law_script") (CX := fun _ => L2.CX0) (sp := fun w => PW.spL _) rfl (by decide) rfl ⟨rfl, by decide, by decide⟩ (fun w h Y => PySem.W.kIn_of Y) ?F (fun _ _ a ns hl _ hS => ⟨a, ns, rfl, hS, hl, fun _ => rfl⟩) (fun _ _ _ _ _ h => h)
  case F =>
    intro w mg fa h KX G hmg
    refine' PW.all_mk KX G hmg ?a1 ?l1 ?c1 ?k1 ?a2 ?l2 ?c2 ?k2 ?a3 ?l3 ?c3 ?k3 ?a4 ?l4 ?c4 ?k4 ?a5 ?l5 ?c5 ?k5 ?a6 ?l6 ?c6 ?k6 ?a7 ?l7 ?c7 ?k7 ?a8 ?l8 ?c8 ?k8 ?a9 ?l9 ?c9 ?k9 ?a10 ?l10 ?c10 ?k10 ?a11 ?l11 ?c11 ?k11 ?a12 ?l12 ?c12 ?k12 ?a13 ?l13 ?c13 ?k13 ?a14 ?l14 ?c14 ?k14 ?a15 ?l15 ?c15 ?k15 ?a16 ?l16 ?c16 ?k16 ?a17 ?l17 ?c17 ?k17 ?a18 ?l18 ?c18 ?k18 ?a19 ?l19 ?c19 ?k19 ?a20 ?l20 ?c20 ?k20 ?a21 ?l21 ?c21 ?k21 ?a22 ?l22 ?c22 ?k22 ?a23 ?l23 ?c23 ?k23 ?a24 ?l24 ?c24 ?k24 ?a25 ?l25 ?c25 ?k25 ?a26 ?l26 ?c26 ?k26 ?a27 ?l27 ?c27 ?k27 ?a28 ?l28 ?c28 ?k28 ?a29 ?l29 ?c29 ?k29 ?a30 ?l30 ?c30 ?k30 ?a31 ?l31 ?c31 ?k31 ?a32 ?l32 ?c32 ?k32 ?a33 ?l33 ?c33 ?k33 ?a34 ?l34 ?c34 ?k34 ?a35 ?l35 ?c35 ?k35 ?a36 ?l36 ?c36 ?k36 ?a37 ?l37 ?c37 ?k37 ?a38 ?l38 ?c38 ?k38 ?a39 ?l39 ?c39 ?k39 ?a40 ?l40 ?c40 ?k40 ?a41 ?l41 ?c41 ?k41 ?a42 ?l42 ?c42 ?k42 ?a43 ?l43 ?c43 ?k43 ?g1 ?g2 ?g3 ?g4 ?z1 ?z2 ?z3 ?z4 ?z5 ?z6 ?z7 ?z8 ?z9 ?z10 ?z11 ?z12 ?z13 ?z14 ?z15
    (case a1 => k_is)
    (case l1 => k_is)
    (case c1 => k_is)
    (case k1 => k_is)
    (case a2 => k_is)
    (case l2 => k_is)
    (case c2 => k_is)
    (case k2 => k_is)
    (case a3 => k_is)
    (case l3 => k_is)
    (case c3 => k_is)
    (case k3 => k_is)
    (case a4 => k_is)
    (case l4 => k_is)
    (case c4 => k_is)
    (case k4 => k_is)
    (case a5 => k_is)
    (case l5 => k_is)
    (case c5 => k_is)
    (case k5 => k_is)
    (case a6 => k_is)
    (case l6 => k_is)
    (case c6 => k_is)
    (case k6 => k_is)
    (case a7 => k_is)
    (case l7 => k_is)
    (case c7 => k_is)
    (case k7 => k_is)
    (case a8 => k_is)
    (case l8 => k_is)
    (case c8 => k_is)
    (case k8 => k_is)
    (case a9 => k_is)
    (case l9 => k_is)
    (case c9 => k_is)
    (case k9 => k_is)
    (case a10 => k_is)
    (case l10 => k_is)
    (case c10 => k_is)
    (case k10 => k_is)
    (case a11 => k_is)
    (case l11 => k_is)
    (case c11 => k_is)
    (case k11 => k_is)
    (case a12 => k_is)
    (case l12 => k_is)
    (case c12 => k_is)
    (case k12 => k_is)
    (case a13 => k_is)
    (case l13 => k_is)
    (case c13 => k_is)
    (case k13 => k_is)
    (case a14 => k_is)
    (case l14 => k_is)
    (case c14 => k_is)
    (case k14 => k_is)
    (case a15 => k_is)
    (case l15 => k_is)
    (case c15 => k_is)
    (case k15 => k_is)
    (case a16 => k_is)
    (case l16 => k_is)
    (case c16 => k_is)
    (case k16 => k_is)
    (case a17 => k_is)
    (case l17 => k_is)
    (case c17 => k_is)
    (case k17 => k_is)
    (case a18 => k_is)
    (case l18 => k_is)
    (case c18 => k_is)
    (case k18 => k_is)
    (case a19 => k_is)
    (case l19 => k_is)
    (case c19 => k_is)
    (case k19 => k_is)
    (case a20 => k_is)
    (case l20 => k_is)
    (case c20 => k_is)
    (case k20 => k_is)
    (case a21 => k_is)
    (case l21 => k_is)
    (case c21 => k_is)
    (case k21 => k_is)
    (case a22 => k_is)
    (case l22 => k_is)
    (case c22 => k_is)
    (case k22 => k_is)
    (case a23 => k_is)
    (case l23 => k_is)
    (case c23 => k_is)
    (case k23 => k_is)
    (case a24 => k_is)
    (case l24 => k_is)
    (case c24 => k_is)
    (case k24 => k_is)
    (case a25 => k_is)
    (case l25 => k_is)
    (case c25 => k_is)
    (case k25 => k_is)
    (case a26 => k_is)
    (case l26 => k_is)
    (case c26 => k_is)
    (case k26 => k_is)
    (case a27 => k_is)
    (case l27 => k_is)
    (case c27 => k_is)
    (case k27 => k_is)
    (case a28 => k_is)
    (case l28 => k_is)
    (case c28 => k_is)
    (case k28 => k_is)
    (case a29 => k_is)
    (case l29 => k_is)
    (case c29 => k_is)
    (case k29 => k_is)
    (case a30 => k_is)
    (case l30 => k_is)
    (case c30 => k_is)
    (case k30 => k_is)
    (case a31 => k_is)
    (case l31 => k_is)
    (case c31 => k_is)
    (case k31 => k_is)
    (case a32 => k_is)
    (case l32 => k_is)
    (case c32 => k_is)
    (case k32 => k_is)
    (case a33 => k_is)
    (case l33 => k_is)
    (case c33 => k_is)
    (case k33 => k_is)
    (case a34 => k_is)
    (case l34 => k_is)
    (case c34 => k_is)
    (case k34 => k_is)
    (case a35 => k_is)
    (case l35 => k_is)
    (case c35 => k_is)
    (case k35 => k_is)
    (case a36 => k_is)
    (case l36 => k_is)
    (case c36 => k_is)
    (case k36 => k_is)
    (case a37 => k_is)
    (case l37 => k_is)
    (case c37 => k_is)
    (case k37 => k_is)
    (case a38 => k_is)
    (case l38 => k_is)
    (case c38 => k_is)
    (case k38 => k_is)
    (case a39 => k_is)
    (case l39 => k_is)
    (case c39 => k_is)
    (case k39 => k_is)
    (case a40 => k_is)
    (case l40 => k_is)
    (case c40 => k_is)
    (case k40 => k_is)
    (case a41 => k_is)
    (case l41 => k_is)
    (case c41 => k_is)
    (case k41 => k_is)
    (case a42 => k_is)
    (case l42 => k_is)
    (case c42 => k_is)
    (case k42 => k_is)
    (case a43 => k_is)
    (case l43 => k_is)
    (case c43 => k_is)
    (case k43 => k_is)
    (case g1 => k_is)
    (case g2 => k_is)
    (case g3 => k_is)
    (case g4 => k_is)
    (case z1 => k_is)
    (case z2 => k_is)
    (case z3 => k_is)
    (case z4 => k_is)
    (case z5 => k_is)
    (case z6 => k_is)
    (case z7 => k_is)
    (case z8 => k_is)
    (case z9 => k_is)
    (case z10 => k_is)
    (case z11 => k_is)
    (case z12 => k_is)
    (case z13 => k_is)
    (case z14 => k_is)
    (case z15 => k_is)

