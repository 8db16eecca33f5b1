import PyProof.Rows.All
import Wide.All
import OpenK.AllK
import Wide.FinOn
import HandS.ForMost
import HandS.Walk
import HandS.TupAny
import HandS.TupMul
import HandS.NoneIn
import HandS.Iter
import HandS.Ends
import HandS.Style
import KE.DataEq
import KE.DataCmp
import KE.GoesEnum
import KE.GoesMore
import PyProof.ReprRoads
import PyProof.ReprLen
import PySem.Challenge.RW_spancodes_k45_prices_of_rows
set_option Elab.async false
set_option linter.all false
set_option maxRecDepth 100000
set_option maxHeartbeats 2000000
/-! Z0: data over the layer. A value stands for PyData with the addresses of its lists; an environment of such; readings of expressions and statements as predicates over environments of data. -/
namespace Z
open PySem L2

abbrev D := PyData

/-- the datum that stands for the law's source -/
def srcD : D := .dict [(.none, .none)]
def isSrc : List (D × D) → Bool
  | [(.none, .none)] => true
  | _ => false

/-- the program's written part; the addresses of the source's dict and of its list of cells -/
structure Zc where
  K : PySem.W.Frag
  S : Option (Addr × Addr)

def Zc.has (c : Zc) (a : Addr) : Prop := ∃ p, c.S = some p ∧ (a = p.1 ∨ a = p.2)

/-- a key of a dict -/
def keyD : Key → D
  | .inl i => .int i
  | .inr x => .str x

def DictAt (c : Zc) (H : Hp) (a : Addr) (ks : List D) (xs : List V) : Prop :=
  ∃ kk : List Key, ks = kk.map keyD ∧ kk.Nodup ∧ xs.length = kk.length ∧ H a = some (.dK (kk.zip xs))

/-! ### a value that stands for a datum; the addresses of its lists and dicts -/
mutual
def Rp (c : Zc) (H : Hp) : D → V → List Addr → Prop
  | .none, v, fp => v = .non ∧ fp = []
  | .bool b, v, fp => v = .bl b ∧ fp = []
  | .int i, v, fp => v = .int i ∧ fp = []
  | .str x, v, fp => v = .str x ∧ fp = []
  | .list ds, v, fp => ∃ a xs gp, v = .ref a ∧ fp = a :: gp ∧ H a = some (.lst xs) ∧ Rps c H ds xs gp
  | .tuple ds, v, fp => ∃ a xs, v = .ref a ∧ SqT c.K H a xs ∧ Rps c H ds xs fp
  | .dict kvs, v, fp => if isSrc kvs = true then ∃ p, c.S = some p ∧ v = .ref p.1 ∧ fp = []
      else ∃ a xs gp, v = .ref a ∧ fp = a :: gp ∧ Rpk c H kvs xs gp ∧ DictAt c H a (kvs.map (·.1)) xs
def Rps (c : Zc) (H : Hp) : List D → List V → List Addr → Prop
  | [], xs, fp => xs = [] ∧ fp = []
  | d :: ds, xs, fp => ∃ x ys f1 f2, xs = x :: ys ∧ fp = f1 ++ f2 ∧ Rp c H d x f1 ∧ Rps c H ds ys f2
def Rpk (c : Zc) (H : Hp) : List (D × D) → List V → List Addr → Prop
  | [], xs, fp => xs = [] ∧ fp = []
  | (_, d) :: r, xs, fp => ∃ x ys f1 f2, xs = x :: ys ∧ fp = f1 ++ f2 ∧ Rp c H d x f1 ∧ Rpk c H r ys f2
end

mutual
/-- no list and no dict in it -/
def solid : D → Bool
  | .none | .bool _ | .int _ | .str _ => true
  | .list _ | .dict _ => false
  | .tuple xs => solids xs
def solids : List D → Bool
  | [] => true
  | x :: xs => solid x && solids xs
end

/-- what never changes -/
def Fix : HO → Prop
  | .tup _ => True
  | .frz _ _ => True
  | _ => False
def Tk (H H' : Hp) : Prop := ∀ a o, H a = some o → Fix o → H' a = some o
theorem Tk.sq {K : PySem.W.Frag} {H H' : Hp} {a : Addr} {xs : List V} (t : Tk H H') (h : SqT K H a xs) : SqT K H' a xs := by
  rcases h with (h | ⟨o, h⟩) | h
  · exact .inl (.inl (t _ _ h trivial))
  · exact .inl (.inr ⟨o, t _ _ h trivial⟩)
  · exact .inr h
theorem Tk.refl (H : Hp) : Tk H H := fun _ _ h _ => h
theorem Tk.trans {H H1 H2 : Hp} (a : Tk H H1) (b : Tk H1 H2) : Tk H H2 := fun x o h f => b x o (a x o h f) f

section
variable {c : Zc} {H H' : Hp}
mutual
theorem Rp.mono (t : Tk H H') : ∀ (d : D) (v : V) (fp : List Addr), Rp c H d v fp → (∀ a ∈ fp, H' a = H a) → Rp c H' d v fp
  | .none, _, _, h, _ => by simp only [Rp] at h ⊢; exact h
  | .bool b, _, _, h, _ => by simp only [Rp] at h ⊢; exact h
  | .int i, _, _, h, _ => by simp only [Rp] at h ⊢; exact h
  | .str x, _, _, h, _ => by simp only [Rp] at h ⊢; exact h
  | .list ds, v, fp, h, k => by
    simp only [Rp] at h ⊢
    obtain ⟨a, xs, gp, rfl, rfl, h1, h2⟩ := h
    exact ⟨a, xs, gp, rfl, rfl, by rw [k a (List.mem_cons_self ..)]; exact h1, Rps.mono t ds xs gp h2 fun b hb => k b (List.mem_cons_of_mem _ hb)⟩
  | .tuple ds, v, fp, h, k => by
    simp only [Rp] at h ⊢
    obtain ⟨a, xs, rfl, h1, h2⟩ := h
    exact ⟨a, xs, rfl, t.sq h1, Rps.mono t ds xs fp h2 k⟩
  | .dict kvs, v, fp, h, k => by
    simp only [Rp] at h ⊢
    split
    · rename_i hs
      rw [if_pos hs] at h
      exact h
    · rename_i hs
      rw [if_neg hs] at h
      obtain ⟨a, xs, gp, rfl, rfl, h1, kk, e1, e2, e3, e4⟩ := h
      exact ⟨a, xs, gp, rfl, rfl, Rpk.mono t kvs xs gp h1 fun b hb => k b (List.mem_cons_of_mem _ hb), kk, e1, e2, e3, by rw [k a (List.mem_cons_self ..)]; exact e4⟩
theorem Rps.mono (t : Tk H H') : ∀ (ds : List D) (xs : List V) (fp : List Addr), Rps c H ds xs fp → (∀ a ∈ fp, H' a = H a) → Rps c H' ds xs fp
  | [], _, _, h, _ => by simp only [Rps] at h ⊢; exact h
  | d :: ds, xs, fp, h, k => by
    simp only [Rps] at h ⊢
    obtain ⟨x, ys, f1, f2, rfl, rfl, h1, h2⟩ := h
    exact ⟨x, ys, f1, f2, rfl, rfl, Rp.mono t d x f1 h1 fun a ha => k a (List.mem_append_left _ ha), Rps.mono t ds ys f2 h2 fun a ha => k a (List.mem_append_right _ ha)⟩
theorem Rpk.mono (t : Tk H H') : ∀ (ds : List (D × D)) (xs : List V) (fp : List Addr), Rpk c H ds xs fp → (∀ a ∈ fp, H' a = H a) → Rpk c H' ds xs fp
  | [], _, _, h, _ => by simp only [Rpk] at h ⊢; exact h
  | (_, d) :: ds, xs, fp, h, k => by
    simp only [Rpk] at h ⊢
    obtain ⟨x, ys, f1, f2, rfl, rfl, h1, h2⟩ := h
    exact ⟨x, ys, f1, f2, rfl, rfl, Rp.mono t d x f1 h1 fun a ha => k a (List.mem_append_left _ ha), Rpk.mono t ds ys f2 h2 fun a ha => k a (List.mem_append_right _ ha)⟩
end
mutual
theorem Rp.there : ∀ (d : D) (v : V) (fp : List Addr), Rp c H d v fp → ∀ a ∈ fp, ∃ o, H a = some o ∧ ¬ Fix o
  | .none, _, _, h => by simp only [Rp] at h; rw [h.2]; intro a ha; cases ha
  | .bool b, _, _, h => by simp only [Rp] at h; rw [h.2]; intro a ha; cases ha
  | .int i, _, _, h => by simp only [Rp] at h; rw [h.2]; intro a ha; cases ha
  | .str x, _, _, h => by simp only [Rp] at h; rw [h.2]; intro a ha; cases ha
  | .list ds, v, fp, h => by
    simp only [Rp] at h
    obtain ⟨a, xs, gp, rfl, rfl, h1, h2⟩ := h
    intro b hb
    rcases List.mem_cons.mp hb with rfl | hb
    · exact ⟨_, h1, id⟩
    · exact Rps.there ds xs gp h2 b hb
  | .tuple ds, v, fp, h => by
    simp only [Rp] at h
    obtain ⟨a, xs, rfl, h1, h2⟩ := h
    exact Rps.there ds xs fp h2
  | .dict kvs, v, fp, h => by
    simp only [Rp] at h
    split at h
    · obtain ⟨p, _, _, e⟩ := h
      rw [e]; intro a ha; cases ha
    · obtain ⟨a, xs, gp, rfl, rfl, h1, kk, e1, e2, e3, e4⟩ := h
      intro b hb
      rcases List.mem_cons.mp hb with rfl | hb
      · exact ⟨_, e4, id⟩
      · exact Rpk.there kvs xs gp h1 b hb
theorem Rps.there : ∀ (ds : List D) (xs : List V) (fp : List Addr), Rps c H ds xs fp → ∀ a ∈ fp, ∃ o, H a = some o ∧ ¬ Fix o
  | [], _, _, h => by simp only [Rps] at h; rw [h.2]; intro a ha; cases ha
  | d :: ds, xs, fp, h => by
    simp only [Rps] at h
    obtain ⟨x, ys, f1, f2, rfl, rfl, h1, h2⟩ := h
    intro a ha
    rcases List.mem_append.mp ha with ha | ha
    · exact Rp.there d x f1 h1 a ha
    · exact Rps.there ds ys f2 h2 a ha
theorem Rpk.there : ∀ (ds : List (D × D)) (xs : List V) (fp : List Addr), Rpk c H ds xs fp → ∀ a ∈ fp, ∃ o, H a = some o ∧ ¬ Fix o
  | [], _, _, h => by simp only [Rpk] at h; rw [h.2]; intro a ha; cases ha
  | (_, d) :: ds, xs, fp, h => by
    simp only [Rpk] at h
    obtain ⟨x, ys, f1, f2, rfl, rfl, h1, h2⟩ := h
    intro a ha
    rcases List.mem_append.mp ha with ha | ha
    · exact Rp.there d x f1 h1 a ha
    · exact Rpk.there ds ys f2 h2 a ha
end
mutual
theorem Rp.solid : ∀ (d : D) (v : V) (fp : List Addr), Rp c H d v fp → solid d = true → fp = []
  | .none, _, _, h, _ => by simp only [Rp] at h; exact h.2
  | .bool b, _, _, h, _ => by simp only [Rp] at h; exact h.2
  | .int i, _, _, h, _ => by simp only [Rp] at h; exact h.2
  | .str x, _, _, h, _ => by simp only [Rp] at h; exact h.2
  | .list ds, v, fp, h, s => by simp [Z.solid] at s
  | .tuple ds, v, fp, h, s => by
    simp only [Rp] at h
    simp only [Z.solid] at s
    obtain ⟨a, xs, rfl, h1, h2⟩ := h
    exact Rps.solid ds xs fp h2 s
  | .dict kvs, v, fp, h, s => by simp [Z.solid] at s
theorem Rps.solid : ∀ (ds : List D) (xs : List V) (fp : List Addr), Rps c H ds xs fp → solids ds = true → fp = []
  | [], _, _, h, _ => by simp only [Rps] at h; exact h.2
  | d :: ds, xs, fp, h, s => by
    simp only [Rps] at h
    simp only [Z.solids, Bool.and_eq_true] at s
    obtain ⟨x, ys, f1, f2, rfl, rfl, h1, h2⟩ := h
    rw [Rp.solid d x f1 h1 s.1, Rps.solid ds ys f2 h2 s.2]
    rfl
end

theorem Rps.len : ∀ {ds : List D} {xs : List V} {fp : List Addr}, Rps c H ds xs fp → xs.length = ds.length
  | [], _, _, h => by simp only [Rps] at h; rw [h.1]; rfl
  | d :: ds, xs, fp, h => by
    simp only [Rps] at h
    obtain ⟨x, ys, f1, f2, rfl, rfl, h1, h2⟩ := h
    rw [List.length_cons, List.length_cons, Rps.len h2]
/-- the i-th one -/
theorem Rps.at : ∀ {ds : List D} {xs : List V} {fp : List Addr} {i : Nat} {d : D}, Rps c H ds xs fp → ds[i]? = some d → ∃ x gp, xs[i]? = some x ∧ Rp c H d x gp ∧ (∀ a ∈ gp, a ∈ fp) ∧ (fp.Nodup → gp.Nodup)
  | [], _, _, _, _, _, e => by simp at e
  | d :: ds, xs, fp, 0, d', h, e => by
    simp only [Rps] at h
    obtain ⟨x, ys, f1, f2, rfl, rfl, h1, h2⟩ := h
    simp only [List.getElem?_cons_zero, Option.some.injEq] at e
    subst e
    exact ⟨x, f1, rfl, h1, fun a ha => List.mem_append_left _ ha, fun n => (List.nodup_append.mp n).1⟩
  | d :: ds, xs, fp, i + 1, d', h, e => by
    simp only [Rps] at h
    obtain ⟨x, ys, f1, f2, rfl, rfl, h1, h2⟩ := h
    obtain ⟨y, gp, e1, e2, e3, e4⟩ := Rps.at (i := i) h2 (by simpa using e)
    exact ⟨y, gp, by simpa using e1, e2, fun a ha => List.mem_append_right _ (e3 a ha), fun n => e4 (List.nodup_append.mp n).2.1⟩
theorem Rps.app : ∀ {ds es : List D} {xs ys : List V} {fp gp : List Addr}, Rps c H ds xs fp → Rps c H es ys gp → Rps c H (ds ++ es) (xs ++ ys) (fp ++ gp)
  | [], es, xs, ys, fp, gp, h, k => by
    simp only [Rps] at h
    rw [h.1, h.2]
    exact k
  | d :: ds, es, xs, ys, fp, gp, h, k => by
    simp only [Rps] at h
    obtain ⟨x, zs, f1, f2, rfl, rfl, h1, h2⟩ := h
    simp only [List.cons_append, List.append_assoc]
    simp only [Rps]
    exact ⟨x, zs ++ ys, f1, f2 ++ gp, rfl, rfl, h1, Rps.app h2 k⟩
theorem Rps.nil : Rps c H [] [] [] := by simp [Rps]
theorem Rps.cons {d : D} {ds : List D} {x : V} {xs : List V} {fp gp : List Addr} (h : Rp c H d x fp) (k : Rps c H ds xs gp) : Rps c H (d :: ds) (x :: xs) (fp ++ gp) := by
  simp only [Rps]; exact ⟨x, xs, fp, gp, rfl, rfl, h, k⟩
theorem Rps.one {d : D} {x : V} {fp : List Addr} (h : Rp c H d x fp) : Rps c H [d] [x] fp := by
  have := Rps.cons h (Rps.nil (c := c) (H := H))
  rwa [List.append_nil] at this
end

/-! ### the source -/
/-- the source's own objects -/
def SrcAt (c : Zc) (H : Hp) : Prop := ∀ p, c.S = some p → p.1 ≠ p.2 ∧ ∃ (ns : List Int) (l m t : Int), ns.length ≤ 63 ∧ (∀ n ∈ ns, 0 ≤ n) ∧ 0 ≤ l ∧ 0 ≤ m ∧ m < 2147483648 ∧ 0 ≤ t ∧
  H p.1 = some (.dK [(Sum.inr "cells", .ref p.2), (Sum.inr "left", .int l), (Sum.inr "mixed", .int m), (Sum.inr "turn", .int t)]) ∧ H p.2 = some (.lst (ns.map V.int))

/-- all that was tracked is as it was, but the source -/
def Ext (c : Zc) (H H' : Hp) : Prop := ∀ a o, H a = some o → ¬ c.has a → H' a = some o
theorem Ext.refl (c : Zc) (H : Hp) : Ext c H H := fun _ _ h _ => h
theorem Ext.trans {c : Zc} {H H1 H2 : Hp} (a : Ext c H H1) (b : Ext c H1 H2) : Ext c H H2 := fun x o h n => b x o (a x o h n) n
theorem Ext.new {c : Zc} {H : Hp} {p : Addr} {o : HO} (h : H p = none) : Ext c H (upd H p o) := fun a u e _ => by
  rw [upd_ne (ne_of_none e h)]
  exact e
theorem Ext.free {c : Zc} {H H' : Hp} (e : Ext c H H') {p : Addr} (h : H' p = none) (n : ¬ c.has p) : H p = none := by
  cases q : H p with
  | none => rfl
  | some o =>
    rw [e p o q n] at h
    cases h
theorem SrcAt.not_fix {c : Zc} {H : Hp} (s : SrcAt c H) {a : Addr} {o : HO} (h : H a = some o) (f : Fix o) : ¬ c.has a := by
  rintro ⟨p, hp, e⟩
  obtain ⟨_, ns, l, m, t, _, _, _, _, _, _, h1, h2⟩ := s p hp
  rcases e with rfl | rfl
  · rw [h1] at h; cases h; exact f
  · rw [h2] at h; cases h; exact f
theorem Ext.tk {c : Zc} {H H' : Hp} (e : Ext c H H') (s : SrcAt c H) : Tk H H' := fun a o h f => e a o h (s.not_fix h f)
theorem SrcAt.there {c : Zc} {H : Hp} (s : SrcAt c H) {a : Addr} (h : c.has a) : ∃ o, H a = some o := by
  obtain ⟨p, hp, e⟩ := h
  obtain ⟨_, ns, l, m, t, _, _, _, _, _, _, h1, h2⟩ := s p hp
  rcases e with rfl | rfl
  · exact ⟨_, h1⟩
  · exact ⟨_, h2⟩
theorem SrcAt.fresh {c : Zc} {H : Hp} (s : SrcAt c H) {a : Addr} (h : H a = none) : ¬ c.has a := fun k => by
  obtain ⟨o, e⟩ := s.there k
  rw [h] at e; cases e
theorem SrcAt.new {c : Zc} {H : Hp} (s : SrcAt c H) {a : Addr} {o : HO} (h : H a = none) : SrcAt c (upd H a o) := fun p hp => by
  obtain ⟨n, ns, l, m, t, a1, a2, a3, a4, a5, a6, h1, h2⟩ := s p hp
  exact ⟨n, ns, l, m, t, a1, a2, a3, a4, a5, a6, by rw [upd_ne (ne_of_none h1 h)]; exact h1, by rw [upd_ne (ne_of_none h2 h)]; exact h2⟩
/-- an own list or dict is changed -/
theorem SrcAt.own {c : Zc} {H : Hp} (s : SrcAt c H) {a : Addr} {o : HO} (h : ¬ c.has a) : SrcAt c (upd H a o) := fun p hp => by
  obtain ⟨n, ns, l, m, t, a1, a2, a3, a4, a5, a6, h1, h2⟩ := s p hp
  exact ⟨n, ns, l, m, t, a1, a2, a3, a4, a5, a6, by rw [upd_ne (fun z => h ⟨p, hp, .inl z.symm⟩)]; exact h1, by rw [upd_ne (fun z => h ⟨p, hp, .inr z.symm⟩)]; exact h2⟩
/-- no address of the source's -/
def NoS (c : Zc) (fp : List Addr) : Prop := ∀ a ∈ fp, ¬ c.has a
theorem Rp.ext {c : Zc} {H H' : Hp} {d : D} {v : V} {fp : List Addr} (h : Rp c H d v fp) (n : NoS c fp) (e : Ext c H H') (s : SrcAt c H) : Rp c H' d v fp :=
  h.mono (e.tk s) _ _ _ fun a ha => by
    obtain ⟨o, ho, _⟩ := h.there _ _ _ a ha
    rw [ho]
    exact e a o ho (n a ha)
theorem Rps.ext {c : Zc} {H H' : Hp} {d : List D} {v : List V} {fp : List Addr} (h : Rps c H d v fp) (n : NoS c fp) (e : Ext c H H') (s : SrcAt c H) : Rps c H' d v fp :=
  h.mono (e.tk s) _ _ _ fun a ha => by
    obtain ⟨o, ho, _⟩ := h.there _ _ _ a ha
    rw [ho]
    exact e a o ho (n a ha)

/-! ### environments -/
inductive Sl where
  | unk | val (d : D) | own (d : D)
abbrev En := List Sl

def SlotOk (c : Zc) (G H : Hp) : Sl → Option (Option V) → List Addr → Prop
  | .unk, _, fp => fp = []
  | .val d, o, fp => ∃ v, o = some (some v) ∧ Rp c H d v fp ∧ NoS c fp
  | .own d, o, fp => ∃ v, o = some (some v) ∧ Rp c H d v fp ∧ NoS c fp ∧ fp.Nodup ∧ ∀ a ∈ fp, G a = none

def isOwn : Option Sl → Prop
  | some (.own _) => True
  | _ => False

structure EnvAt (c : Zc) (G H : Hp) (ρ : En) (σ : L2.St) (fps : Nat → List Addr) : Prop where
  len : σ.length = ρ.length
  ext : Ext c G H
  src : SrcAt c H
  ok : ∀ i s, ρ[i]? = some s → SlotOk c G H s σ[i]? (fps i)
  sep : ∀ i j, i ≠ j → i < ρ.length → j < ρ.length → isOwn ρ[i]? → ∀ a ∈ fps i, a ∉ fps j

theorem SlotOk.there {c : Zc} {G H : Hp} {s : Sl} {o : Option (Option V)} {fp : List Addr} (h : SlotOk c G H s o fp) : ∀ a ∈ fp, ∃ u, H a = some u ∧ ¬ Fix u := by
  cases s with
  | unk =>
    have e : fp = [] := h
    rw [e]; intro a ha; cases ha
  | val d => obtain ⟨v, _, h1, _⟩ := h; exact h1.there
  | own d => obtain ⟨v, _, h1, _⟩ := h; exact h1.there
theorem SlotOk.noS {c : Zc} {G H : Hp} {s : Sl} {o : Option (Option V)} {fp : List Addr} (h : SlotOk c G H s o fp) : NoS c fp := by
  cases s with
  | unk =>
    have e : fp = [] := h
    rw [e]; intro a ha; cases ha
  | val d => obtain ⟨v, _, _, h1⟩ := h; exact h1
  | own d => obtain ⟨v, _, _, h1, _⟩ := h; exact h1
theorem SlotOk.ext {c : Zc} {G H H' : Hp} {s : Sl} {o : Option (Option V)} {fp : List Addr} (h : SlotOk c G H s o fp) (e : Ext c H H') (sr : SrcAt c H) : SlotOk c G H' s o fp := by
  cases s with
  | unk => exact h
  | val d => obtain ⟨v, h0, h1, h2⟩ := h; exact ⟨v, h0, h1.ext h2 e sr, h2⟩
  | own d => obtain ⟨v, h0, h1, h2, h3⟩ := h; exact ⟨v, h0, h1.ext h2 e sr, h2, h3⟩
theorem EnvAt.step {c : Zc} {G H H' : Hp} {ρ : En} {σ : St} {fps : Nat → List Addr} (E : EnvAt c G H ρ σ fps) (e : Ext c H H') (s : SrcAt c H') : EnvAt c G H' ρ σ fps :=
  ⟨E.len, E.ext.trans e, s, fun i sl h => (E.ok i sl h).ext e E.src, E.sep⟩
theorem EnvAt.thereAt {c : Zc} {G H : Hp} {ρ : En} {σ : St} {fps : Nat → List Addr} (E : EnvAt c G H ρ σ fps) {i : Nat} (hi : i < ρ.length) : ∀ a ∈ fps i, ∃ u, H a = some u ∧ ¬ Fix u :=
  (E.ok i ρ[i] (List.getElem?_eq_getElem hi)).there
theorem EnvAt.noS {c : Zc} {G H : Hp} {ρ : En} {σ : St} {fps : Nat → List Addr} (E : EnvAt c G H ρ σ fps) {i : Nat} (hi : i < ρ.length) : NoS c (fps i) :=
  (E.ok i ρ[i] (List.getElem?_eq_getElem hi)).noS

/-! ### judgements -/
/-- the addresses come out of new objects, or out of the slots U -/
def From (H : Hp) (fps : Nat → List Addr) (n : Nat) (U : List Nat) (fp : List Addr) : Prop := (∀ a ∈ fp, H a = none ∨ ∃ u ∈ U, u < n ∧ a ∈ fps u) ∧ (U = [] → fp.Nodup)

abbrev DM := En → (D → Prop) → Prop
/-- the reading te gives a datum as m says -/
def DE (K : PySem.W.Frag) (S : Option (Addr × Addr)) (te : TE) (m : DM) (U : List Nat) : Prop :=
  ∀ (G H : Hp) (ρ : En) (σ : L2.St) (fps : Nat → List Addr), EnvAt ⟨K, S⟩ G H ρ σ fps → ∀ R : D → Prop, m ρ R → ∀ Q : VK,
    (∀ d v H' fp, R d → Ext ⟨K, S⟩ H H' → SrcAt ⟨K, S⟩ H' → Rp ⟨K, S⟩ H' d v fp → NoS ⟨K, S⟩ fp → From H fps ρ.length U fp → Q v H') → te σ H Q
abbrev DMs := En → (List D → Prop) → Prop
def DA (K : PySem.W.Frag) (S : Option (Addr × Addr)) (ta : TA) (m : DMs) (U : List Nat) : Prop :=
  ∀ (G H : Hp) (ρ : En) (σ : L2.St) (fps : Nat → List Addr), EnvAt ⟨K, S⟩ G H ρ σ fps → ∀ R : List D → Prop, m ρ R → ∀ Q : List V → Hp → Prop,
    (∀ ds vs H' fp, R ds → Ext ⟨K, S⟩ H H' → SrcAt ⟨K, S⟩ H' → Rps ⟨K, S⟩ H' ds vs fp → NoS ⟨K, S⟩ fp → From H fps ρ.length U fp → Q vs H') → ta σ H Q
abbrev DMt := En → (Bool → Prop) → Prop
def DT (K : PySem.W.Frag) (S : Option (Addr × Addr)) (tt : TT) (m : DMt) : Prop :=
  ∀ (G H : Hp) (ρ : En) (σ : L2.St) (fps : Nat → List Addr), EnvAt ⟨K, S⟩ G H ρ σ fps → ∀ R : Bool → Prop, m ρ R → ∀ Q : Bool → Hp → Prop,
    (∀ b H', R b → Ext ⟨K, S⟩ H H' → SrcAt ⟨K, S⟩ H' → Q b H') → tt σ H Q

structure DEnds where
  nx : En → Prop
  rt : D → Prop
  bk : En → Prop := fun _ => False
  ct : En → Prop := fun _ => False
/-- all slots but those of W as they were -/
structure Off (W : List Nat) (σ σ' : L2.St) : Prop where
  len : σ'.length = σ.length
  off : ∀ j, j ∉ W → σ'[j]? = σ[j]?
structure EndsOk (K : PySem.W.Frag) (S : Option (Addr × Addr)) (G : Hp) (W : List Nat) (σ : L2.St) (R : DEnds) (D : Ends) : Prop where
  nx : ∀ ρ' σ' H' fps', R.nx ρ' → EnvAt ⟨K, S⟩ G H' ρ' σ' fps' → Off W σ σ' → D.nx σ' H'
  bk : ∀ ρ' σ' H' fps', R.bk ρ' → EnvAt ⟨K, S⟩ G H' ρ' σ' fps' → Off W σ σ' → D.bk σ' H'
  ct : ∀ ρ' σ' H' fps', R.ct ρ' → EnvAt ⟨K, S⟩ G H' ρ' σ' fps' → Off W σ σ' → D.ct σ' H'
  rt : ∀ d v H' fp, R.rt d → Ext ⟨K, S⟩ G H' → SrcAt ⟨K, S⟩ H' → Rp ⟨K, S⟩ H' d v fp → NoS ⟨K, S⟩ fp → fp.Nodup → (∀ a ∈ fp, G a = none) → D.rt v H'
abbrev DMS := En → DEnds → Prop
/-- the statement's reading, as m says; W: the slots that it stores or whose objects it changes -/
def DS (K : PySem.W.Frag) (S : Option (Addr × Addr)) (ts : TS) (m : DMS) (W : List Nat) : Prop :=
  ∀ (G H : Hp) (ρ : En) (σ : L2.St) (fps : Nat → List Addr), EnvAt ⟨K, S⟩ G H ρ σ fps → ∀ R : DEnds, m ρ R → ∀ D : Ends, EndsOk K S G W σ R D → ts D σ H
end Z

set_option Elab.async false
set_option linter.all false
set_option maxRecDepth 100000
set_option maxHeartbeats 2000000
/-! Z1: expressions, arguments, tests. -/
namespace Z
open PySem L2

section
variable {K : PySem.W.Frag} {S : Option (Addr × Addr)} {fps : Nat → List Addr} {n : Nat}

/-! ### where addresses come from -/
theorem From.nil {H : Hp} {U : List Nat} : From H fps n U [] := ⟨fun a h => (by cases h), fun _ => List.nodup_nil⟩
theorem From.fresh {H : Hp} {U : List Nat} {fp : List Addr} (h : ∀ a ∈ fp, H a = none) (d : fp.Nodup) : From H fps n U fp := ⟨fun a ha => .inl (h a ha), fun _ => d⟩
theorem From.new {H : Hp} {U : List Nat} {a : Addr} (h : H a = none) : From H fps n U [a] := .fresh (fun b hb => by rw [List.mem_singleton.mp hb]; exact h) (List.pairwise_singleton _ _)
theorem From.back {c : Zc} {H H1 : Hp} {U : List Nat} {fp : List Addr} (f : From H1 fps n U fp) (e : Ext c H H1) (ns : NoS c fp) : From H fps n U fp :=
  ⟨fun a ha => (f.1 a ha).imp (fun z => e.free z (ns a ha)) id, f.2⟩
theorem From.sub {H : Hp} {U V : List Nat} {fp : List Addr} (f : From H fps n U fp) (h : ∀ u ∈ U, u ∈ V) (hne : V = [] → U = []) : From H fps n V fp :=
  ⟨fun a ha => (f.1 a ha).imp id fun ⟨u, hu, e⟩ => ⟨u, h u hu, e⟩, fun z => f.2 (hne z)⟩
theorem From.part {H : Hp} {U : List Nat} {fp gp : List Addr} (f : From H fps n U fp) (h : ∀ a ∈ gp, a ∈ fp) (hn : fp.Nodup → gp.Nodup) : From H fps n U gp :=
  ⟨fun a ha => f.1 a (h a ha), fun z => hn (f.2 z)⟩
theorem From.off {H : Hp} {fp : List Addr} (f : From H fps n [] fp) : ∀ a ∈ fp, H a = none := fun a ha => by
  rcases f.1 a ha with z | ⟨u, hu, _⟩
  · exact z
  · cases hu
/-- one after the other -/
theorem From.app {c : Zc} {H H1 : Hp} {U V : List Nat} {fp gp : List Addr} (f : From H fps n U fp) (g : From H1 fps n V gp) (e : Ext c H H1) (ns : NoS c gp) (th : ∀ a ∈ fp, ∃ o, H1 a = some o) : From H fps n (U ++ V) (fp ++ gp) := by
  have g' := g.back e ns
  refine ⟨fun a ha => ?_, fun z => ?_⟩
  · rcases List.mem_append.mp ha with ha | ha
    · exact (f.1 a ha).imp id fun ⟨u, hu, q⟩ => ⟨u, List.mem_append_left _ hu, q⟩
    · exact (g'.1 a ha).imp id fun ⟨u, hu, q⟩ => ⟨u, List.mem_append_right _ hu, q⟩
  · obtain ⟨z1, z2⟩ := List.append_eq_nil_iff.mp z
    subst z1 z2
    refine List.nodup_append.mpr ⟨f.2 rfl, g.2 rfl, fun a ha b hb q => ?_⟩
    subst q
    obtain ⟨o, ho⟩ := th a ha
    rw [g.off a hb] at ho
    cases ho
theorem NoS.app {c : Zc} {fp gp : List Addr} (h : NoS c fp) (k : NoS c gp) : NoS c (fp ++ gp) := fun a ha => (List.mem_append.mp ha).elim (h a) (k a)
theorem NoS.nil {c : Zc} : NoS c [] := fun a h => by cases h

/-! ### names, constants -/
def look (s : Option Sl) (R : D → Prop) : Prop := match s with
  | some (.val d) => R d
  | some (.own d) => R d
  | _ => False
def dVar (i : Nat) : DM := fun ρ R => look ρ[i]? R
theorem de_var (i : Nat) : DE K S (tVar i) (dVar i) [i] := fun G H ρ σ fps E R hm Q q => by
  unfold dVar look at hm
  have key : ∀ d sl, ρ[i]? = some sl → (sl = .val d ∨ sl = .own d) → R d → tVar i σ H Q := fun d sl e hs hR => by
    have hi : i < ρ.length := (List.getElem?_eq_some_iff.mp e).1
    have ok := E.ok i sl e
    have th := E.thereAt hi
    rcases hs with rfl | rfl
    · obtain ⟨v, e1, h1, h2⟩ := ok
      exact ⟨v, e1, q d v H _ hR (Ext.refl _ _) E.src h1 h2 ⟨fun a ha => .inr ⟨i, List.mem_singleton.mpr rfl, hi, ha⟩, fun z => by cases z⟩⟩
    · obtain ⟨v, e1, h1, h2, _⟩ := ok
      exact ⟨v, e1, q d v H _ hR (Ext.refl _ _) E.src h1 h2 ⟨fun a ha => .inr ⟨i, List.mem_singleton.mpr rfl, hi, ha⟩, fun z => by cases z⟩⟩
  split at hm
  · rename_i d e; exact key d _ e (.inl rfl) hm
  · rename_i d e; exact key d _ e (.inr rfl) hm
  · exact hm.elim
def dC (d : D) : DM := fun _ R => R d
theorem de_c {d : D} {v : V} (h : ∀ H : Hp, Rp ⟨K, S⟩ H d v []) : DE K S (tC v) (dC d) [] := fun G H ρ σ fps E R hm Q q => q d v H [] hm (Ext.refl _ _) E.src (h H) .nil .nil
theorem de_int {i : Int} : DE K S (tC (.int i)) (dC (.int i)) [] := de_c fun H => by simp [Rp]
theorem de_bl {b : Bool} : DE K S (tC (.bl b)) (dC (.bool b)) [] := de_c fun H => by simp [Rp]
theorem de_non : DE K S (tC .non) (dC .none) [] := de_c fun H => by simp [Rp]
theorem de_str {x : Str} : DE K S (tC (.str x)) (dC (.str x)) [] := de_c fun H => by simp [Rp]
/-- nothing in it can change -/
def dSolid (m : DM) : DM := fun ρ R => m ρ fun d => solid d = true ∧ R d
theorem de_solid {te : TE} {m : DM} {U : List Nat} (h : DE K S te m U) : DE K S te (dSolid m) [] := fun G H ρ σ fps E R hm Q q =>
  h G H ρ σ fps E _ hm Q fun d v H' fp hR e s r ns f => by
    have z := r.solid _ _ _ hR.1
    subst z
    exact q d v H' [] hR.2 e s r ns .nil
theorem DE.up {te : TE} {m : DM} {U V : List Nat} (h : DE K S te m U) (hs : ∀ u ∈ U, u ∈ V) (hne : V = [] → U = []) : DE K S te m V := fun G H ρ σ fps E R hm Q q =>
  h G H ρ σ fps E R hm Q fun d v H' fp hR e s r ns f => q d v H' fp hR e s r ns (f.sub hs hne)

/-! ### argument lists -/
def dNil : DMs := fun _ R => R []
def dCons (m : DM) (ms : DMs) : DMs := fun ρ R => m ρ fun d => ms ρ fun ds => R (d :: ds)
theorem da_nil : DA K S tNil dNil [] := fun G H ρ σ fps E R hm Q q => q [] [] H [] hm (Ext.refl _ _) E.src .nil .nil .nil
theorem da_cons {te : TE} {t : TA} {m : DM} {ms : DMs} {U V : List Nat} (h1 : DE K S te m U) (h2 : DA K S t ms V) : DA K S (tCons te t) (dCons m ms) (U ++ V) := fun G H ρ σ fps E R hm Q q =>
  h1 G H ρ σ fps E _ hm _ fun d v H1 fp hR e1 s1 r1 n1 f1 =>
    h2 G H1 ρ σ fps (E.step e1 s1) _ hR _ fun ds vs H2 gp hR2 e2 s2 r2 n2 f2 =>
      q (d :: ds) (v :: vs) H2 (fp ++ gp) hR2 (e1.trans e2) s2 (.cons (r1.ext n1 e2 s1) r2) (n1.app n2) (f1.app f2 e1 n2 fun a ha => let ⟨o, ho, _⟩ := r1.there _ _ _ a ha; ⟨o, ho⟩)

/-! ### operations on values -/
/-- of two data, a new datum -/
def OpD (K : PySem.W.Frag) (S : Option (Addr × Addr)) (r : R2) (f : D → D → (D → Prop) → Prop) : Prop :=
  ∀ (H : Hp) (x y : V) (d e : D) (f1 f2 : List Addr), SrcAt ⟨K, S⟩ H → Rp ⟨K, S⟩ H d x f1 → NoS ⟨K, S⟩ f1 → Rp ⟨K, S⟩ H e y f2 → NoS ⟨K, S⟩ f2 → ∀ R, f d e R → ∀ Q : VK,
    (∀ z v H' fp, R z → Ext ⟨K, S⟩ H H' → SrcAt ⟨K, S⟩ H' → Rp ⟨K, S⟩ H' z v fp → NoS ⟨K, S⟩ fp → fp.Nodup → (∀ a ∈ fp, H a = none) → Q v H') → r x y H Q
/-- of a list of data, a new datum -/
def CallD (K : PySem.W.Frag) (S : Option (Addr × Addr)) (r : List V → Hp → VK → Prop) (f : List D → (D → Prop) → Prop) : Prop :=
  ∀ (H : Hp) (xs : List V) (ds : List D) (fp0 : List Addr), SrcAt ⟨K, S⟩ H → Rps ⟨K, S⟩ H ds xs fp0 → NoS ⟨K, S⟩ fp0 → ∀ R, f ds R → ∀ Q : VK,
    (∀ z v H' fp, R z → Ext ⟨K, S⟩ H H' → SrcAt ⟨K, S⟩ H' → Rp ⟨K, S⟩ H' z v fp → NoS ⟨K, S⟩ fp → fp.Nodup → (∀ a ∈ fp, H a = none) → Q v H') → r xs H Q
def UnD (K : PySem.W.Frag) (S : Option (Addr × Addr)) (r : V → Hp → VK → Prop) (f : D → (D → Prop) → Prop) : Prop :=
  ∀ (H : Hp) (x : V) (d : D) (fp0 : List Addr), SrcAt ⟨K, S⟩ H → Rp ⟨K, S⟩ H d x fp0 → NoS ⟨K, S⟩ fp0 → ∀ R, f d R → ∀ Q : VK,
    (∀ z v H' fp, R z → Ext ⟨K, S⟩ H H' → SrcAt ⟨K, S⟩ H' → Rp ⟨K, S⟩ H' z v fp → NoS ⟨K, S⟩ fp → fp.Nodup → (∀ a ∈ fp, H a = none) → Q v H') → r x H Q
/-- .. whose lists are the first operand's -/
def OpA (K : PySem.W.Frag) (S : Option (Addr × Addr)) (r : R2) (f : D → D → (D → Prop) → Prop) : Prop :=
  ∀ (H : Hp) (x y : V) (d e : D) (f1 f2 : List Addr), SrcAt ⟨K, S⟩ H → Rp ⟨K, S⟩ H d x f1 → NoS ⟨K, S⟩ f1 → Rp ⟨K, S⟩ H e y f2 → NoS ⟨K, S⟩ f2 → ∀ R, f d e R → ∀ Q : VK,
    (∀ z v fp, R z → Rp ⟨K, S⟩ H z v fp → (∀ a ∈ fp, a ∈ f1) → (f1.Nodup → fp.Nodup) → Q v H) → r x y H Q

def dBin (f : D → D → (D → Prop) → Prop) (ma mb : DM) : DM := fun ρ R => ma ρ fun x => mb ρ fun y => f x y R
def dUn (f : D → (D → Prop) → Prop) (ma : DM) : DM := fun ρ R => ma ρ fun x => f x R
def dCall (f : List D → (D → Prop) → Prop) (ms : DMs) : DM := fun ρ R => ms ρ fun ds => f ds R
theorem de_op {r : R2} {f : D → D → (D → Prop) → Prop} {ta tb : TE} {ma mb : DM} {U V : List Nat} (h : OpD K S r f) (h1 : DE K S ta ma U) (h2 : DE K S tb mb V) : DE K S (tOp r ta tb) (dBin f ma mb) [] := fun G H ρ σ fps E R hm Q q =>
  h1 G H ρ σ fps E _ hm _ fun d v H1 fp hR e1 s1 r1 n1 f1 =>
    h2 G H1 ρ σ fps (E.step e1 s1) _ hR _ fun e w H2 gp hR2 e2 s2 r2 n2 f2 =>
      h H2 v w d e fp gp s2 (r1.ext n1 e2 s1) n1 r2 n2 _ hR2 _ fun z u H3 kp hz e3 s3 r3 n3 nd fr =>
        q z u H3 kp hz ((e1.trans e2).trans e3) s3 r3 n3 (.fresh (fun a ha => (e1.trans e2).free (fr a ha) (n3 a ha)) nd)
theorem de_opA {r : R2} {f : D → D → (D → Prop) → Prop} {ta tb : TE} {ma mb : DM} {U V : List Nat} (h : OpA K S r f) (h1 : DE K S ta ma U) (h2 : DE K S tb mb V) : DE K S (tOp r ta tb) (dBin f ma mb) U := fun G H ρ σ fps E R hm Q q =>
  h1 G H ρ σ fps E _ hm _ fun d v H1 fp hR e1 s1 r1 n1 f1 =>
    h2 G H1 ρ σ fps (E.step e1 s1) _ hR _ fun e w H2 gp hR2 e2 s2 r2 n2 f2 =>
      h H2 v w d e fp gp s2 (r1.ext n1 e2 s1) n1 r2 n2 _ hR2 _ fun z u kp hz r3 sub nd =>
        q z u H2 kp hz (e1.trans e2) s2 r3 (fun a ha => n1 a (sub a ha)) (f1.part sub nd)
theorem de_un {r : V → Hp → VK → Prop} {f : D → (D → Prop) → Prop} {ta : TE} {ma : DM} {U : List Nat} (h : UnD K S r f) (h1 : DE K S ta ma U) : DE K S (tUn r ta) (dUn f ma) [] := fun G H ρ σ fps E R hm Q q =>
  h1 G H ρ σ fps E _ hm _ fun d v H1 fp hR e1 s1 r1 n1 f1 =>
    h H1 v d fp s1 r1 n1 _ hR _ fun z u H3 kp hz e3 s3 r3 n3 nd fr =>
      q z u H3 kp hz (e1.trans e3) s3 r3 n3 (.fresh (fun a ha => e1.free (fr a ha) (n3 a ha)) nd)
theorem de_cb {r : List V → Hp → VK → Prop} {f : List D → (D → Prop) → Prop} {t : TA} {ms : DMs} {U : List Nat} (h : CallD K S r f) (h1 : DA K S t ms U) : DE K S (tCB r t) (dCall f ms) [] := fun G H ρ σ fps E R hm Q q =>
  h1 G H ρ σ fps E _ hm _ fun d v H1 fp hR e1 s1 r1 n1 f1 =>
    h H1 v d fp s1 r1 n1 _ hR _ fun z u H3 kp hz e3 s3 r3 n3 nd fr =>
      q z u H3 kp hz (e1.trans e3) s3 r3 n3 (.fresh (fun a ha => e1.free (fr a ha) (n3 a ha)) nd)

/-- answers without objects -/
theorem OpD.pure {r : R2} {f : D → D → (D → Prop) → Prop} (h : ∀ (H : Hp) (x y : V) (d e : D) (f1 f2 : List Addr), Rp ⟨K, S⟩ H d x f1 → Rp ⟨K, S⟩ H e y f2 → ∀ R, f d e R → ∀ Q : VK, (∀ z v, R z → (∀ H, Rp ⟨K, S⟩ H z v []) → Q v H) → r x y H Q) : OpD K S r f :=
  fun H x y d e f1 f2 s r1 n1 r2 n2 R hf Q q => h H x y d e f1 f2 r1 r2 R hf Q fun z v hz rz => q z v H [] hz (Ext.refl _ _) s (rz H) .nil List.nodup_nil fun a ha => by cases ha
theorem CallD.pure {r : List V → Hp → VK → Prop} {f : List D → (D → Prop) → Prop} (h : ∀ (H : Hp) (xs : List V) (ds : List D) (fp : List Addr), Rps ⟨K, S⟩ H ds xs fp → ∀ R, f ds R → ∀ Q : VK, (∀ z v, R z → (∀ H, Rp ⟨K, S⟩ H z v []) → Q v H) → r xs H Q) : CallD K S r f :=
  fun H xs ds fp s r1 n1 R hf Q q => h H xs ds fp r1 R hf Q fun z v hz rz => q z v H [] hz (Ext.refl _ _) s (rz H) .nil List.nodup_nil fun a ha => by cases ha
theorem UnD.pure {r : V → Hp → VK → Prop} {f : D → (D → Prop) → Prop} (h : ∀ (H : Hp) (x : V) (d : D) (fp : List Addr), Rp ⟨K, S⟩ H d x fp → ∀ R, f d R → ∀ Q : VK, (∀ z v, R z → (∀ H, Rp ⟨K, S⟩ H z v []) → Q v H) → r x H Q) : UnD K S r f :=
  fun H x d fp s r1 n1 R hf Q q => h H x d fp r1 R hf Q fun z v hz rz => q z v H [] hz (Ext.refl _ _) s (rz H) .nil List.nodup_nil fun a ha => by cases ha

/-! ### ints -/
def asI (d : D) (k : Int → Prop) : Prop := match d with
  | .int i => k i
  | _ => False
theorem asI_ok {d : D} {k : Int → Prop} (h : asI d k) : ∃ i, d = .int i ∧ k i := by
  unfold asI at h
  split at h
  · exact ⟨_, rfl, h⟩
  · exact h.elim
theorem rp_int {c : Zc} {H : Hp} {i : Int} {v : V} {fp : List Addr} (h : Rp c H (.int i) v fp) : v = .int i := by simp only [Rp] at h; exact h.1
theorem int_rp {c : Zc} {i : Int} (H : Hp) : Rp c H (.int i) (.int i) [] := by simp [Rp]
theorem bl_rp {c : Zc} {b : Bool} (H : Hp) : Rp c H (.bool b) (.bl b) [] := by simp [Rp]
theorem str_rp {c : Zc} {x : Str} (H : Hp) : Rp c H (.str x) (.str x) [] := by simp [Rp]
theorem non_rp {c : Zc} (H : Hp) : Rp c H .none .non [] := by simp [Rp]
def f2I (g : Int → Int → D) : D → D → (D → Prop) → Prop := fun x y R => asI x fun i => asI y fun j => R (g i j)
def f2IC (C : Int → Int → Prop) (g : Int → Int → D) : D → D → (D → Prop) → Prop := fun x y R => asI x fun i => asI y fun j => C i j ∧ R (g i j)
theorem od_I0 {g : Int → Int → Int} : OpD K S (rI0 fun i j => .int (g i j)) (f2I fun i j => .int (g i j)) := .pure fun H x y d e f1 f2 r1 r2 R hf Q q => by
  obtain ⟨i, rfl, h1⟩ := asI_ok hf
  obtain ⟨j, rfl, h2⟩ := asI_ok h1
  exact ⟨i, j, rp_int r1, rp_int r2, q _ _ h2 int_rp⟩
theorem od_B0 {g : Int → Int → Bool} : OpD K S (rI0 fun i j => .bl (g i j)) (f2I fun i j => .bool (g i j)) := .pure fun H x y d e f1 f2 r1 r2 R hf Q q => by
  obtain ⟨i, rfl, h1⟩ := asI_ok hf
  obtain ⟨j, rfl, h2⟩ := asI_ok h1
  exact ⟨i, j, rp_int r1, rp_int r2, q _ _ h2 bl_rp⟩
theorem od_IC {C : Int → Int → Prop} {g : Int → Int → Int} : OpD K S (rI C fun i j => .int (g i j)) (f2IC C fun i j => .int (g i j)) := .pure fun H x y d e f1 f2 r1 r2 R hf Q q => by
  obtain ⟨i, rfl, h1⟩ := asI_ok hf
  obtain ⟨j, rfl, hc, h2⟩ := asI_ok h1
  exact ⟨i, j, rp_int r1, rp_int r2, hc, q _ _ h2 int_rp⟩
def f1I (g : Int → D) : D → (D → Prop) → Prop := fun x R => asI x fun i => R (g i)
theorem ud_I {g : Int → Int} : UnD K S (rU fun i => .int (g i)) (f1I fun i => .int (g i)) := .pure fun H x d fp r1 R hf Q q => by
  obtain ⟨i, rfl, hf⟩ := asI_ok hf
  exact ⟨i, rp_int r1, q _ _ hf int_rp⟩

/-! ### tests -/
def asB (d : D) (k : Bool → Prop) : Prop := match d with
  | .bool b => k b
  | _ => False
theorem asB_ok {d : D} {k : Bool → Prop} (h : asB d k) : ∃ i, d = .bool i ∧ k i := by
  unfold asB at h
  split at h
  · exact ⟨_, rfl, h⟩
  · exact h.elim
theorem rp_bl {c : Zc} {H : Hp} {i : Bool} {v : V} {fp : List Addr} (h : Rp c H (.bool i) v fp) : v = .bl i := by simp only [Rp] at h; exact h.1
def dTest (m : DM) : DMt := fun ρ R => m ρ fun d => asB d R
theorem dt_val {te : TE} {m : DM} {U : List Nat} (h : DE K S te m U) : DT K S (tTest te) (dTest m) := fun G H ρ σ fps E R hm Q q =>
  h G H ρ σ fps E _ hm _ fun d v H' fp hR e s r ns f => by
    obtain ⟨b, rfl, hb⟩ := asB_ok hR
    exact ⟨b, rp_bl r, q b H' hb e s⟩
theorem dt_valB {te : TE} {m : DM} {U : List Nat} (h : DE K S te m U) : DT K S (tB te) (dTest m) := dt_val h
def dAnd (m1 m2 : DMt) : DMt := fun ρ R => m1 ρ fun b => cond b (m2 ρ R) (R false)
def dOr (m1 m2 : DMt) : DMt := fun ρ R => m1 ρ fun b => cond b (R true) (m2 ρ R)
def dNot (m : DMt) : DMt := fun ρ R => m ρ fun b => R (!b)
theorem dt_and {t u : TT} {m1 m2 : DMt} (h1 : DT K S t m1) (h2 : DT K S u m2) : DT K S (tAnd t u) (dAnd m1 m2) := fun G H ρ σ fps E R hm Q q =>
  h1 G H ρ σ fps E _ hm _ fun b H1 hR e1 s1 => by
    cases b with
    | true => exact iteT (h2 G H1 ρ σ fps (E.step e1 s1) R hR Q fun b H' hb e s => q b H' hb (e1.trans e) s)
    | false => exact iteF (q false H1 hR e1 s1)
theorem dt_or {t u : TT} {m1 m2 : DMt} (h1 : DT K S t m1) (h2 : DT K S u m2) : DT K S (tOr t u) (dOr m1 m2) := fun G H ρ σ fps E R hm Q q =>
  h1 G H ρ σ fps E _ hm _ fun b H1 hR e1 s1 => by
    cases b with
    | false => exact iteF (h2 G H1 ρ σ fps (E.step e1 s1) R hR Q fun b H' hb e s => q b H' hb (e1.trans e) s)
    | true => exact iteT (q true H1 hR e1 s1)
theorem dt_not {t : TT} {m : DMt} (h : DT K S t m) : DT K S (tNot t) (dNot m) := fun G H ρ σ fps E R hm Q q =>
  h G H ρ σ fps E _ hm _ fun b H1 hR e1 s1 => q (!b) H1 hR e1 s1
def dYes : DMt := fun _ R => R true
theorem dt_yes : DT K S tYes dYes := fun G H ρ σ fps E R hm Q q => q true H hm (Ext.refl _ _) E.src
/-- and, or, not as values -/
def dAndV (m1 m2 : DM) : DM := fun ρ R => m1 ρ fun d => asB d fun b => cond b (m2 ρ R) (R (.bool false))
def dOrV (m1 m2 : DM) : DM := fun ρ R => m1 ρ fun d => asB d fun b => cond b (R (.bool true)) (m2 ρ R)
def dNotV (m : DM) : DM := fun ρ R => m ρ fun d => asB d fun b => R (.bool (!b))
theorem de_andV {ta tb : TE} {ma mb : DM} {U V : List Nat} (h1 : DE K S ta ma U) (h2 : DE K S tb mb V) : DE K S (tAndV ta tb) (dAndV ma mb) V := fun G H ρ σ fps E R hm Q q =>
  h1 G H ρ σ fps E _ hm _ fun d v H1 fp hR e1 s1 r1 n1 f1 => by
    obtain ⟨b, rfl, hb⟩ := asB_ok hR
    refine ⟨b, rp_bl r1, ?_⟩
    cases b with
    | true => exact iteT (h2 G H1 ρ σ fps (E.step e1 s1) R hb Q fun d v H' fp hd e s r ns f => q d v H' fp hd (e1.trans e) s r ns (f.back e1 ns))
    | false => exact iteF (q _ _ H1 [] hb e1 s1 (bl_rp H1) .nil .nil)
theorem de_orV {ta tb : TE} {ma mb : DM} {U V : List Nat} (h1 : DE K S ta ma U) (h2 : DE K S tb mb V) : DE K S (tOrV ta tb) (dOrV ma mb) V := fun G H ρ σ fps E R hm Q q =>
  h1 G H ρ σ fps E _ hm _ fun d v H1 fp hR e1 s1 r1 n1 f1 => by
    obtain ⟨b, rfl, hb⟩ := asB_ok hR
    refine ⟨b, rp_bl r1, ?_⟩
    cases b with
    | false => exact iteF (h2 G H1 ρ σ fps (E.step e1 s1) R hb Q fun d v H' fp hd e s r ns f => q d v H' fp hd (e1.trans e) s r ns (f.back e1 ns))
    | true => exact iteT (q _ _ H1 [] hb e1 s1 (bl_rp H1) .nil .nil)
theorem de_notV {ta : TE} {ma : DM} {U : List Nat} (h1 : DE K S ta ma U) : DE K S (tNotV ta) (dNotV ma) [] := fun G H ρ σ fps E R hm Q q =>
  h1 G H ρ σ fps E _ hm _ fun d v H1 fp hR e1 s1 r1 n1 f1 => by
    obtain ⟨b, rfl, hb⟩ := asB_ok hR
    exact ⟨b, rp_bl r1, q _ _ H1 [] hb e1 s1 (bl_rp H1) .nil .nil⟩
def dIf (c : DMt) (m1 m2 : DM) : DM := fun ρ R => c ρ fun b => cond b (m1 ρ R) (m2 ρ R)
theorem de_if {t : TT} {ta tb : TE} {mc : DMt} {ma mb : DM} {U V : List Nat} (hc : DT K S t mc) (h1 : DE K S ta ma U) (h2 : DE K S tb mb V) : DE K S (tIf t ta tb) (dIf mc ma mb) (U ++ V) := fun G H ρ σ fps E R hm Q q =>
  hc G H ρ σ fps E _ hm _ fun b H1 hR e1 s1 => by
    cases b with
    | true => exact iteT (h1 G H1 ρ σ fps (E.step e1 s1) R hR Q fun d v H' fp hd e s r ns f => q d v H' fp hd (e1.trans e) s r ns ((f.back e1 ns).sub (fun u hu => List.mem_append_left _ hu) fun z => (List.append_eq_nil_iff.mp z).1))
    | false => exact iteF (h2 G H1 ρ σ fps (E.step e1 s1) R hR Q fun d v H' fp hd e s r ns f => q d v H' fp hd (e1.trans e) s r ns ((f.back e1 ns).sub (fun u hu => List.mem_append_right _ hu) fun z => (List.append_eq_nil_iff.mp z).2))

/-! ### displays -/
theorem lim_ok {n : Nat} (h : n ≤ 10000000) : n ≤ sizeLine := Nat.le_trans h (by rw [sizeLine_eq]; decide)
def dTup (ms : DMs) : DM := fun ρ R => ms ρ fun ds => ds.length ≤ 10000000 ∧ R (.tuple ds)
theorem de_tup {t : TA} {ms : DMs} {U : List Nat} (h : DA K S t ms U) : DE K S (tTup t) (dTup ms) U := fun G H ρ σ fps E R hm Q q =>
  h G H ρ σ fps E _ hm _ fun ds vs H1 fp hR e1 s1 r1 n1 f1 => ⟨by rw [r1.len]; exact lim_ok hR.1, fun p hp => by
    have e2 : Ext ⟨K, S⟩ H1 (upd H1 p (.tup vs)) := Ext.new hp
    refine q (.tuple ds) (.ref p) _ fp hR.2 (e1.trans e2) (s1.new hp) ?_ n1 f1
    simp only [Rp]
    exact ⟨p, vs, rfl, .of upd_same, r1.ext n1 e2 s1⟩⟩
def dLst (ms : DMs) : DM := fun ρ R => ms ρ fun ds => ds.length ≤ 10000000 ∧ R (.list ds)
theorem de_lst {t : TA} {ms : DMs} {U : List Nat} (h : DA K S t ms U) : DE K S (tLst t) (dLst ms) U := fun G H ρ σ fps E R hm Q q =>
  h G H ρ σ fps E _ hm _ fun ds vs H1 fp hR e1 s1 r1 n1 f1 => ⟨by rw [r1.len]; exact lim_ok hR.1, fun p hp => by
    have e2 : Ext ⟨K, S⟩ H1 (upd H1 p (.lst vs)) := Ext.new hp
    have hpn := s1.fresh hp
    refine q (.list ds) (.ref p) _ (p :: fp) hR.2 (e1.trans e2) (s1.new hp) ?_ ?_ ⟨fun a ha => ?_, fun z => ?_⟩
    · simp only [Rp]
      exact ⟨p, vs, fp, rfl, rfl, upd_same, r1.ext n1 e2 s1⟩
    · intro a ha
      rcases List.mem_cons.mp ha with rfl | ha
      · exact hpn
      · exact n1 a ha
    · rcases List.mem_cons.mp ha with rfl | ha
      · exact .inl (e1.free hp hpn)
      · exact f1.1 a ha
    · refine List.nodup_cons.mpr ⟨fun hm => ?_, f1.2 z⟩
      obtain ⟨o, ho, _⟩ := r1.there _ _ _ p hm
      rw [hp] at ho
      cases ho⟩
end
end Z

set_option Elab.async false
set_option linter.all false
set_option maxRecDepth 100000
set_option maxHeartbeats 2000000
/-! Z2: what is walked; targets; comprehensions. -/
namespace Z
open PySem L2

section
variable {K : PySem.W.Frag} {S : Option (Addr × Addr)}

/-! ### what is walked -/
/-- J gives ds, one by one, while the objects at FP stay -/
def IterOk (c : Zc) (J : It) (H1 : Hp) (ds : List D) (FP : List Addr) : Prop :=
  Walk J ds.length (fun H' => Tk H1 H' ∧ (∀ a ∈ FP, H' a = H1 a) ∧ SrcAt c H') (fun i H' x H'' => Ext c H' H'' ∧ SrcAt c H'' ∧ ∃ d fp, ds[i]? = some d ∧ Rp c H'' d x fp ∧ ∀ a ∈ fp, a ∈ FP)
def DI (K : PySem.W.Frag) (S : Option (Addr × Addr)) (wi : TI) (m : DMs) (U : List Nat) : Prop :=
  ∀ (G H : Hp) (ρ : En) (σ : L2.St) (fps : Nat → List Addr), EnvAt ⟨K, S⟩ G H ρ σ fps → ∀ R : List D → Prop, m ρ R → ∀ Q : It → Hp → Prop,
    (∀ ds J H1 FP, R ds → Ext ⟨K, S⟩ H H1 → SrcAt ⟨K, S⟩ H1 → IterOk ⟨K, S⟩ J H1 ds FP → NoS ⟨K, S⟩ FP → (∀ a ∈ FP, ∃ o, H1 a = some o) → From H fps ρ.length U FP → Q J H1) → wi σ H Q

theorem Rps.atV {c : Zc} {H : Hp} : ∀ {ds : List D} {xs : List V} {fp : List Addr} {i : Nat} {x : V}, Rps c H ds xs fp → xs[i]? = some x → ∃ d gp, ds[i]? = some d ∧ Rp c H d x gp ∧ (∀ a ∈ gp, a ∈ fp)
  | [], xs, fp, i, x, h, e => by
    simp only [Rps] at h
    rw [h.1] at e
    simp at e
  | d :: ds, xs, fp, i, x, h, e => by
    have hl := h.len
    have hi : i < (d :: ds).length := by rw [← hl]; exact (List.getElem?_eq_some_iff.mp e).1
    obtain ⟨y, gp, e1, h1, h2, _⟩ := h.at (List.getElem?_eq_getElem hi)
    rw [e] at e1
    cases e1
    exact ⟨_, gp, List.getElem?_eq_getElem hi, h1, h2⟩
/-- a list, a tuple, a text: its items -/
def items : D → Option (List D)
  | .list ds => some ds
  | .tuple ds => some ds
  | .str z => some (z.cps.toList.map fun c => .str ⟨#[c]⟩)
  | _ => none
def asItems (d : D) (k : List D → Prop) : Prop := match items d with
  | some ds => k ds
  | none => False
def iSeq (K : PySem.W.Frag) (tl : TE) : TI := fun σ H R => tl σ H fun x H1 =>
  (∃ a xs, x = .ref a ∧ SqL K H1 a xs ∧ R (Itl K a) H1) ∨ (∃ a xs, x = .ref a ∧ SqT K H1 a xs ∧ R (Itt K a) H1) ∨ (∃ z, x = .str z ∧ R (Its z) H1)
theorem pi_seq {X : Cx} {tg l : Expr} {tl : TE} (hl : PE X l tl) : PI X tg l (iSeq X.K tl) := ⟨fun pins s σ H R I h => by
  refine thn (hl.run pins s σ H _ I h) fun v s1 ⟨x, H1, I1, r1, q1⟩ => ?_
  have hf : ∀ b ∈ [s1.heap.objs.size], FpOk X pins H1 b := fun b hb => by
    rw [List.mem_singleton.mp hb]
    exact I1.fpOk (Nat.le_refl _) (I1.hok.fresh (Nat.le_refl _))
  rcases q1 with ⟨a, xs, rfl, hq, q⟩ | ⟨a, xs, rfl, hq, q⟩ | ⟨z, rfl, q⟩
  · cases r1
    obtain ⟨its, rv, pl, _⟩ := I1.list hq
    exact wpAny_pyIter_list pl.isList ⟨_, [_], _, _, H1, rfl, I1.kept (t' := s1.toks) fun b o e => Heap.get?_push_of_some _ e, turn_list a _, ⟨_, Heap.get?_push_size _ rfl, rfl, rfl⟩, hf, q⟩
  · cases r1
    obtain ⟨its, rv, pl, _⟩ := I1.tuple hq
    exact wpAny_pyIter_tuple (show s1.heap.IsTuple a its.toArray from pl) ⟨_, [_], _, _, H1, rfl, I1.kept (t' := s1.toks) fun b o e => Heap.get?_push_of_some _ e, turn_tuple a _, ⟨_, Heap.get?_push_size _ rfl, rfl, rfl⟩, hf, q⟩
  · obtain ⟨t, rfl⟩ := r1
    cases hw : z.cps.all (· < 128) with
    | false => exact PySem.wpAny_pyIter_wide hw (pi_one (tk := s1.toks) I1 _ (turn_str _ z t "str_iterator" (.inr rfl)) ⟨_, Heap.get?_push_size _ rfl, rfl, rfl⟩ q)
    | true => exact PySem.wpAny_pyIter_ascii hw (pi_one (tk := s1.toks) I1 _ (turn_str _ z t "str_ascii_iterator" (.inl rfl)) ⟨_, Heap.get?_push_size _ rfl, rfl, rfl⟩ q)⟩
def dItems (m : DM) : DMs := fun ρ R => m ρ fun d => asItems d R
theorem asItems_ok {d : D} {k : List D → Prop} (h : asItems d k) : ∃ ds, items d = some ds ∧ k ds := by
  unfold asItems at h
  split at h
  · exact ⟨_, by assumption, h⟩
  · exact h.elim
theorem iter_list {c : Zc} {H1 : Hp} {a : Addr} {xs : List V} {ds : List D} {gp FP : List Addr} (h : SqL c.K H1 a xs) (hk : ∀ H', Tk H1 H' → (∀ b ∈ FP, H' b = H1 b) → SqL c.K H' a xs) (r : Rps c H1 ds xs gp) (sub : ∀ b ∈ gp, b ∈ FP) : IterOk c (Itl c.K a) H1 ds FP := by
  have w := walk_list (K := c.K) (a := a) (xs := xs)
  rw [r.len] at w
  refine w.mono (fun H' g => hk H' g.1 g.2.1) fun i H' x H'' hi g y => ?_
  obtain ⟨rfl, e⟩ := y
  obtain ⟨d, fp, e1, e2, e3⟩ := (r.mono g.1 _ _ _ fun b hb => g.2.1 b (sub b hb)).atV e
  exact ⟨Ext.refl _ _, g.2.2, d, fp, e1, e2, fun b hb => sub b (e3 b hb)⟩
theorem iter_tup {c : Zc} {H1 : Hp} {a : Addr} {xs : List V} {ds : List D} {FP : List Addr} (h : SqT c.K H1 a xs) (r : Rps c H1 ds xs FP) : IterOk c (Itt c.K a) H1 ds FP := by
  have w := walk_tup (K := c.K) (a := a) (xs := xs)
  rw [r.len] at w
  refine w.mono (fun H' g => g.1.sq h) fun i H' x H'' hi g y => ?_
  obtain ⟨rfl, e⟩ := y
  obtain ⟨d, fp, e1, e2, e3⟩ := (r.mono g.1 _ _ _ g.2.1).atV e
  exact ⟨Ext.refl _ _, g.2.2, d, fp, e1, e2, e3⟩
theorem di_seq {te : TE} {m : DM} {U : List Nat} (h : DE K S te m U) : DI K S (iSeq K te) (dItems m) U := fun G H ρ σ fps E R hm Q q =>
  h G H ρ σ fps E _ hm _ fun d v H1 fp hR e1 s1 r1 n1 f1 => by
    obtain ⟨ds, hi, hR⟩ := asItems_ok hR
    have th : ∀ a ∈ fp, ∃ o, H1 a = some o := fun a ha => let ⟨o, ho, _⟩ := r1.there _ _ _ a ha; ⟨o, ho⟩
    cases d with
    | list es =>
      cases hi
      simp only [Rp] at r1
      obtain ⟨a, xs, gp, rfl, rfl, h1, h2⟩ := r1
      exact .inl ⟨a, xs, rfl, .of h1, q ds _ H1 _ hR e1 s1 (iter_list (c := ⟨K, S⟩) (.of h1) (fun H' _ k => .of (by rw [k a (List.mem_cons_self ..)]; exact h1)) h2 fun b hb => List.mem_cons_of_mem _ hb) n1 th f1⟩
    | tuple es =>
      cases hi
      simp only [Rp] at r1
      obtain ⟨a, xs, rfl, h1, h2⟩ := r1
      exact .inr (.inl ⟨a, xs, rfl, h1, q ds _ H1 _ hR e1 s1 (iter_tup (c := ⟨K, S⟩) h1 h2) n1 th f1⟩)
    | str z =>
      cases hi
      simp only [Rp] at r1
      obtain ⟨rfl, rfl⟩ := r1
      refine .inr (.inr ⟨z, rfl, q _ _ H1 [] hR e1 s1 ?_ n1 th f1⟩)
      have w := walk_str (z := z)
      rw [show z.cps.size = (z.cps.toList.map fun c => (.str ⟨#[c]⟩ : D)).length by simp] at w
      refine w.mono (fun _ _ => trivial) fun i H' x H'' hi g y => ?_
      obtain ⟨rfl, c, e1, rfl⟩ := y
      exact ⟨Ext.refl _ _, g.2.2, .str ⟨#[c]⟩, [], by simp [e1], str_rp _, fun a ha => ha⟩
    | none => cases hi
    | bool b => cases hi
    | int i => cases hi
    | dict kvs => cases hi

/-- range -/
def rangeD (lo : Int) (n : Nat) (c : Int) : List D := (List.range n).map fun i => .int (lo + (i : Nat) * c)
def dRng1 (ms : DMs) : DMs := fun ρ R => ms ρ fun ds => match ds with
  | [.int j] => (-1000000000 ≤ j ∧ j ≤ 1000000000) ∧ R (rangeD 0 j.toNat 1)
  | _ => False
def dRng2 (ms : DMs) : DMs := fun ρ R => ms ρ fun ds => match ds with
  | [.int i, .int j] => (-1000000000 ≤ i ∧ i ≤ 1000000000 ∧ -1000000000 ≤ j ∧ j ≤ 1000000000) ∧ R (rangeD i (j - i).toNat 1)
  | _ => False
theorem iter_range {c : Zc} {H1 : Hp} {lo : Int} {n : Nat} : IterOk c (Itr lo n) H1 (rangeD lo n 1) [] := by
  have w := walk_range (lo := lo) (n := n)
  have e : (rangeD lo n 1).length = n := by simp [rangeD]
  unfold IterOk
  rw [e]
  refine w.mono (fun _ _ => trivial) fun i H' x H'' hi g y => ?_
  obtain ⟨rfl, rfl⟩ := y
  exact ⟨Ext.refl _ _, g.2.2, .int (lo + i), [], by simp [rangeD, hi], int_rp _, fun a ha => ha⟩
theorem di_rng1 {t : TA} {ms : DMs} {U : List Nat} (h : DA K S t ms U) : DI K S (iRng1 t) (dRng1 ms) [] := fun G H ρ σ fps E R hm Q q =>
  h G H ρ σ fps E _ hm _ fun ds vs H1 fp hR e1 s1 r1 n1 f1 => by
    split at hR
    · rename_i j
      simp only [Rps] at r1
      obtain ⟨x, ys, g1, g2, rfl, rfl, h1, rfl, rfl⟩ := r1
      exact ⟨j, by rw [rp_int h1], by omega, by omega, q _ _ H1 [] hR.2 e1 s1 iter_range .nil (fun a ha => by cases ha) .nil⟩
    · exact hR.elim
theorem di_rng2 {t : TA} {ms : DMs} {U : List Nat} (h : DA K S t ms U) : DI K S (iRng2 t) (dRng2 ms) [] := fun G H ρ σ fps E R hm Q q =>
  h G H ρ σ fps E _ hm _ fun ds vs H1 fp hR e1 s1 r1 n1 f1 => by
    split at hR
    · rename_i i j
      simp only [Rps] at r1
      obtain ⟨x, ys, g1, g2, rfl, rfl, h1, y, zs, g3, g4, rfl, rfl, h2, rfl, rfl⟩ := r1
      exact ⟨i, j, by rw [rp_int h1, rp_int h2], by omega, q _ _ H1 [] hR.2 e1 s1 iter_range .nil (fun a ha => by cases ha) .nil⟩
    · exact hR.elim

/-! ### targets -/
/-- only the slots of W are stored: they hold what lies in fp -/
structure GOk (W : List Nat) (fp : List Addr) (ρ : En) (σ : L2.St) (fps : Nat → List Addr) (ρ' : En) (σ' : L2.St) (fps' : Nat → List Addr) : Prop where
  len : ρ'.length = ρ.length
  off : ∀ j, j ∉ W → σ'[j]? = σ[j]? ∧ ρ'[j]? = ρ[j]? ∧ fps' j = fps j
  on : ∀ j, j ∈ W → j < ρ.length → (∀ a ∈ fps' j, a ∈ fp) ∧ ¬ isOwn ρ'[j]?
abbrev DMg := D → En → (En → Prop) → Prop
/-- the target g takes a datum that shares no list with an own one -/
def DG (K : PySem.W.Frag) (S : Option (Addr × Addr)) (g : TG) (m : DMg) (W : List Nat) : Prop :=
  ∀ (G H : Hp) (ρ : En) (σ : L2.St) (fps : Nat → List Addr), EnvAt ⟨K, S⟩ G H ρ σ fps → ∀ (d : D) (v : V) (fp : List Addr), Rp ⟨K, S⟩ H d v fp → NoS ⟨K, S⟩ fp → (∀ i, i < ρ.length → isOwn ρ[i]? → ∀ a ∈ fps i, a ∉ fp) →
    ∀ R : En → Prop, m d ρ R → ∀ Nn : L2.St → Hp → Prop, (∀ ρ' σ' fps', R ρ' → EnvAt ⟨K, S⟩ G H ρ' σ' fps' → GOk W fp ρ σ fps ρ' σ' fps' → Nn σ' H) → g v σ H Nn
theorem EnvAt.setVal {c : Zc} {G H : Hp} {ρ : En} {σ : L2.St} {fps : Nat → List Addr} (E : EnvAt c G H ρ σ fps) {d : D} {v : V} {fp : List Addr} (r : Rp c H d v fp) (ns : NoS c fp) (sep : ∀ i, i < ρ.length → isOwn ρ[i]? → ∀ a ∈ fps i, a ∉ fp) (i : Nat) :
    EnvAt c G H (ρ.set i (.val d)) (σ.set i (some v)) (fun j => if j = i then fp else fps j) := by
  refine ⟨by simp [E.len], E.ext, E.src, fun j sl h => ?_, fun j k hne hj hk ho a ha hb => ?_⟩
  · by_cases hji : j = i
    · subst hji
      have hl : j < ρ.length := by
        have := (List.getElem?_eq_some_iff.mp h).1
        simpa using this
      rw [List.getElem?_set_self hl] at h
      cases h
      have hl2 : j < σ.length := by rw [E.len]; exact hl
      rw [List.getElem?_set_self hl2]
      simp only [if_true]
      exact ⟨v, rfl, r, ns⟩
    · rw [List.getElem?_set_ne (Ne.symm hji)] at h ⊢
      simp only [if_neg hji]
      exact E.ok j sl h
  · have hj' : j < ρ.length := by simpa using hj
    have hk' : k < ρ.length := by simpa using hk
    by_cases hji : j = i
    · subst hji
      rw [List.getElem?_set_self hj'] at ho
      exact ho
    · rw [List.getElem?_set_ne (Ne.symm hji)] at ho
      simp only [if_neg hji] at ha
      by_cases hki : k = i
      · simp only [if_pos hki] at hb
        exact sep j hj' ho a ha hb
      · simp only [if_neg hki] at hb
        exact E.sep j k hne hj' hk' ho a ha hb
def dgName (i : Nat) : DMg := fun d ρ R => R (ρ.set i (.val d))
theorem dg_name (i : Nat) : DG K S (gName i) (dgName i) [i] := fun G H ρ σ fps E d v fp r ns sep R hm Nn q => by
  refine q _ _ _ hm (E.setVal r ns sep i) ⟨by simp, fun j hj => ?_, fun j hj hl => ?_⟩
  · have hji : j ≠ i := fun e => hj (List.mem_singleton.mpr e)
    refine ⟨List.getElem?_set_ne (Ne.symm hji), List.getElem?_set_ne (Ne.symm hji), if_neg hji⟩
  · have e := List.mem_singleton.mp hj
    subst e
    refine ⟨fun a ha => by simpa using ha, ?_⟩
    rw [List.getElem?_set_self hl]
    exact id
/-- several targets -/
abbrev DMgs := List D → En → (En → Prop) → Prop
def DGs (K : PySem.W.Frag) (S : Option (Addr × Addr)) (g : TGs) (m : DMgs) (W : List Nat) : Prop :=
  ∀ (G H : Hp) (ρ : En) (σ : L2.St) (fps : Nat → List Addr), EnvAt ⟨K, S⟩ G H ρ σ fps → ∀ (ds : List D) (vs : List V) (fp : List Addr), Rps ⟨K, S⟩ H ds vs fp → NoS ⟨K, S⟩ fp → (∀ i, i < ρ.length → isOwn ρ[i]? → ∀ a ∈ fps i, a ∉ fp) →
    ∀ R : En → Prop, m ds ρ R → ∀ Nn : L2.St → Hp → Prop, (∀ ρ' σ' fps', R ρ' → EnvAt ⟨K, S⟩ G H ρ' σ' fps' → GOk W fp ρ σ fps ρ' σ' fps' → Nn σ' H) → g vs σ H Nn
def dgNil : DMgs := fun ds ρ R => ds = [] ∧ R ρ
def dgCons (m : DMg) (ms : DMgs) : DMgs := fun ds ρ R => match ds with
  | d :: r => m d ρ fun ρ' => ms r ρ' R
  | [] => False
theorem dgs_nil : DGs K S gNil dgNil [] := fun G H ρ σ fps E ds vs fp r ns sep R hm Nn q => by
  obtain ⟨rfl, hm⟩ := hm
  simp only [Rps] at r
  exact ⟨r.1, q ρ σ fps hm E ⟨rfl, fun j _ => ⟨rfl, rfl, rfl⟩, fun j hj => by cases hj⟩⟩
theorem dgs_cons {g : TG} {gs : TGs} {m : DMg} {ms : DMgs} {W1 W2 : List Nat} (h1 : DG K S g m W1) (h2 : DGs K S gs ms W2) : DGs K S (gCons g gs) (dgCons m ms) (W1 ++ W2) := fun G H ρ σ fps E ds vs fp r ns sep R hm Nn q => by
  cases ds with
  | nil => exact hm.elim
  | cons d ds =>
    simp only [Rps] at r
    obtain ⟨x, ys, f1, f2, rfl, rfl, r1, r2⟩ := r
    refine ⟨x, ys, rfl, h1 G H ρ σ fps E d x f1 r1 (fun a ha => ns a (List.mem_append_left _ ha)) (fun i hi ho a ha hb => sep i hi ho a ha (List.mem_append_left _ hb)) _ hm _ fun ρ1 σ1 fps1 hR E1 g1 => ?_⟩
    refine h2 G H ρ1 σ1 fps1 E1 ds ys f2 r2 (fun a ha => ns a (List.mem_append_right _ ha)) (fun i hi ho a ha hb => ?_) _ hR _ fun ρ2 σ2 fps2 hR2 E2 g2 => q ρ2 σ2 fps2 hR2 E2 ⟨g2.len.trans g1.len, fun j hj => ?_, fun j hj hl => ?_⟩
    · rw [g1.len] at hi
      by_cases hw : i ∈ W1
      · exact (g1.on i hw hi).2 ho
      · obtain ⟨e1, e2, e3⟩ := g1.off i hw
        rw [e2] at ho
        rw [e3] at ha
        exact sep i hi ho a ha (List.mem_append_right _ hb)
    · have n1 : j ∉ W1 := fun z => hj (List.mem_append_left _ z)
      have n2 : j ∉ W2 := fun z => hj (List.mem_append_right _ z)
      obtain ⟨a1, a2, a3⟩ := g1.off j n1
      obtain ⟨b1, b2, b3⟩ := g2.off j n2
      exact ⟨b1.trans a1, b2.trans a2, b3.trans a3⟩
    · by_cases hw : j ∈ W2
      · have := g2.on j hw (by rw [g1.len]; exact hl)
        exact ⟨fun a ha => List.mem_append_right _ (this.1 a ha), this.2⟩
      · have hw1 : j ∈ W1 := (List.mem_append.mp hj).resolve_right hw
        obtain ⟨b1, b2, b3⟩ := g2.off j hw
        rw [b2, b3]
        exact ⟨fun a ha => List.mem_append_left _ ((g1.on j hw1 hl).1 a ha), (g1.on j hw1 hl).2⟩
def asT (d : D) (k : List D → Prop) : Prop := match d with
  | .tuple ds => k ds
  | _ => False
def dgTup (n : Nat) (ms : DMgs) : DMg := fun d ρ R => asT d fun ds => ds.length = n ∧ ms ds ρ R
theorem dg_tup {n : Nat} {gs : TGs} {ms : DMgs} {W : List Nat} (h : DGs K S gs ms W) : DG K S (gTup K n gs) (dgTup n ms) W := fun G H ρ σ fps E d v fp r ns sep R hm Nn q => by
  cases d with
  | tuple ds =>
    simp only [Rp] at r
    obtain ⟨a, xs, rfl, h1, h2⟩ := r
    obtain ⟨hl, hm⟩ := hm
    exact ⟨a, xs, rfl, h1, by rw [h2.len]; exact hl, h G H ρ σ fps E ds xs fp h2 ns sep R hm Nn q⟩
  | _ => exact hm.elim

/-! ### comprehensions -/
/-- inside a comprehension: its own names empty, nothing is changed -/
def demote : En → En := List.map fun s => match s with
  | .own d => .val d
  | s => s
def hide : List Nat → En → En
  | [], ρ => ρ
  | i :: vs, ρ => (hide vs ρ).set i .unk
theorem hide_length (ρ : En) : ∀ vs : List Nat, (hide vs ρ).length = ρ.length
  | [] => rfl
  | v :: vs => by unfold hide; rw [List.length_set, hide_length ρ vs]
theorem hide_out {ρ : En} {i : Nat} : ∀ {vs : List Nat}, i ∉ vs → (hide vs ρ)[i]? = ρ[i]?
  | [], _ => rfl
  | v :: vs, h => by
    unfold hide
    rw [List.getElem?_set_ne fun e => h (by rw [e]; exact List.mem_cons_self)]
    exact hide_out fun m => h (List.mem_cons_of_mem _ m)
theorem hide_in {ρ : En} {i : Nat} : ∀ {vs : List Nat} {s : Sl}, i ∈ vs → (hide vs ρ)[i]? = some s → s = .unk
  | [], s, h, e => by cases h
  | v :: vs, s, h, e => by
    unfold hide at e
    by_cases hv : v = i
    · subst hv
      have hl : v < (hide vs ρ).length := by
        have := (List.getElem?_eq_some_iff.mp e).1
        simpa using this
      rw [List.getElem?_set_self hl] at e
      exact (Option.some.inj e).symm
    · rw [List.getElem?_set_ne hv] at e
      exact hide_in ((List.mem_cons.mp h).resolve_left (Ne.symm hv)) e
theorem demote_length (ρ : En) : (demote ρ).length = ρ.length := by simp [demote]
theorem demote_own {ρ : En} {i : Nat} : ¬ isOwn (demote ρ)[i]? := by
  unfold demote
  rw [List.getElem?_map]
  cases ρ[i]? with
  | none => exact id
  | some s => cases s <;> exact id
theorem EnvAt.inner {c : Zc} {G H : Hp} {ρ : En} {σ : L2.St} {fps : Nat → List Addr} (E : EnvAt c G H ρ σ fps) (vs : List Nat) :
    EnvAt c (fun _ => none) H (hide vs (demote ρ)) (wipe σ vs) (fun j => if j ∈ vs then [] else fps j) := by
  refine ⟨by rw [wipe_length, hide_length, demote_length]; exact E.len, fun a o h _ => (by cases h), E.src, fun j sl h => ?_, fun j k _ _ _ ho => ?_⟩
  · by_cases hj : j ∈ vs
    · rw [hide_in hj h]
      simp only [if_pos hj]
      rfl
    · rw [hide_out hj] at h
      rw [wipe_out hj]
      simp only [if_neg hj]
      unfold demote at h
      rw [List.getElem?_map] at h
      cases hs : ρ[j]? with
      | none => rw [hs] at h; cases h
      | some s =>
        rw [hs] at h
        have ok := E.ok j s hs
        cases s with
        | unk => cases h; exact ok
        | val d => cases h; exact ok
        | own d => cases h; obtain ⟨v, a1, a2, a3, _⟩ := ok; exact ⟨v, a1, a2, a3⟩
  · by_cases hj : j ∈ vs
    · exfalso
      cases hs : (hide vs (demote ρ))[j]? with
      | none => rw [hs] at ho; exact ho
      | some s =>
        have := hide_in hj hs
        rw [hs, this] at ho
        exact ho
    · rw [hide_out hj] at ho
      exact (demote_own ho).elim

def compD (tg : DMg) (mt : DMt) (me : DM) (ρ : En) (R : List D → Prop) : List D → List D → Prop
  | [], acc => R acc
  | x :: xs, acc => tg x ρ fun ρ' => mt ρ' fun b => cond b (me ρ' fun y => compD tg mt me ρ R xs (acc ++ [y])) (compD tg mt me ρ R xs acc)
def dComp (mi : DMs) (tg : DMg) (mt : DMt) (me : DM) (vs : List Nat) : DM := fun ρ R => mi ρ fun xs => xs.length ≤ 10000000 ∧ compD tg mt me (hide vs (demote ρ)) (fun ys => R (.list ys)) xs []
def compU (vs Ue Ui : List Nat) : List Nat := if Ue = [] then [] else 1000 :: (Ue ++ Ui)
theorem wipe_same {σ σ2 : L2.St} : ∀ {vs : List Nat}, σ2.length = σ.length → (∀ j, j ∉ vs → σ2[j]? = σ[j]?) → wipe σ2 vs = wipe σ vs := fun {vs} hl h => by
  apply List.ext_getElem?
  intro i
  by_cases hi : i ∈ vs
  · have both : ∀ τ : L2.St, τ.length = σ.length → (wipe τ vs)[i]? = if i < σ.length then some none else none := fun τ hτ => by
      cases e : (wipe τ vs)[i]? with
      | none =>
        have := List.getElem?_eq_none_iff.mp e
        rw [wipe_length, hτ] at this
        rw [if_neg (by omega)]
      | some o =>
        have hlt := (List.getElem?_eq_some_iff.mp e).1
        rw [wipe_length, hτ] at hlt
        rw [if_pos hlt]
        cases o with
        | none => rfl
        | some x => exact absurd hi (wipe_some e).2
    rw [both σ2 hl, both σ rfl]
  · rw [wipe_out hi, wipe_out hi]
    exact h i hi
theorem wipe_wipe {σ : L2.St} {vs : List Nat} : wipe (wipe σ vs) vs = wipe σ vs := wipe_same (wipe_length σ vs) fun j hj => wipe_out hj

theorem de_lc {wi : TI} {g : TG} {tt : TT} {te : TE} {vs : List Nat} {mi : DMs} {mg : DMg} {mt : DMt} {me : DM} {Ui Ue W : List Nat} (hi : DI K S wi mi Ui) (hg : DG K S g mg W) (ht : DT K S tt mt) (he : DE K S te me Ue) (hW : W.all (fun j => vs.contains j) = true) :
    DE K S (tLc wi g tt te vs) (dComp mi mg mt me vs) (compU vs Ue Ui) := fun G H ρ σ fps E R hm Q q =>
  hi G H ρ σ fps E _ hm _ fun ds J H1 FP hR e1 s1 J1 nF tF fF Dd hD => by
    obtain ⟨hlen, hc⟩ := hR
    have hWv : ∀ j, j ∈ W → j ∈ vs := fun j hj => by
      have := List.all_eq_true.mp hW j hj
      simpa using this
    have hDn := s1.fresh hD
    -- what holds ahead of turn i
    let Pv : Nat → Hp → Prop := fun i Hi => Ext ⟨K, S⟩ H1 Hi ∧ SrcAt ⟨K, S⟩ Hi ∧ ∃ (acc : List D) (av : List V) (fa : List Addr), Hi Dd = some (.lst av) ∧ Rps ⟨K, S⟩ Hi acc av fa ∧ NoS ⟨K, S⟩ fa ∧ Dd ∉ fa ∧ From H fps ρ.length (compU vs Ue Ui) fa ∧ acc.length ≤ i ∧
      compD mg mt me (hide vs (demote ρ)) (fun ys => R (.list ys)) (ds.drop i) acc
    refine lc_it J1 (D := Dd) Pv ?_ (fun i Hi hle p => ?_) (fun i x Hi Hi' hlt p y => ?_) fun Hn p => ?_
    · exact ⟨Ext.new hD, s1.new hD, [], [], [], upd_same, .nil, .nil, (by intro z; cases z), .nil, Nat.le_refl _, hc⟩
    · exact ⟨p.1.tk s1, fun a ha => by
        obtain ⟨o, ho⟩ := tF a ha
        rw [ho]
        exact p.1 a o ho (nF a ha), p.2.1⟩
    · obtain ⟨x1, sx, acc, av, fa, hDi, ra, na, da, frm, hal, hcc⟩ := p
      obtain ⟨y1, sy, d, fp, hd, rd, subd⟩ := y
      have E2 := ((E.step (e1.trans (x1.trans y1)) sy).inner vs)
      have hdrop : ds.drop i = d :: ds.drop (i + 1) := by
        obtain ⟨hlt', hd'⟩ := List.getElem?_eq_some_iff.mp hd
        rw [← hd']
        exact List.drop_eq_getElem_cons hlt'
      rw [hdrop] at hcc
      have nfp : NoS ⟨K, S⟩ fp := fun a ha => nF a (subd a ha)
      refine hg _ Hi' _ _ _ E2 d x fp rd nfp (fun j _ ho => ?_) _ hcc _ fun ρ2 σ2 fps2 hR2 E3 g3 => ?_
      · exfalso
        by_cases hj : j ∈ vs
        · cases hs : (hide vs (demote ρ))[j]? with
          | none => rw [hs] at ho; exact ho
          | some s =>
            have := hide_in hj hs
            rw [hs, this] at ho
            exact ho
        · rw [hide_out hj] at ho
          exact demote_own ho
      have hl2 : ρ2.length = ρ.length := by rw [g3.len, hide_length, demote_length]
      have hs2 : σ2.length = (wipe σ vs).length := by rw [E3.len, hl2, wipe_length, E.len]
      refine ⟨(wipe_same hs2 fun j hj => (g3.off j fun z => hj (hWv j z)).1).trans wipe_wipe, ?_⟩
      -- what the slots hold within, told by those outside
      have hin : ∀ u a, u < ρ2.length → a ∈ fps2 u → a ∈ FP ∨ (u < ρ.length ∧ a ∈ fps u) := fun u a hu ha => by
        rw [hl2] at hu
        by_cases hw : u ∈ W
        · exact .inl (subd a ((g3.on u hw (by rw [hide_length, demote_length]; exact hu)).1 a ha))
        · rw [(g3.off u hw).2.2] at ha
          by_cases hv : u ∈ vs
          · simp only [if_pos hv] at ha
            cases ha
          · simp only [if_neg hv] at ha
            exact .inr ⟨hu, ha⟩
      refine ht _ Hi' ρ2 σ2 fps2 E3 _ hR2 _ fun b H3 hb x3 s3 => ?_
      have E4 := E3.step x3 s3
      cases b with
      | false =>
        refine iteF ⟨x1.trans (y1.trans x3), s3, acc, av, fa, x3 _ _ (y1 _ _ hDi hDn) hDn, (ra.ext na y1 sx).ext na x3 sy, na, da, frm, Nat.le_succ_of_le hal, hb⟩
      | true =>
        refine iteT (he _ H3 ρ2 σ2 fps2 E4 _ hb _ fun y v H4 gp hc4 x4 s4 r4 n4 f4 => ?_)
        have xx : Ext ⟨K, S⟩ Hi H4 := y1.trans (x3.trans x4)
        have hD4 : H4 Dd = some (.lst av) := xx _ _ hDi hDn
        have hDg : Dd ∉ gp := fun hm => by
          rcases f4.1 Dd hm with z | ⟨u, hu, hul, z⟩
          · rw [x3 _ _ (y1 _ _ hDi hDn) hDn] at z
            cases z
          · rcases hin u Dd hul z with z | ⟨z1, z⟩
            · obtain ⟨o, ho⟩ := tF Dd z
              rw [hD] at ho
              cases ho
            · obtain ⟨o, ho, _⟩ := E.thereAt z1 Dd z
              rw [e1 _ _ ho hDn] at hD
              cases hD
        have hk : ∀ b : Addr, b ∈ fa ++ gp → upd H4 Dd (.lst (av ++ [v])) b = H4 b := fun b hb' => upd_ne fun z => by
          rcases List.mem_append.mp hb' with z' | z'
          · exact da (z ▸ z')
          · exact hDg (z ▸ z')
        have tk : Tk H4 (upd H4 Dd (.lst (av ++ [v]))) := fun b o ho hf => by
          rw [upd_ne fun z => by rw [z, hD4] at ho; cases ho; exact hf]
          exact ho
        refine ⟨av, hD4, ?_, fun b o ho hnb => ?_, s4.own hDn, acc ++ [y], av ++ [v], fa ++ gp, upd_same, ?_, na.app n4, ?_, ?_, ?_, hc4⟩
        · have h1 := ra.len
          have h2 : i < ds.length := hlt
          exact Nat.lt_of_lt_of_le (by omega : av.length < 10000000) (lim_ok (Nat.le_refl _))
        · rw [upd_ne fun z => by rw [z, hD] at ho; cases ho]
          exact (x1.trans xx) b o ho hnb
        · exact (ra.ext na xx sx).app (.one r4) |>.mono tk _ _ _ hk
        · intro hm
          rcases List.mem_append.mp hm with z | z
          · exact da z
          · exact hDg z
        · have hne : ∀ a ∈ gp, H a = none ∨ ∃ u ∈ compU vs Ue Ui, u < ρ.length ∧ a ∈ fps u := fun a ha => by
            rcases f4.1 a ha with z | ⟨u, hu, hul, z⟩
            · exact .inl ((e1.trans (x1.trans (y1.trans x3))).free z (n4 a ha))
            · have hUe : Ue ≠ [] := fun z => by rw [z] at hu; cases hu
              unfold compU
              rw [if_neg hUe]
              rcases hin u a hul z with z | ⟨z1, z⟩
              · exact (fF.1 a z).imp id fun ⟨u', hu', q'⟩ => ⟨u', List.mem_cons_of_mem _ (List.mem_append_right _ hu'), q'⟩
              · exact .inr ⟨u, List.mem_cons_of_mem _ (List.mem_append_left _ hu), z1, z⟩
          refine ⟨fun a ha => (List.mem_append.mp ha).elim (frm.1 a) (hne a), fun z => ?_⟩
          have hUe : Ue = [] := by
            unfold compU at z
            split at z
            · assumption
            · cases z
          subst hUe
          refine List.nodup_append.mpr ⟨frm.2 z, f4.2 rfl, fun a ha b hb' q' => ?_⟩
          subst q'
          have h1 := f4.off a hb'
          obtain ⟨o, ho, _⟩ := ra.there _ _ _ a ha
          rw [x3 _ _ (y1 _ _ ho (na a ha)) (na a ha)] at h1
          cases h1
        · rw [List.length_append]
          exact Nat.succ_le_succ hal
    · obtain ⟨x1, sx, acc, av, fa, hDi, ra, na, da, frm, hal, hcc⟩ := p
      rw [List.drop_eq_nil_of_le (Nat.le_refl _)] at hcc
      refine q (.list acc) (.ref Dd) Hn (Dd :: fa) hcc (e1.trans x1) sx ?_ ?_ ⟨fun a ha => ?_, fun z => ?_⟩
      · simp only [Rp]
        exact ⟨Dd, av, fa, rfl, rfl, hDi, ra⟩
      · intro a ha
        rcases List.mem_cons.mp ha with rfl | ha
        · exact hDn
        · exact na a ha
      · rcases List.mem_cons.mp ha with rfl | ha
        · exact .inl (e1.free hD hDn)
        · exact frm.1 a ha
      · exact List.nodup_cons.mpr ⟨da, frm.2 z⟩
end
end Z

set_option Elab.async false
set_option linter.all false
set_option maxRecDepth 100000
set_option maxHeartbeats 2000000
/-! Z3: statements, defs. -/
namespace Z
open PySem L2

section
variable {K : PySem.W.Frag} {S : Option (Addr × Addr)}

theorem Off.refl (W : List Nat) (σ : L2.St) : Off W σ σ := ⟨rfl, fun _ _ => rfl⟩
theorem Off.trans {V W : List Nat} {σ σ1 σ2 : L2.St} (a : Off V σ σ1) (b : Off W σ1 σ2) : Off (V ++ W) σ σ2 := ⟨b.len.trans a.len, fun j hj =>
  (b.off j fun z => hj (List.mem_append_right _ z)).trans (a.off j fun z => hj (List.mem_append_left _ z))⟩
theorem Off.up {V W : List Nat} {σ σ1 : L2.St} (a : Off V σ σ1) (h : ∀ j ∈ V, j ∈ W) : Off W σ σ1 := ⟨a.len, fun j hj => a.off j fun z => hj (h j z)⟩
theorem Off.join {W : List Nat} {σ σ1 σ2 : L2.St} (a : Off W σ σ1) (b : Off W σ1 σ2) : Off W σ σ2 := ⟨b.len.trans a.len, fun j hj => (b.off j hj).trans (a.off j hj)⟩

/-! ### small statements -/
def sNext : DMS := fun ρ R => R.nx ρ
theorem ds_next : DS K S tNext sNext [] := fun G H ρ σ fps E R hm D d => d.nx ρ σ H fps hm E (.refl _ _)
def sBreak : DMS := fun ρ R => R.bk ρ
theorem ds_break : DS K S tBreak sBreak [] := fun G H ρ σ fps E R hm D d => d.bk ρ σ H fps hm E (.refl _ _)
def sCont : DMS := fun ρ R => R.ct ρ
theorem ds_cont : DS K S tCont sCont [] := fun G H ρ σ fps E R hm D d => d.ct ρ σ H fps hm E (.refl _ _)
def sSeq (a b : DMS) : DMS := fun ρ R => a ρ { R with nx := fun ρ' => b ρ' R }
theorem EndsOk.up {G : Hp} {V W : List Nat} {σ : L2.St} {R : DEnds} {D : Ends} (d : EndsOk K S G W σ R D) (h : ∀ j ∈ V, j ∈ W) : EndsOk K S G V σ R D :=
  ⟨fun ρ' σ' H' f a b o => d.nx ρ' σ' H' f a b (o.up h), fun ρ' σ' H' f a b o => d.bk ρ' σ' H' f a b (o.up h), fun ρ' σ' H' f a b o => d.ct ρ' σ' H' f a b (o.up h), d.rt⟩
theorem EndsOk.after {G : Hp} {W : List Nat} {σ σ1 : L2.St} {R : DEnds} {D : Ends} (d : EndsOk K S G W σ R D) (o : Off W σ σ1) : EndsOk K S G W σ1 R D :=
  ⟨fun ρ' σ' H' f a b o' => d.nx ρ' σ' H' f a b (o.join o'), fun ρ' σ' H' f a b o' => d.bk ρ' σ' H' f a b (o.join o'), fun ρ' σ' H' f a b o' => d.ct ρ' σ' H' f a b (o.join o'), d.rt⟩
theorem ds_seq {t u : TS} {m1 m2 : DMS} {V W : List Nat} (h1 : DS K S t m1 V) (h2 : DS K S u m2 W) : DS K S (tSeq t u) (sSeq m1 m2) (V ++ W) := fun G H ρ σ fps E R hm D d => by
  have l : ∀ j ∈ V, j ∈ V ++ W := fun j h => List.mem_append_left _ h
  have r : ∀ j ∈ W, j ∈ V ++ W := fun j h => List.mem_append_right _ h
  exact h1 G H ρ σ fps E _ hm _ ⟨fun ρ1 σ1 H1 f1 hR E1 o1 => h2 G H1 ρ1 σ1 f1 E1 R hR D ((d.after (o1.up l)).up r), (d.up l).bk, (d.up l).ct, d.rt⟩
def sIf (c : DMt) (a b : DMS) : DMS := fun ρ R => c ρ fun k => cond k (a ρ R) (b ρ R)
theorem ds_if {c : TT} {t u : TS} {mc : DMt} {m1 m2 : DMS} {V W : List Nat} (hc : DT K S c mc) (h1 : DS K S t m1 V) (h2 : DS K S u m2 W) : DS K S (tIfS c t u) (sIf mc m1 m2) (V ++ W) := fun G H ρ σ fps E R hm D d =>
  hc G H ρ σ fps E _ hm _ fun b H1 hR e1 s1 => by
    cases b with
    | true => exact iteT (h1 G H1 ρ σ fps (E.step e1 s1) R hR D (d.up fun j h => List.mem_append_left _ h))
    | false => exact iteF (h2 G H1 ρ σ fps (E.step e1 s1) R hR D (d.up fun j h => List.mem_append_right _ h))
def sDrop (m : DM) : DMS := fun ρ R => m ρ fun _ => R.nx ρ
theorem ds_drop {te : TE} {m : DM} {U : List Nat} (h : DE K S te m U) : DS K S (tDrop te) (sDrop m) [] := fun G H ρ σ fps E R hm D d =>
  h G H ρ σ fps E _ hm _ fun x v H1 fp hR e1 s1 r n f => d.nx ρ σ H1 fps hR (E.step e1 s1) (.refl _ _)
theorem back_none {c : Zc} {G H : Hp} (e : Ext c G H) {a : Addr} (h : H a = none) (n : ¬ c.has a) : G a = none := e.free h n
def sRet (m : DM) : DMS := fun ρ R => m ρ R.rt
theorem ds_ret {te : TE} {m : DM} (h : DE K S te m []) : DS K S (tRet te) (sRet m) [] := fun G H ρ σ fps E R hm D d =>
  h G H ρ σ fps E _ hm _ fun x v H1 fp hR e1 s1 r n f => d.rt x v H1 fp hR (E.ext.trans e1) s1 r n (f.2 rfl) fun a ha => back_none E.ext (f.off a ha) (n a ha)
def sRetV (i : Nat) : DMS := fun ρ R => match ρ[i]? with
  | some (.own d) => R.rt d
  | _ => False
/-- return x, x an own list -/
theorem ds_retV (i : Nat) : DS K S (tRet (tVar i)) (sRetV i) [] := fun G H ρ σ fps E R hm D d => by
  unfold sRetV at hm
  split at hm
  · rename_i x e
    obtain ⟨v, e1, r, n, nd, g⟩ := E.ok i _ e
    exact ⟨v, e1, d.rt x v H _ hm E.ext E.src r n nd g⟩
  · exact hm.elim
def sRetN : DMS := fun ρ R => R.rt .none
theorem ds_retN : DS K S tRetN sRetN [] := fun G H ρ σ fps E R hm D d => d.rt .none .non H [] hm E.ext E.src (non_rp H) .nil List.nodup_nil fun a h => by cases h

/-! ### stores -/
theorem EnvAt.setOwn {c : Zc} {G H : Hp} {ρ : En} {σ : L2.St} {fps : Nat → List Addr} (E : EnvAt c G H ρ σ fps) {d : D} {v : V} {fp : List Addr} (r : Rp c H d v fp) (ns : NoS c fp) (nd : fp.Nodup) (g : ∀ a ∈ fp, G a = none) (i : Nat)
    (sep : ∀ j, j < ρ.length → j ≠ i → ∀ a ∈ fp, a ∉ fps j) : EnvAt c G H (ρ.set i (.own d)) (σ.set i (some v)) (fun j => if j = i then fp else fps j) := by
  refine ⟨by simp [E.len], E.ext, E.src, fun j sl h => ?_, fun j k hne hj hk ho a ha hb => ?_⟩
  · by_cases hji : j = i
    · subst hji
      have hl : j < ρ.length := by
        have := (List.getElem?_eq_some_iff.mp h).1
        simpa using this
      rw [List.getElem?_set_self hl] at h
      cases h
      have hl2 : j < σ.length := by rw [E.len]; exact hl
      rw [List.getElem?_set_self hl2]
      simp only [if_true]
      exact ⟨v, rfl, r, ns, nd, g⟩
    · rw [List.getElem?_set_ne (Ne.symm hji)] at h ⊢
      simp only [if_neg hji]
      exact E.ok j sl h
  · have hj' : j < ρ.length := by simpa using hj
    have hk' : k < ρ.length := by simpa using hk
    by_cases hji : j = i
    · subst hji
      simp only [if_true] at ha
      simp only [if_neg (Ne.symm hne)] at hb
      exact sep k hk' (Ne.symm hne) a ha hb
    · rw [List.getElem?_set_ne (Ne.symm hji)] at ho
      simp only [if_neg hji] at ha
      by_cases hki : k = i
      · simp only [if_pos hki] at hb
        exact sep j hj' hji a hb ha
      · simp only [if_neg hki] at hb
        exact E.sep j k hne hj' hk' ho a ha hb
theorem off_set {i : Nat} {x : Option V} {σ : L2.St} : Off [i] σ (σ.set i x) := ⟨by simp, fun j hj => List.getElem?_set_ne fun e => hj (by simp [e])⟩
def sAsg (i : Nat) (m : DM) : DMS := fun ρ R => m ρ fun d => R.nx (ρ.set i (.own d))
theorem ds_asg (i : Nat) {te : TE} {m : DM} (h : DE K S te m []) : DS K S (tAsg te (gName i)) (sAsg i m) [i] := fun G H ρ σ fps E R hm D d =>
  h G H ρ σ fps E _ hm _ fun x v H1 fp hR e1 s1 r n f => by
    have E1 := E.step e1 s1
    refine d.nx _ _ H1 _ hR (E1.setOwn r n (f.2 rfl) (fun a ha => back_none E.ext (f.off a ha) (n a ha)) i fun j hj _ a ha hb => ?_) off_set
    obtain ⟨o, ho, _⟩ := E.thereAt hj a hb
    rw [f.off a ha] at ho
    cases ho
/-- all of U hold what is only read -/
def valsAt (ρ : En) (U : List Nat) : Prop := ∀ u ∈ U, ¬ isOwn ρ[u]?
def sAsgG (U : List Nat) (m : DM) (mg : DMg) : DMS := fun ρ R => valsAt ρ U ∧ m ρ fun d => mg d ρ R.nx
/-- any target; what is stored is only read from there on -/
theorem ds_asgG {te : TE} {g : TG} {m : DM} {mg : DMg} {U W : List Nat} (h : DE K S te m U) (hg : DG K S g mg W) : DS K S (tAsg te g) (sAsgG U m mg) W := fun G H ρ σ fps E R hm D d =>
  h G H ρ σ fps E _ hm.2 _ fun x v H1 fp hR e1 s1 r n f => by
    have E1 := E.step e1 s1
    refine hg G H1 ρ σ fps E1 x v fp r n (fun i hi ho a ha hb => ?_) _ hR _ fun ρ' σ' fps' hR' E' g' => d.nx ρ' σ' H1 fps' hR' E' ⟨by rw [E'.len, g'.len, E.len], fun j hj => (g'.off j hj).1⟩
    rcases f.1 a hb with z | ⟨u, hu, hul, z⟩
    · obtain ⟨o, ho', _⟩ := E.thereAt hi a ha
      rw [z] at ho'
      cases ho'
    · have hne : i ≠ u := fun z' => hm.1 u hu (z' ▸ ho)
      exact E.sep i u hne hi hul ho a ha z
def sPar (i j : Nat) (ms : DMs) : DMS := fun ρ R => ms ρ fun ds => match ds with
  | [x, y] => R.nx ((ρ.set i (.own x)).set j (.own y))
  | _ => False
theorem ds_par (i j : Nat) {t : TA} {ms : DMs} (h : DA K S t ms []) (hij : i ≠ j := by decide) : DS K S (tPar i j t) (sPar i j ms) [i, j] := fun G H ρ σ fps E R hm D d =>
  h G H ρ σ fps E _ hm _ fun ds vs H1 fp hR e1 s1 r n f => by
    split at hR
    · rename_i x y
      simp only [Rps] at r
      obtain ⟨v, ys, g1, g2, rfl, rfl, r1, w, zs, g3, g4, rfl, rfl, r2, rfl, rfl⟩ := r
      rw [List.append_nil] at f n
      have E1 := E.step e1 s1
      have nd := f.2 rfl
      obtain ⟨nd1, nd2, nd3⟩ := List.nodup_append.mp nd
      have fr : ∀ a ∈ g1 ++ g3, ∀ k, k < ρ.length → a ∉ fps k := fun a ha k hk hb => by
        obtain ⟨o, ho, _⟩ := E.thereAt hk a hb
        rw [f.off a ha] at ho
        cases ho
      have gn : ∀ a ∈ g1 ++ g3, G a = none := fun a ha => back_none E.ext (f.off a ha) (n a ha)
      refine ⟨v, w, rfl, ?_⟩
      have E2 := E1.setOwn r1 (fun a ha => n a (List.mem_append_left _ ha)) nd1 (fun a ha => gn a (List.mem_append_left _ ha)) i fun k hk _ a ha hb => fr a (List.mem_append_left _ ha) k hk hb
      have E3 := E2.setOwn r2 (fun a ha => n a (List.mem_append_right _ ha)) nd2 (fun a ha => gn a (List.mem_append_right _ ha)) j fun k hk hkj a ha hb => by
        by_cases hki : k = i
        · simp only [if_pos hki] at hb
          exact nd3 a hb a ha rfl
        · simp only [if_neg hki] at hb
          exact fr a (List.mem_append_right _ ha) k (by simpa using hk) hb
      refine d.nx _ _ H1 _ hR E3 ⟨by simp, fun k hk => ?_⟩
      have k1 : j ≠ k := fun e => hk (by simp [e])
      have k2 : i ≠ k := fun e => hk (by simp [e])
      rw [List.getElem?_set_ne k1, List.getElem?_set_ne k2]
    · exact hR.elim

/-- an own list or dict, changed -/
theorem EnvAt.change {c : Zc} {G H : Hp} {ρ : En} {σ : L2.St} {fps : Nat → List Addr} (E : EnvAt c G H ρ σ fps) {i : Nat} {d d' : D} {a : Addr} {v : V} {o : HO} {fp' : List Addr} (hi : ρ[i]? = some (.own d)) (hv : σ[i]? = some (some v)) (ha : a ∈ fps i)
    (r : Rp c (upd H a o) d' v fp') (sub : ∀ b ∈ fp', b ∈ fps i ∨ (G b = none ∧ ¬ c.has b ∧ ∀ j, j < ρ.length → b ∉ fps j)) (nd : fp'.Nodup) :
    EnvAt c G (upd H a o) (ρ.set i (.own d')) σ (fun j => if j = i then fp' else fps j) := by
  have hl : i < ρ.length := (List.getElem?_eq_some_iff.mp hi).1
  have oki := E.ok i _ hi
  obtain ⟨v0, e0, r0, n0, nd0, g0⟩ := oki
  have han : ¬ c.has a := n0 a ha
  obtain ⟨o1, ho1, hf1⟩ := E.thereAt hl a ha
  have tk : Tk H (upd H a o) := fun b u hu hf => by
    rw [upd_ne fun z => by rw [z, ho1] at hu; cases hu; exact hf1 hf]
    exact hu
  have isO : isOwn ρ[i]? := by rw [hi]; trivial
  refine ⟨by rw [List.length_set]; exact E.len, fun b u hb hn => ?_, E.src.own han, fun j sl h => ?_, fun j k hne hj hk ho b hb1 hb2 => ?_⟩
  · rw [upd_ne fun z => by rw [z, g0 a ha] at hb; cases hb]
    exact E.ext b u hb hn
  · by_cases hji : j = i
    · subst hji
      rw [List.getElem?_set_self hl] at h
      cases h
      simp only [if_true]
      refine ⟨v, hv, r, fun b hb => ?_, nd, fun b hb => ?_⟩
      · rcases sub b hb with z | z
        · exact n0 b z
        · exact z.2.1
      · rcases sub b hb with z | z
        · exact g0 b z
        · exact z.1
    · rw [List.getElem?_set_ne (Ne.symm hji)] at h
      simp only [if_neg hji]
      have okj := E.ok j sl h
      have hjl : j < ρ.length := (List.getElem?_eq_some_iff.mp h).1
      have keep : ∀ b ∈ fps j, upd H a o b = H b := fun b hb => upd_ne fun z => E.sep i j (Ne.symm hji) hl hjl isO a ha (z ▸ hb)
      cases sl with
      | unk => exact okj
      | val dj => obtain ⟨w, f1, f2, f3⟩ := okj; exact ⟨w, f1, f2.mono tk _ _ _ keep, f3⟩
      | own dj => obtain ⟨w, f1, f2, f3⟩ := okj; exact ⟨w, f1, f2.mono tk _ _ _ keep, f3⟩
  · have hj' : j < ρ.length := by simpa using hj
    have hk' : k < ρ.length := by simpa using hk
    by_cases hji : j = i
    · subst hji
      simp only [if_true] at hb1
      simp only [if_neg (Ne.symm hne)] at hb2
      rcases sub b hb1 with z | z
      · exact E.sep j k hne hj' hk' isO b z hb2
      · exact z.2.2 k hk' hb2
    · rw [List.getElem?_set_ne (Ne.symm hji)] at ho
      simp only [if_neg hji] at hb1
      by_cases hki : k = i
      · simp only [if_pos hki] at hb2
        rcases sub b hb2 with z | z
        · exact E.sep j i hji hj' hl ho b hb1 z
        · exact z.2.2 j hj' hb1
      · simp only [if_neg hki] at hb2
        exact E.sep j k hne hj' hk' ho b hb1 hb2

/-- an own list -/
def ownL (s : Option Sl) (k : List D → Prop) : Prop := match s with
  | some (.own (.list ds)) => k ds
  | _ => False
theorem ownL_ok {s : Option Sl} {k : List D → Prop} (h : ownL s k) : ∃ ds, s = some (.own (.list ds)) ∧ k ds := by
  unfold ownL at h
  split at h
  · exact ⟨_, rfl, h⟩
  · exact h.elim
/-- x.append(e), x an own list -/
def sAppend (i : Nat) (m : DM) : DMS := fun ρ R => ownL ρ[i]? fun ds => m ρ fun y => ds.length < 10000000 ∧ R.nx (ρ.set i (.own (.list (ds ++ [y]))))
theorem ds_append (i : Nat) {te : TE} {m : DM} (h : DE K S te m []) : DS K S (tDrop (tBM K "list" rAppend (tVar i) (tCons te tNil))) (sAppend i m) [i] := fun G H ρ σ fps E R hm D d => by
  · obtain ⟨ds, hi, hm⟩ := ownL_ok hm
    obtain ⟨v, ev, r, n, nd, g⟩ := E.ok i _ hi
    have r' := r
    simp only [Rp] at r'
    obtain ⟨a, xs, gp, rfl, ef, hL, rs⟩ := r'
    refine ⟨.ref a, ev, .inl ⟨rfl, xs, .of hL⟩, h G H ρ σ fps E _ hm _ fun y w H1 fp hR e1 s1 ry ny fy => ?_⟩
    have han : ¬ Zc.has ⟨K, S⟩ a := n a (by rw [ef]; exact List.mem_cons_self ..)
    have hL1 : H1 a = some (.lst xs) := e1 a _ hL han
    have E1 := E.step e1 s1
    refine ⟨a, xs, w, rfl, rfl, hL1, by rw [rs.len]; exact Nat.lt_of_lt_of_le hR.1 (lim_ok (Nat.le_refl _)), ?_⟩
    have gpn : ∀ b ∈ gp, b ∈ fps i := fun b hb => by rw [ef]; exact List.mem_cons_of_mem _ hb
    have ndc : (a :: gp).Nodup := by rw [← ef]; exact nd
    have hag : a ∉ gp := (List.nodup_cons.mp ndc).1
    have hafp : a ∉ fp := fun z => by
      rw [fy.off a z] at hL
      cases hL
    have tk : Tk H1 (upd H1 a (.lst (xs ++ [w]))) := fun b u hu hf => by
      rw [upd_ne fun z => by rw [z, hL1] at hu; cases hu; exact hf]
      exact hu
    have rr : Rp ⟨K, S⟩ (upd H1 a (.lst (xs ++ [w]))) (.list (ds ++ [y])) (.ref a) (a :: (gp ++ fp)) := by
      simp only [Rp]
      refine ⟨a, xs ++ [w], gp ++ fp, rfl, rfl, upd_same, ?_⟩
      refine ((rs.ext (fun b hb => n b (gpn b hb)) e1 E.src).app (.one ry)).mono tk _ _ _ fun b hb => upd_ne fun z => ?_
      rcases List.mem_append.mp hb with z' | z'
      · exact hag (z ▸ z')
      · exact hafp (z ▸ z')
    refine d.nx _ σ _ _ hR.2 (E1.change hi ev (by rw [ef]; exact List.mem_cons_self ..) rr (fun b hb => ?_) ?_) ⟨rfl, fun _ _ => rfl⟩
    · rcases List.mem_cons.mp hb with z | hb
      · rw [z, ef]; exact .inl (List.mem_cons_self ..)
      · rcases List.mem_append.mp hb with z | z
        · exact .inl (gpn b z)
        · refine .inr ⟨back_none E.ext (fy.off b z) (ny b z), ny b z, fun j hj hb' => ?_⟩
          obtain ⟨o, ho, _⟩ := E.thereAt hj b hb'
          rw [fy.off b z] at ho
          cases ho
    · refine List.nodup_cons.mpr ⟨fun z => (List.mem_append.mp z).elim hag hafp, List.nodup_append.mpr ⟨(List.nodup_cons.mp ndc).2, fy.2 rfl, fun b hb b' hb' z => ?_⟩⟩
      subst z
      obtain ⟨o, ho, _⟩ := rs.there _ _ _ b hb
      rw [fy.off b hb'] at ho
      cases ho
end
end Z

set_option Elab.async false
set_option linter.all false
set_option maxRecDepth 100000
set_option maxHeartbeats 2000000
/-! Z4: loops; defs by their promises over data. -/
namespace Z
open PySem L2

section
variable {K : PySem.W.Frag} {S : Option (Addr × Addr)}

/-! ### for -/
/-- the slots outside W are only read -/
def demoteOff (W : List Nat) : Nat → En → En
  | _, [] => []
  | k, s :: ρ => (if W.contains k then s else match s with
    | .own d => .val d
    | s => s) :: demoteOff W (k + 1) ρ
theorem demoteOff_get (W : List Nat) : ∀ (ρ : En) (k j : Nat), (demoteOff W k ρ)[j]? = ρ[j]?.map fun s => if W.contains (k + j) then s else match s with
    | .own d => .val d
    | s => s
  | [], _, _ => by simp [demoteOff]
  | s :: ρ, k, 0 => by simp [demoteOff]
  | s :: ρ, k, j + 1 => by
    unfold demoteOff
    rw [List.getElem?_cons_succ, List.getElem?_cons_succ, demoteOff_get W ρ (k + 1) j, Nat.add_assoc, Nat.add_comm 1 j]
/-- behind a loop: the slots of W as the loop left them, the others as they were -/
def restore (W : List Nat) : Nat → En → En → En
  | k, s :: ρ, t :: τ => (if W.contains k then (match t with
    | .val d => if solid d = true then .val d else .unk
    | t => t) else s) :: restore W (k + 1) ρ τ
  | _, _, _ => []
theorem restore_get (W : List Nat) : ∀ (ρ τ : En) (k j : Nat) (s t : Sl), ρ[j]? = some s → τ[j]? = some t → (restore W k ρ τ)[j]? = some (if W.contains (k + j) then (match t with
    | .val d => if solid d = true then .val d else .unk
    | t => t) else s)
  | [], _, _, _, _, _, h, _ => by simp at h
  | _ :: _, [], _, _, _, _, _, h => by simp at h
  | s0 :: ρ, t0 :: τ, k, 0, s, t, h, h' => by
    cases h; cases h'
    simp [restore]
  | s0 :: ρ, t0 :: τ, k, j + 1, s, t, h, h' => by
    unfold restore
    rw [List.getElem?_cons_succ, restore_get W ρ τ (k + 1) j s t (by simpa using h) (by simpa using h'), Nat.add_assoc, Nat.add_comm 1 j]
theorem restore_len (W : List Nat) : ∀ (ρ τ : En) (k : Nat), ρ.length = τ.length → (restore W k ρ τ).length = ρ.length
  | [], [], _, _ => rfl
  | [], _ :: _, _, h => by simp at h
  | _ :: _, [], _, h => by simp at h
  | s :: ρ, t :: τ, k, h => by
    unfold restore
    rw [List.length_cons, List.length_cons, restore_len W ρ τ (k + 1) (by simpa using h)]
theorem EnvAt.hideF {c : Zc} {G H : Hp} {ρ : En} {σ : L2.St} {fps : Nat → List Addr} (E : EnvAt c G H ρ σ fps) (F : List Nat) : EnvAt c G H (hide F ρ) σ (fun j => if j ∈ F then [] else fps j) := by
  refine ⟨by rw [hide_length]; exact E.len, E.ext, E.src, fun j sl h => ?_, fun j k hne hj hk ho a ha hb => ?_⟩
  · by_cases hj : j ∈ F
    · rw [hide_in hj h]
      simp only [if_pos hj]
      rfl
    · rw [hide_out hj] at h
      simp only [if_neg hj]
      exact E.ok j sl h
  · rw [hide_length] at hj hk
    by_cases h1 : j ∈ F
    · simp only [if_pos h1] at ha
      cases ha
    · by_cases h2 : k ∈ F
      · simp only [if_pos h2] at hb
        cases hb
      · simp only [if_neg h1] at ha
        simp only [if_neg h2] at hb
        rw [hide_out h1] at ho
        exact E.sep j k hne hj hk ho a ha hb

def forD (mg : DMg) (mb : DMS) (F : List Nat) (R : DEnds) : List D → En → Prop
  | [], ρ => R.nx ρ
  | x :: xs, ρ => mg x ρ fun ρ1 => mb ρ1 ⟨fun ρ' => forD mg mb F R xs (hide F ρ'), R.rt, fun ρ' => R.nx (hide F ρ'), fun ρ' => forD mg mb F R xs (hide F ρ')⟩
def sFor (mi : DMs) (mg : DMg) (mb : DMS) (W F : List Nat) : DMS := fun ρ R => mi ρ fun xs => forD mg mb F ⟨fun ρ' => R.nx (restore W 0 ρ ρ'), R.rt, fun _ => False, fun _ => False⟩ xs (hide F (demoteOff W 0 ρ))

open Classical in
/-- all but the own objects of W's slots is held fast -/
noncomputable def pin (c : Zc) (H : Hp) (ρ : En) (fps : Nat → List Addr) (W : List Nat) : Hp := fun a => if (∃ i ∈ W, i < ρ.length ∧ isOwn ρ[i]? ∧ a ∈ fps i) ∨ c.has a then none else H a
theorem pin_some {c : Zc} {H : Hp} {ρ : En} {fps : Nat → List Addr} {W : List Nat} {a : Addr} {o : HO} (h : H a = some o) (hw : ∀ i ∈ W, i < ρ.length → isOwn ρ[i]? → a ∉ fps i) (n : ¬ c.has a) : pin c H ρ fps W a = some o := by
  unfold pin
  rw [if_neg]
  · exact h
  · rintro (⟨i, hi, hl, ho, ha⟩ | z)
    · exact hw i hi hl ho ha
    · exact n z
theorem pin_own {c : Zc} {H : Hp} {ρ : En} {fps : Nat → List Addr} {W : List Nat} {a : Addr} {i : Nat} (hi : i ∈ W) (hl : i < ρ.length) (ho : isOwn ρ[i]?) (ha : a ∈ fps i) : pin c H ρ fps W a = none := by
  unfold pin
  rw [if_pos (.inl ⟨i, hi, hl, ho, ha⟩)]
theorem pin_le {c : Zc} {H : Hp} {ρ : En} {fps : Nat → List Addr} {W : List Nat} : ∀ a o, pin c H ρ fps W a = some o → H a = some o := fun a o h => by
  unfold pin at h
  split at h
  · cases h
  · exact h
theorem isOwn_lt {ρ : En} {i : Nat} (h : isOwn ρ[i]?) : i < ρ.length := by
  cases hx : ρ[i]? with
  | none => rw [hx] at h; exact h.elim
  | some s => exact (List.getElem?_eq_some_iff.mp hx).1
theorem EnvAt.enter {c : Zc} {G H : Hp} {ρ : En} {σ : L2.St} {fps : Nat → List Addr} (E : EnvAt c G H ρ σ fps) (W : List Nat) : EnvAt c (pin c H ρ fps W) H (demoteOff W 0 ρ) σ fps := by
  have len : (demoteOff W 0 ρ).length = ρ.length := by
    have h := demoteOff_get W ρ 0
    apply Nat.le_antisymm
    · refine Nat.le_of_not_lt fun z => ?_
      have := h ρ.length
      rw [List.getElem?_eq_getElem z, List.getElem?_eq_none (Nat.le_refl _)] at this
      cases this
    · refine Nat.le_of_not_lt fun z => ?_
      have := h (demoteOff W 0 ρ).length
      rw [List.getElem?_eq_none (Nat.le_refl _), List.getElem?_eq_getElem z] at this
      cases this
  have own : ∀ j, isOwn (demoteOff W 0 ρ)[j]? → isOwn ρ[j]? ∧ j ∈ W := fun j ho => by
    rw [demoteOff_get, Nat.zero_add] at ho
    cases hs : ρ[j]? with
    | none => rw [hs] at ho; exact ho.elim
    | some s =>
      rw [hs] at ho
      by_cases hw : W.contains j = true
      · simp only [Option.map_some, hw, if_true] at ho
        exact ⟨ho, by simpa using hw⟩
      · exfalso
        rw [Option.map_some, if_neg hw] at ho
        cases s <;> exact ho
  refine ⟨by rw [len]; exact E.len, fun a o h _ => pin_le a o h, E.src, fun j sl h => ?_, fun j k hne hj hk ho => ?_⟩
  · rw [demoteOff_get, Nat.zero_add] at h
    cases hs : ρ[j]? with
    | none => rw [hs] at h; cases h
    | some s =>
      rw [hs, Option.map_some] at h
      have ok := E.ok j s hs
      have hl : j < ρ.length := (List.getElem?_eq_some_iff.mp hs).1
      by_cases hw : W.contains j = true
      · rw [if_pos hw] at h
        cases h
        cases sl with
        | unk => exact ok
        | val d => exact ok
        | own d =>
          obtain ⟨v, a1, a2, a3, a4, a5⟩ := ok
          exact ⟨v, a1, a2, a3, a4, fun a ha => pin_own (by simpa using hw) hl (by rw [hs]; trivial) ha⟩
      · rw [if_neg hw] at h
        cases s with
        | unk => cases h; exact ok
        | val d => cases h; exact ok
        | own d => cases h; obtain ⟨v, a1, a2, a3, _⟩ := ok; exact ⟨v, a1, a2, a3⟩
  · rw [len] at hj hk
    exact E.sep j k hne hj hk (own j ho).1
theorem EnvAt.leave {c : Zc} {G H H' : Hp} {ρ ρ' : En} {σ σ' : L2.St} {fps fps' : Nat → List Addr} {W : List Nat} (E : EnvAt c G H ρ σ fps) (E' : EnvAt c (pin c H ρ fps W) H' ρ' σ' fps') (o : Off W σ σ') :
    ∃ fps2, EnvAt c G H' (restore W 0 ρ ρ') σ' fps2 := by
  have hl : ρ.length = ρ'.length := by rw [← E.len, ← E'.len, o.len]
  have gH : ∀ a u, G a = some u → ¬ c.has a → pin c H ρ fps W a = some u := fun a u h n => pin_some (E.ext a u h n) (fun i _ hil ho ha => by
    cases hs : ρ[i]? with
    | none => rw [hs] at ho; exact ho
    | some s =>
      rw [hs] at ho
      cases s with
      | own d =>
        obtain ⟨_, _, _, _, _, g⟩ := E.ok i _ hs
        rw [g a ha] at h
        cases h
      | _ => exact ho) n
  have pinned : ∀ j, j < ρ.length → j ∉ W → ∀ a ∈ fps j, pin c H ρ fps W a = H a := fun j hj hw a ha => by
    obtain ⟨u, hu, _⟩ := E.thereAt hj a ha
    rw [hu]
    exact pin_some hu (fun i hi hil ho hia => E.sep i j (fun z => hw (z ▸ hi)) hil hj ho a hia ha) (E.noS hj a ha)
  have stay : ∀ j, j < ρ.length → j ∉ W → ∀ a ∈ fps j, H' a = H a := fun j hj hw a ha => by
    obtain ⟨u, hu, _⟩ := E.thereAt hj a ha
    rw [hu]
    exact E'.ext a u (by rw [pinned j hj hw a ha]; exact hu) (E.noS hj a ha)
  have tk : Tk H H' := fun a u hu hf => E'.ext a u (pin_some hu (fun i _ hil _ ha => by
    obtain ⟨u', hu', hf'⟩ := E.thereAt hil a ha
    rw [hu] at hu'
    cases hu'
    exact hf' hf) (E.src.not_fix hu hf)) (E.src.not_fix hu hf)
  let fps2 : Nat → List Addr := fun j => if W.contains j then (match ρ'[j]? with
    | some (.own _) => fps' j
    | _ => []) else fps j
  have ownW : ∀ j s, ρ'[j]? = some s → W.contains j = true → ∀ a ∈ fps2 j, isOwn (some s) ∧ a ∈ fps' j := fun j s hs hw a ha => by
    simp only [fps2, hw, if_true, hs] at ha
    cases s with
    | own d => exact ⟨trivial, ha⟩
    | _ => cases ha
  refine ⟨fps2, by rw [restore_len W ρ ρ' 0 hl, hl]; exact E'.len, fun a u h n => E'.ext a u (gH a u h n) n, E'.src, fun j sl h => ?_, fun j k hne hj hk ho a ha hb => ?_⟩
  · have hjl : j < ρ.length := by
      have := (List.getElem?_eq_some_iff.mp h).1
      rw [restore_len W ρ ρ' 0 hl] at this
      exact this
    have e1 := List.getElem?_eq_getElem hjl
    have e2 := List.getElem?_eq_getElem (show j < ρ'.length by rw [← hl]; exact hjl)
    rw [restore_get W ρ ρ' 0 j _ _ e1 e2, Nat.zero_add] at h
    by_cases hw : W.contains j = true
    · rw [if_pos hw] at h
      have ok := E'.ok j _ e2
      cases hs : ρ'[j]'(by rw [← hl]; exact hjl) with
      | unk =>
        rw [hs] at h e2
        cases h
        simp only [fps2, hw, if_true, e2]
        rfl
      | val d =>
        rw [hs] at h e2 ok
        simp only [fps2, hw, if_true, e2]
        obtain ⟨v, a1, a2, a3⟩ := ok
        by_cases hsd : solid d = true
        · simp only [hsd, if_true] at h
          cases h
          have z := a2.solid _ _ _ hsd
          rw [z] at a2 a3
          exact ⟨v, a1, a2, a3⟩
        · simp only [if_neg hsd] at h
          cases h
          rfl
      | own d =>
        rw [hs] at h e2 ok
        cases h
        simp only [fps2, hw, if_true, e2]
        obtain ⟨v, a1, a2, a3, a4, a5⟩ := ok
        refine ⟨v, a1, a2, a3, a4, fun a ha => ?_⟩
        cases hg : G a with
        | none => rfl
        | some u =>
          have := gH a u hg (a3 a ha)
          rw [a5 a ha] at this
          cases this
    · rw [if_neg hw] at h
      cases h
      simp only [fps2, if_neg hw]
      have hjW : j ∉ W := by simpa using hw
      have ok := E.ok j _ e1
      have st := stay j hjl hjW
      rw [o.off j hjW]
      cases hs : ρ[j] with
      | unk => rw [hs] at ok; exact ok
      | val d => rw [hs] at ok; obtain ⟨v, a1, a2, a3⟩ := ok; exact ⟨v, a1, a2.mono tk _ _ _ st, a3⟩
      | own d => rw [hs] at ok; obtain ⟨v, a1, a2, a3⟩ := ok; exact ⟨v, a1, a2.mono tk _ _ _ st, a3⟩
  · rw [restore_len W ρ ρ' 0 hl] at hj hk
    have e1 := List.getElem?_eq_getElem hj
    have e2 := List.getElem?_eq_getElem (show j < ρ'.length by rw [← hl]; exact hj)
    have k1 := List.getElem?_eq_getElem hk
    have k2 := List.getElem?_eq_getElem (show k < ρ'.length by rw [← hl]; exact hk)
    rw [restore_get W ρ ρ' 0 j _ _ e1 e2, Nat.zero_add] at ho
    by_cases hw : W.contains j = true
    · obtain ⟨z1, z2⟩ := ownW j _ e2 hw a ha
      by_cases hwk : W.contains k = true
      · obtain ⟨_, z4⟩ := ownW k _ k2 hwk a hb
        exact E'.sep j k hne (by rw [← hl]; exact hj) (by rw [← hl]; exact hk) (by rw [e2]; exact z1) a z2 z4
      · simp only [fps2, if_neg hwk] at hb
        have hkW : k ∉ W := by simpa using hwk
        have ok := E'.ok j _ e2
        cases hs : ρ'[j]'(by rw [← hl]; exact hj) with
        | own d =>
          rw [hs] at ok
          obtain ⟨_, _, _, _, _, a5⟩ := ok
          have := a5 a z2
          rw [pinned k hk hkW a hb] at this
          obtain ⟨u, hu, _⟩ := E.thereAt hk a hb
          rw [hu] at this
          cases this
        | unk => rw [hs] at z1; exact z1
        | val d => rw [hs] at z1; exact z1
    · simp only [fps2, if_neg hw] at ha
      rw [if_neg hw] at ho
      have hjW : j ∉ W := by simpa using hw
      have hoj : isOwn ρ[j]? := by rw [e1]; exact ho
      by_cases hwk : W.contains k = true
      · obtain ⟨z3, z4⟩ := ownW k _ k2 hwk a hb
        have ok := E'.ok k _ k2
        cases hs : ρ'[k]'(by rw [← hl]; exact hk) with
        | own d =>
          rw [hs] at ok
          obtain ⟨_, _, _, _, _, a5⟩ := ok
          have := a5 a z4
          rw [pinned j hj hjW a ha] at this
          obtain ⟨u, hu, _⟩ := E.thereAt hj a ha
          rw [hu] at this
          cases this
        | unk => rw [hs] at z3; exact z3
        | val d => rw [hs] at z3; exact z3
      · simp only [fps2, if_neg hwk] at hb
        exact E.sep j k hne hj hk hoj a ha hb

theorem ds_for {wi : TI} {g : TG} {tb : TS} {mi : DMs} {mg : DMg} {mb : DMS} {U Wg Wb F : List Nat} (hi : DI K S wi mi U) (hg : DG K S g mg Wg) (hb : DS K S tb mb Wb) (hU : U.all (fun u => !(Wg ++ Wb).contains u) = true) :
    DS K S (tFor wi g tb) (sFor mi mg mb (Wg ++ Wb) F) (Wg ++ Wb) := fun G H ρ σ fps E R hm D d =>
  hi G H ρ σ fps E _ hm _ fun xs J H1 FP hR e1 s1 J1 nF tF fF => by
    have E1 := E.step e1 s1
    have FPin : ∀ a ∈ FP, ∀ i, i ∈ Wg ++ Wb → i < ρ.length → isOwn ρ[i]? → a ∉ fps i := fun a ha i hiW hil ho hia => by
      rcases fF.1 a ha with z | ⟨u, hu, hul, z⟩
      · obtain ⟨o, ho', _⟩ := E.thereAt hil a hia
        rw [z] at ho'
        cases ho'
      · have hx := List.all_eq_true.mp hU u hu
        have hne : i ≠ u := fun q => by
          subst q
          have : (Wg ++ Wb).contains i = true := by simpa using hiW
          rw [this] at hx
          cases hx
        exact E.sep i u hne hil hul ho a hia z
    let Pv : Nat → L2.St → Hp → Prop := fun i σ' H' => ∃ (ρ' : En) (fps' : Nat → List Addr), EnvAt ⟨K, S⟩ (pin ⟨K, S⟩ H1 ρ fps (Wg ++ Wb)) H' ρ' σ' fps' ∧ Off (Wg ++ Wb) σ σ' ∧
      forD mg mb F ⟨fun ρ' => R.nx (restore (Wg ++ Wb) 0 ρ ρ'), R.rt, fun _ => False, fun _ => False⟩ (xs.drop i) ρ'
    have fin : ∀ (ρ' : En) (σ' : L2.St) (H' : Hp) (fps' : Nat → List Addr), R.nx (restore (Wg ++ Wb) 0 ρ ρ') → EnvAt ⟨K, S⟩ (pin ⟨K, S⟩ H1 ρ fps (Wg ++ Wb)) H' ρ' σ' fps' → Off (Wg ++ Wb) σ σ' → D.nx σ' H' := fun ρ' σ' H' fps' hn E' o => by
      obtain ⟨fps2, E2⟩ := E1.leave E' o
      exact d.nx _ σ' H' fps2 hn E2 o
    have rtk : ∀ x v H' fp, R.rt x → Ext ⟨K, S⟩ (pin ⟨K, S⟩ H1 ρ fps (Wg ++ Wb)) H' → SrcAt ⟨K, S⟩ H' → Rp ⟨K, S⟩ H' x v fp → NoS ⟨K, S⟩ fp → fp.Nodup → (∀ a ∈ fp, pin ⟨K, S⟩ H1 ρ fps (Wg ++ Wb) a = none) → D.rt v H' := fun x v H' fp hr xe se r n nd fr => by
      have gp : ∀ a u, G a = some u → ¬ Zc.has ⟨K, S⟩ a → pin ⟨K, S⟩ H1 ρ fps (Wg ++ Wb) a = some u := fun a u h nn => pin_some (E1.ext a u h nn) (fun i _ hil ho ha => by
        cases hs : ρ[i]? with
        | none => rw [hs] at ho; exact ho
        | some s =>
          rw [hs] at ho
          cases s with
          | own d =>
            obtain ⟨_, _, _, _, _, g⟩ := E.ok i _ hs
            rw [g a ha] at h
            cases h
          | _ => exact ho) nn
      refine d.rt x v H' fp hr (fun a u h nn => xe a u (gp a u h nn) nn) se r n nd fun a ha => ?_
      cases hg' : G a with
      | none => rfl
      | some u =>
        have := gp a u hg' (n a ha)
        rw [fr a ha] at this
        cases this
    refine for_it J1 Pv ⟨hide F (demoteOff (Wg ++ Wb) 0 ρ), _, (E1.enter (Wg ++ Wb)).hideF F, .refl _ _, hR⟩ (fun i σ' H' _ p => ?_) (fun i x σ' H' H'' hlt p y => ?_) fun σ' H' p => ?_
    · obtain ⟨ρ', fps', E', o, _⟩ := p
      refine ⟨fun a u hu hf => E'.ext a u (pin_some hu (fun i _ hil _ ha => ?_) (s1.not_fix hu hf)) (s1.not_fix hu hf), fun a ha => ?_, E'.src⟩
      · obtain ⟨u', hu', hf'⟩ := E1.thereAt hil a ha
        rw [hu] at hu'
        cases hu'
        exact hf' hf
      · obtain ⟨u, hu⟩ := tF a ha
        rw [hu]
        exact E'.ext a u (pin_some hu (FPin a ha) (nF a ha)) (nF a ha)
    · obtain ⟨ρ', fps', E', o, hf⟩ := p
      obtain ⟨y1, sy, dd, fp, hd, rd, subd⟩ := y
      have hdrop : xs.drop i = dd :: xs.drop (i + 1) := by
        obtain ⟨hlt', hd'⟩ := List.getElem?_eq_some_iff.mp hd
        rw [← hd']
        exact List.drop_eq_getElem_cons hlt'
      rw [hdrop] at hf
      have E2 := E'.step y1 sy
      refine hg _ H'' ρ' σ' fps' E2 dd x fp rd (fun a ha => nF a (subd a ha)) (fun j hj ho a ha hb' => ?_) _ hf _ fun ρ2 σ2 fps2 hR2 E3 g3 => ?_
      · -- an own slot's objects are not held fast
        cases hs : ρ'[j]? with
        | none => rw [hs] at ho; exact ho
        | some s =>
          rw [hs] at ho
          cases s with
          | own dj =>
            obtain ⟨_, _, _, _, _, g⟩ := E'.ok j _ hs
            obtain ⟨u, hu⟩ := tF a (subd a hb')
            have := pin_some (ρ := ρ) (fps := fps) (W := Wg ++ Wb) hu (FPin a (subd a hb')) (nF a (subd a hb'))
            rw [g a ha] at this
            cases this
          | _ => exact ho
      · have o2 : Off (Wg ++ Wb) σ σ2 := o.join ⟨by rw [E3.len, g3.len, E'.len], fun j hj => (g3.off j fun z => hj (List.mem_append_left _ z)).1⟩
        have step : ∀ (ρ4 : En) (σ4 : L2.St) (H4 : Hp) (fps4 : Nat → List Addr), forD mg mb F ⟨fun ρ' => R.nx (restore (Wg ++ Wb) 0 ρ ρ'), R.rt, fun _ => False, fun _ => False⟩ (xs.drop (i + 1)) (hide F ρ4) →
            EnvAt ⟨K, S⟩ (pin ⟨K, S⟩ H1 ρ fps (Wg ++ Wb)) H4 ρ4 σ4 fps4 → Off Wb σ2 σ4 → Pv (i + 1) σ4 H4 := fun ρ4 σ4 H4 fps4 h4 E4 o4 =>
          ⟨hide F ρ4, _, E4.hideF F, o2.join (o4.up fun j h => List.mem_append_right _ h), h4⟩
        exact hb _ H'' ρ2 σ2 fps2 E3 _ hR2 _ ⟨step, fun ρ4 σ4 H4 fps4 h4 E4 o4 => fin (hide F ρ4) σ4 H4 _ h4 (E4.hideF F) (o2.join (o4.up fun j h => List.mem_append_right _ h)), step, rtk⟩
    · obtain ⟨ρ', fps', E', o, hf⟩ := p
      rw [List.drop_eq_nil_of_le (Nat.le_refl _)] at hf
      exact fin ρ' σ' H' fps' hf E' o

/-! ### while -/
/-- I: what holds ahead of each turn, and a number that falls -/
def sWhile (mc : DMt) (mb : DMS) (F : List Nat) : DMS := fun ρ R => ∃ I : Nat → En → Prop, (∃ m, I m ρ) ∧ ∀ m ρ', I m ρ' → mc ρ' fun b =>
  cond b (mb ρ' ⟨fun ρ2 => ∃ m', m' < m ∧ I m' (hide F ρ2), R.rt, fun ρ2 => R.nx (hide F ρ2), fun ρ2 => ∃ m', m' < m ∧ I m' (hide F ρ2)⟩) (R.nx ρ')
theorem ds_while {c : TT} {tb : TS} {mc : DMt} {mb : DMS} {W F : List Nat} (hc : DT K S c mc) (hb : DS K S tb mb W) : DS K S (tWhile c tb) (sWhile mc mb F) W := fun G H ρ σ fps E R hm D d => by
  obtain ⟨I, ⟨m0, h0⟩, hI⟩ := hm
  refine ⟨fun m σ' H' => ∃ (ρ' : En) (fps' : Nat → List Addr), EnvAt ⟨K, S⟩ G H' ρ' σ' fps' ∧ Off W σ σ' ∧ I m ρ', ⟨m0, ρ, fps, E, .refl _ _, h0⟩, ?_⟩
  rintro m σ' H' ⟨ρ', fps', E', o, hm⟩
  refine hc G H' ρ' σ' fps' E' _ (hI m ρ' hm) _ fun b H1 hb' e1 s1 => ?_
  have E1 := E'.step e1 s1
  cases b with
  | false => exact iteF (d.nx ρ' σ' H1 fps' hb' E1 o)
  | true =>
    refine iteT ⟨fun σ2 H2 => ∃ m', m' < m ∧ ∃ (ρ2 : En) (fps2 : Nat → List Addr), EnvAt ⟨K, S⟩ G H2 ρ2 σ2 fps2 ∧ Off W σ σ2 ∧ I m' ρ2, fun σ2 H2 h => h, ?_⟩
    have step : ∀ (ρ4 : En) (σ4 : L2.St) (H4 : Hp) (fps4 : Nat → List Addr), (∃ m', m' < m ∧ I m' (hide F ρ4)) → EnvAt ⟨K, S⟩ G H4 ρ4 σ4 fps4 → Off W σ' σ4 → ∃ m', m' < m ∧ ∃ (ρ2 : En) (fps2 : Nat → List Addr), EnvAt ⟨K, S⟩ G H4 ρ2 σ4 fps2 ∧ Off W σ σ4 ∧ I m' ρ2 :=
      fun ρ4 σ4 H4 fps4 ⟨m', hlt, hi⟩ E4 o4 => ⟨m', hlt, hide F ρ4, _, E4.hideF F, o.join o4, hi⟩
    exact hb G H1 ρ' σ' fps' E1 _ hb' _ ⟨step, fun ρ4 σ4 H4 fps4 h4 E4 o4 => d.nx _ σ4 H4 _ h4 (E4.hideF F) (o.join o4), step, d.rt⟩

/-! ### defs -/
/-- a promise over data: for the data ds, whatever R holds of all that spec tells, R holds of what is handed back; nothing that stood is changed -/
def spD (K : PySem.W.Frag) (spec : List D → (D → Prop) → Prop) : Sp := fun vs H Q _ => ∃ (S : Option (Addr × Addr)) (ds : List D) (fp : List Addr) (R : D → Prop), Rps ⟨K, S⟩ H ds vs fp ∧ NoS ⟨K, S⟩ fp ∧ SrcAt ⟨K, S⟩ H ∧ spec ds R ∧
  ∀ d v H' gp, R d → Ext ⟨K, S⟩ H H' → SrcAt ⟨K, S⟩ H' → Rp ⟨K, S⟩ H' d v gp → NoS ⟨K, S⟩ gp → gp.Nodup → (∀ a ∈ gp, H a = none) → Q v H'
theorem de_call {spec : List D → (D → Prop) → Prop} {E : XK} {t : TA} {ms : DMs} {U : List Nat} (h : DA K S t ms U) : DE K S (tCall (spD K spec) [] E t) (dCall spec ms) [] := fun G H ρ σ fps En R hm Q q =>
  h G H ρ σ fps En _ hm _ fun ds vs H1 fp hR e1 s1 r n f => by
    rw [List.append_nil]
    exact ⟨S, ds, fp, R, r, n, s1, hR, fun d v H' gp hd e2 s2 r2 n2 nd fr => q d v H' gp hd (e1.trans e2) s2 r2 n2 (.fresh (fun a ha => e1.free (fr a ha) (n2 a ha)) nd)⟩
theorem spD_len {spec : List D → (D → Prop) → Prop} {n : Nat} (hs : ∀ ds R, spec ds R → ds.length = n) : ∀ vs H Q E, spD K spec vs H Q E → vs.length = n := fun vs H Q E h => by
  obtain ⟨S, ds, fp, R, r, _, _, hsp, _⟩ := h
  rw [r.len]
  exact hs ds R hsp
/-- the slots at a def's start -/
def startE (N : List Str) (ds : List D) : En := ds.map Sl.val ++ List.replicate (N.length - ds.length) .unk
theorem envStart {c : Zc} {H : Hp} {ds : List D} {vs : List V} {fp : List Addr} (N : List Str) (r : Rps c H ds vs fp) (n : NoS c fp) (s : SrcAt c H) : ∃ fps, EnvAt c H H (startE N ds) (L2.start N vs) fps := by
  have pick : ∀ i : Nat, ∃ gp : List Addr, ∀ d, ds[i]? = some d → ∃ v, vs[i]? = some v ∧ Rp c H d v gp ∧ NoS c gp := fun i => by
    cases h : ds[i]? with
    | none => exact ⟨[], fun d z => by cases z⟩
    | some d =>
      obtain ⟨x, gp, e1, e2, e3, _⟩ := r.at h
      exact ⟨gp, fun d' z => by cases z; exact ⟨x, e1, e2, fun a ha => n a (e3 a ha)⟩⟩
  refine ⟨fun i => if i < ds.length then Classical.choose (pick i) else [], by simp [startE, L2.start, r.len], Ext.refl _ _, s, fun i sl h => ?_, fun i j _ _ _ ho => ?_⟩
  · unfold startE at h
    by_cases hi : i < ds.length
    · rw [List.getElem?_append_left (by simpa using hi), List.getElem?_map, List.getElem?_eq_getElem hi] at h
      cases h
      simp only [if_pos hi]
      obtain ⟨v, e1, e2, e3⟩ := Classical.choose_spec (pick i) _ (List.getElem?_eq_getElem hi)
      refine ⟨v, ?_, e2, e3⟩
      unfold L2.start
      rw [List.getElem?_append_left (by simp only [List.length_map]; rw [r.len]; exact hi), List.getElem?_map, e1]
      rfl
    · rw [List.getElem?_append_right (by simpa using Nat.le_of_not_lt hi)] at h
      have hx := List.mem_of_getElem? h
      rw [List.eq_of_mem_replicate hx]
      simp only [if_neg hi]
      rfl
  · exfalso
    unfold startE at ho
    by_cases hi : i < ds.length
    · rw [List.getElem?_append_left (by simpa using hi), List.getElem?_map, List.getElem?_eq_getElem hi] at ho
      exact ho
    · rw [List.getElem?_append_right (by simpa using Nat.le_of_not_lt hi)] at ho
      cases hx : (List.replicate (N.length - ds.length) Sl.unk)[i - (ds.map Sl.val).length]? with
      | none => rw [hx] at ho; exact ho
      | some s =>
        have := List.eq_of_mem_replicate (List.mem_of_getElem? hx)
        rw [hx, this] at ho
        exact ho
/-- what a def's body is to give -/
def retE (R : D → Prop) : DEnds := { nx := fun _ => R .none, rt := R }
theorem body_of {X : Cx} {body : List Stmt} {t : TS} {m : Option (Addr × Addr) → DMS} {W : List Nat} {spec : List D → (D → Prop) → Prop} {vs : List V} {H : Hp} {Q : VK} {E : XK} (N : List Str) (hp : PSs X body t) (hs : ∀ S, DS K S t (m S) W) (h : spD K spec vs H Q E)
    (hm : ∀ S ds R, spec ds R → m S (startE N ds) (retE R)) : ∃ t, PSs X body t ∧ t { nx := fun _ H' => Q .non H', rt := Q } (L2.start N vs) H := by
  obtain ⟨S, ds, fp, R, r, n, s, hsp, q⟩ := h
  obtain ⟨fps, E0⟩ := envStart N r n s
  refine ⟨t, hp, hs S H H _ _ fps E0 _ (hm S ds R hsp) _ ⟨fun ρ' σ' H' f hn E' _ => q .none .non H' [] hn E'.ext E'.src (non_rp H') .nil List.nodup_nil (fun a h => nomatch h), fun _ _ _ _ h => False.elim h, fun _ _ _ _ h => False.elim h, fun d v H' gp hd e s' r' n' nd fr => q d v H' gp hd e s' r' n' nd fr⟩⟩
end
end Z

set_option Elab.async false
set_option linter.all false
set_option maxRecDepth 100000
set_option maxHeartbeats 4000000
/-! Z5: rules by values: enumerate of tuples, == of data, repr of data. -/
namespace Z
open PySem L2

/-! ### enumerate(tuple) -/
theorem meets_enum1 {v : Value} {o : Obj} {B : Heap → Prop} (b : Begins v o B) :
    Meets (Builtin.«enumerate.__new__» ⟨[.type "enumerate", v], []⟩) (fun _ R s => B s.heap ∧
      R (.ok (.ret (.ref (s.heap.push o).objs.size))) { s with heap := (s.heap.push o).push { cls := .type "enumerate", data := .fields #[.none, .bool false, .ref s.heap.objs.size, rawInt 0, .none, .none] } }) :=
  .of_wp fun prog w A R s h => by
    obtain ⟨hp, g, d, tk, os⟩ := s
    obtain ⟨h1, h2⟩ := h
    have hsub := sub_enumerate
    have road : ∀ {A' : Around} {E : Value → Shared → Prop} {Q : Value → Shared → Prop}, Q (.ref hp.objs.size) ⟨hp.push o, g, d, tk, os⟩ → wpAny (model prog w) A' (pyIter v) Q E ⟨hp, g, d, tk, os⟩ := fun q => b.iter prog w _ _ ⟨hp, g, d, tk, os⟩ _ h1 q
    wp_walk using road
    refine wpAny_stack_any fun st => wpAny_pure ?_
    split
    · rename_i c _ _ _ _ _
      cases (c == Value.type "enumerate") <;> (wp_walk using road; exact ⟨_, rfl, h2⟩)
    · wp_walk using road
      exact ⟨_, rfl, h2⟩
theorem enum_starts {prog : Program} {w : World} {A : Around} {E : Value → Shared → Prop} {s : Shared} {v : Value} {o : Obj} {B : Heap → Prop} {Q : Value → Shared → Prop} (b : Begins v o B) (h1 : B s.heap)
    (h : ∀ h', IsEnum h' (s.heap.objs.size + 1) s.heap.objs.size 0 .none → h'.get? s.heap.objs.size = some o → (∀ c u, s.heap.get? c = some u → h'.get? c = some u) → Q (.ref (s.heap.objs.size + 1)) { s with heap := h' }) :
    wpAny (model prog w) A (call (.type "enumerate") [v]) Q E s := by
  refine callType_new F.called_enumerate (by decide) (F.typeCall_enumerate_1 _) (F.newCall_enumerate_1 _) (fun obj => F.args_object_init_2 obj _) F.entry_enumerate_new (meets_enum1 b) ⟨h1, ?_⟩
  have hz : (s.heap.push o).objs.size = s.heap.objs.size + 1 := Heap.size_push ..
  have he : IsEnum ((s.heap.push o).push { cls := .type "enumerate", data := .fields #[.none, .bool false, .ref s.heap.objs.size, rawInt 0, .none, .none] }) (s.heap.objs.size + 1) s.heap.objs.size 0 .none := by
    have x := Heap.get?_push_size (s.heap.push o) (o := { cls := .type "enumerate", data := .fields #[.none, .bool false, .ref s.heap.objs.size, rawInt 0, .none, .none] }) rfl
    rwa [hz] at x
  show _ ∧ _
  rw [hz]
  exact ⟨⟨_, he, rfl⟩, h _ he (Heap.get?_push_of_some _ (Heap.get?_push_size _ b.free)) fun c u x => Heap.get?_push_of_some _ (Heap.get?_push_of_some _ x)⟩

def IteT (K : PySem.W.Frag) (a : Addr) : It :=
  ⟨fun i H => ∃ (xs : List V) (x : V), SqT K H a xs ∧ xs[i]? = some x, fun i H v H' => ∃ T x, v = .ref T ∧ H T = none ∧ H' = upd H T (.tup [.int (i : Nat), x]) ∧ ∀ xs, SqT K H a xs → xs[i]? = some x, fun i H => ∃ xs : List V, SqT K H a xs ∧ xs.length = i⟩
theorem turn_enumT {P : Program} {w : World} {K : PySem.W.Frag} {elts : List Expr} {kk : Nat} {tpos : Pos} (a e it : Addr) :
    Turn P w K (.Tuple elts kk tpos) (IteT K a) [e, it] e (fun i h => (∃ old, IsEnum h e it ((i : Nat) : Int) old) ∧ h.IsTupleIter it a i ∧ e ≠ it ∧ a ≠ it ∧ e ≠ a) where
  mem := List.mem_cons_self ..
  obj := fun i h st b hb => by
    obtain ⟨⟨old, he⟩, ⟨o, ho, _, hd⟩, _⟩ := st
    rcases List.mem_cons.mp hb with z | hb
    · subst z
      exact ⟨_, he, fun v q => by cases q⟩
    · exact ⟨o, (List.mem_singleton.mp hb) ▸ ho, fun v q => by rw [hd] at q; cases q⟩
  keep := fun i h h' st k => by
    obtain ⟨⟨old, he⟩, hi, hr⟩ := st
    exact ⟨⟨old, k e (List.mem_cons_self ..) _ he⟩, hi.at fun o q => k it (List.mem_cons_of_mem _ (List.mem_cons_self ..)) o q, hr⟩
  item := by
    intro X hP hw hK hc i pins s σ H E I hf st hg
    subst hP hw hK
    obtain ⟨⟨old, he⟩, hit, hne, hai, hea⟩ := st
    obtain ⟨xs, x, hq, hx⟩ := hg
    obtain ⟨its, rv, p, hz⟩ := I.tuple hq
    obtain ⟨u, hu, ru⟩ := rv.get hx
    have hel : e < s.heap.objs.size := Heap.lt_size he
    have hil : it < s.heap.objs.size := by obtain ⟨_, q, _⟩ := hit; exact Heap.lt_size q
    have hi : i < its.length := (List.getElem?_eq_some_iff.mp hu).1
    have hd : X.A.in1.handled = none := I.ok.hd hc
    have tup : s.heap.IsTuple a its.toArray := p
    refine wpAny_pyNext_enum_itemC (Draws.tuple hd it a hai its.toArray) he ⟨hit, tup⟩ (by simpa using hi) hne (by simp only [List.mem_cons, List.not_mem_nil, or_false, not_or]; exact ⟨hne, hea⟩) fun y h' tk hy ho hst hT hsz hk => ?_
    have ey : u = y := by
      have h0 : its[i]? = some y := by simpa using hy
      rw [hu] at h0
      exact Option.some.inj h0
    subst ey
    refine ⟨_, rfl, wpAny_letOwnedTupleGo_enum (s := { s with heap := h', toks := tk + 1 }) ho fun h'' he' sb => ?_⟩
    have hT2 : h''.get? s.heap.objs.size = some { cls := .type "tuple", data := .seq #[.int i tk, u] } := (sb.2 _ (Nat.ne_of_gt hel)).trans hT
    have new : ObjOk X.prog X.w (upd H s.heap.objs.size (.tup [.int (i : Nat), x])) h'' s.heap.objs.size (.tup [.int (i : Nat), x]) :=
      ⟨lim_ok (show 2 ≤ 10000000 by decide), [.int i tk, u], .cons ⟨_, rfl⟩ (.cons ru .nil), ⟨_, hT2, rfl, _, rfl⟩⟩
    have I1 : Inv X pins σ (upd H s.heap.objs.size (.tup [.int (i : Nat), x])) { s with heap := h'', toks := tk + 1 } :=
      I.turnedNew (ch := [e, it]) (fun b ob hb q => (sb.2 b fun z => hb (by simp [z])).trans (hk b ob (fun z => hb (by simp [z])) (fun z => hb (by simp [z])) q)) hf (Nat.le_refl _) new
    refine ⟨.ref s.heap.objs.size, _, I1, rfl, ⟨_, x, rfl, I.hok.fresh (Nat.le_refl _), rfl, fun ys hy' => by rw [I.tuple_inj hy' hq]; exact hx⟩, ⟨⟨u, ?_⟩, hst.1.at fun o q => (sb.2 it (Ne.symm hne)).trans q, hne, hai, hea⟩, fun b hb => ?_⟩
    · rw [show ((i + 1 : Nat) : Int) = (i : Int) + 1 by omega]
      exact he'
    · have hlt : b < s.heap.objs.size := by
        rcases List.mem_cons.mp hb with z | hb
        · exact z ▸ hel
        · exact (List.mem_singleton.mp hb) ▸ hil
      rw [upd_ne (Nat.ne_of_lt hlt)]
      exact (hf b hb).1
  done := by
    intro X hP hw hK hc i pins s σ H E I hf st hg
    subst hP hw hK
    obtain ⟨⟨old, he⟩, hit, hne, hai, hea⟩ := st
    obtain ⟨xs, hq, hx⟩ := hg
    obtain ⟨its, rv, p, hz⟩ := I.tuple hq
    obtain ⟨f0, f1, f2, f3, f4, f5⟩ := hf it (List.mem_cons_of_mem _ (List.mem_cons_self ..))
    have hn : i = its.toArray.size := by rw [← hx, rv.length]; simp
    have hd : X.A.in1.handled = none := I.ok.hd hc
    refine wpAny_pyNext_enum_endD (Draws.tuple hd it a hai its.toArray) he ⟨hn ▸ hit, p⟩ fun h' eb => ⟨rfl, I.turned (t' := s.toks) (fun b o hb q => eb b o hb q) f0 f1 f3 f4 f5⟩
  self := fun A i s Q E st h => by
    obtain ⟨⟨_, he⟩, _⟩ := st
    exact wpAny_pyIter_enum he h
/-- enumerate of a list or a tuple -/
def iEnumS (K : PySem.W.Frag) (ta : TA) : TI := fun σ H R => ta σ H fun vs H1 => ∃ a xs, vs = [.ref a] ∧ ((SqL K H1 a xs ∧ R (Ite K a) H1) ∨ (SqT K H1 a xs ∧ R (IteT K a) H1))
theorem pi_enumS {X : Cx} {e : Expr} {ta : TA} {p pos tpos : Pos} {elts : List Expr} {kk : Nat} (hg : Gl X "enumerate") (hm : X.mg "enumerate" = none) (ha : PA X [e] ta) (hs : starEach [e] X.env = [(false, eval e X.env)] := by rfl) :
    PI X (.Tuple elts kk tpos) (.Call (.Name "enumerate" p) [e] [] pos) (iEnumS X.K ta) := ⟨fun pins s σ H R I h => by
  refine PyProof.Rows.Call_ (ld_blt I hg hm PyProof.Rows.boot_enumerate (PyProof.Rows.callWith_type1 (thn (ha.run pos pins s σ H _ I h) fun us s1 ⟨vs, H1, I1, r1, q1⟩ => ?_) hs rfl))
  obtain ⟨a, xs, rfl, q⟩ := q1
  obtain ⟨u, rfl, ru⟩ := vals1 r1
  cases ru
  have fps : ∀ b ∈ [s1.heap.objs.size + 1, s1.heap.objs.size], FpOk X pins H1 b := fun b hb => by
    have hle : s1.heap.objs.size ≤ b := by
      rcases List.mem_cons.mp hb with z | hb
      · exact z ▸ Nat.le_succ _
      · exact (List.mem_singleton.mp hb) ▸ Nat.le_refl _
    exact I1.fpOk hle (I1.hok.fresh hle)
  rcases q with ⟨hq, q⟩ | ⟨hq, q⟩
  · obtain ⟨its, rv, p', hz⟩ := I1.list hq
    exact call_enumerate_list p'.isList fun h' he hit hsz hk => wpAny_pyIter_enum he ⟨_, [_, _], _, _, H1, rfl, I1.kept (t' := s1.toks) hk, turn_enum a (s1.heap.objs.size + 1) s1.heap.objs.size, ⟨⟨.none, he⟩, hit, Nat.succ_ne_self _⟩, fps, q⟩
  · obtain ⟨its, rv, p', hz⟩ := I1.tuple hq
    have tup : s1.heap.IsTuple a its.toArray := p'
    have hal : a < s1.heap.objs.size := by obtain ⟨o, ho, _⟩ := tup; exact Heap.lt_size ho
    exact enum_starts (begins_tuple a its.toArray) tup fun h' he hit hk => wpAny_pyIter_enum he ⟨_, [_, _], _, _, H1, rfl, I1.kept (t' := s1.toks) hk, turn_enumT a (s1.heap.objs.size + 1) s1.heap.objs.size, ⟨⟨.none, he⟩, ⟨_, hit, rfl, rfl⟩, Nat.succ_ne_self _, Nat.ne_of_lt hal, Nat.ne_of_gt (Nat.lt_succ_of_lt hal)⟩, fps, q⟩⟩
end Z

set_option Elab.async false
set_option linter.all false
set_option maxRecDepth 100000
set_option maxHeartbeats 4000000
/-! Z6: promises where no repr is running around (for repr); the end. -/
namespace Z
open PySem PySem.Spec PyProof.Rows L2

/-- a def's promise, called where no repr runs -/
structure FnG (P : Program) (w : World) (K : PySem.W.Frag) (mg : Str → Option Value) (base : Heap) (k : Nat) (f : Addr) (fd : FuncData) (ps : List Str) (sp : Sp) : Prop where
  len : ∀ vs H Q E, sp vs H Q E → vs.length = ps.length
  run : ∀ (A : Around) (outer : List Env) (s : Shared) (H : Hp) (args : Args) (us : List Value) (vs : List V) (Q : VK) (E : XK), Room k A → A.guards = some [] → Env0 P w K mg base A outer s H → BindsTo s fd args (ps.zip us) → Vals vs us → sp vs H Q E →
    codeAny (model P w) A (.call (.ref f) args) (CR CX0 outer P w H s Q E) s
theorem FnG.mono {P : Program} {w : World} {K : PySem.W.Frag} {mg : Str → Option Value} {base : Heap} {j k : Nat} {f : Addr} {fd : FuncData} {ps : List Str} {sp : Sp} (F : FnG P w K mg base j f fd ps sp) (h : j ≤ k) : FnG P w K mg base k f fd ps sp :=
  ⟨F.len, fun A outer s H args us vs Q E r => F.run A outer s H args us vs Q E (r.mono h)⟩

/-- a name of the module that holds a def with a promise over data -/
structure FnAt (P : Program) (w : World) (K : PySem.W.Frag) (mg : Str → Option Value) (base : Heap) (x : Str) (k : Nat) (n : Nat) (sp : Sp) : Prop where
  ex : ∃ (f : Addr) (fd : FuncData) (ps : List Str), ps.length = n ∧ mg x = some (.ref f) ∧ PySem.W.keepIn K (.ref f) = true ∧ Binds K fd ps [] ∧ FnG P w K mg base k f fd ps sp

section
variable {X : Cx} {k n : Nat} {sp : Sp} {x : Str} {p pos : Pos} {e : Expr} {es : List Expr} {t : TA}
theorem pe_callG (F : FnAt X.prog X.w X.K X.mg X.base x k n sp) (hr : Room k X.A) (hgd : X.A.guards = some []) (hg : Gl X x) (ha : PA X (e :: es) t) (hdb : (x == ("__debug__" : Str)) = false := by decide)
    (he : starEach (e :: es) X.env = (false, eval e X.env) :: starEach es X.env := by rfl) (hpl : (backTo pos (starEach es X.env)).any (·.1) = false := by rfl) : PE X (.Call (.Name x p) (e :: es) [] pos) (tCall sp [] E0 t) := ⟨fun pins s σ H Q I h => by
  obtain ⟨f, fd, ps, _, hm, hk, hb, G⟩ := F.ex
  refine wpAny_Call_Name_kw (ld_glob I hg hm ?_ hdb)
  refine PySem.W.callWith_K (h₀ := X.base) I.ok.mod.kin hk (thn (ha.run pos pins s σ H _ I h) fun us s1 ⟨vs, H1, I1, r, q⟩ => ⟨I1.kIn, ?_⟩) he hpl
  have q : sp vs H1 Q E0 := by
    have q0 : sp (vs ++ []) H1 Q E0 := q
    rwa [List.append_nil] at q0
  have hl : (us ++ []).length = ps.length := by rw [List.append_nil, ← r.length]; exact G.len _ _ _ _ q
  have hb' := hb s1 us I1.kIn hl
  rw [List.append_nil] at hb'
  refine wpAny_call (codeAny_mono (G.run X.A X.stack s1 H1 ⟨us, []⟩ us vs Q E0 hr hgd I1.env0 hb' r q) fun r' s' hq => ?_)
  cases r' with
  | error e => exact False.elim hq
  | ok fl =>
    cases fl with
    | ret u => exact I1.after hq
    | next => exact False.elim hq
    | brk => exact False.elim hq
    | cont => exact False.elim hq⟩
theorem pe_callG0 (F : FnAt X.prog X.w X.K X.mg X.base x k n sp) (hr : Room k X.A) (hgd : X.A.guards = some []) (hg : Gl X x) (hdb : (x == ("__debug__" : Str)) = false := by decide) : PE X (.Call (.Name x p) [] [] pos) (tCall sp [] E0 tNil) := ⟨fun pins s σ H Q I h => by
  obtain ⟨f, fd, ps, _, hm, hk, hb, G⟩ := F.ex
  refine wpAny_Call_Name_kw (ld_glob I hg hm ?_ hdb)
  have q : sp [] H Q E0 := h
  have hb' := hb s [] I.kIn (G.len _ _ _ _ q)
  rw [List.append_nil] at hb'
  refine PySem.W.callWith_K0 I.kIn hk (wpAny_call (codeAny_mono (G.run X.A X.stack s H ⟨[], []⟩ [] [] Q E0 hr hgd I.env0 hb' .nil q) fun r' s' hq => ?_))
  cases r' with
  | error e => exact False.elim hq
  | ok fl =>
    cases fl with
    | ret u => exact I.after hq
    | next => exact False.elim hq
    | brk => exact False.elim hq
    | cont => exact False.elim hq⟩
end

section
variable {P : Program} {w : World} {K : PySem.W.Frag} {mg : Str → Option Value} {base : Heap}
/-- a def of the text: its body's reading keeps the promise -/
theorem fnG_of {x qual : Str} {st : Stmt} {f : Addr} {fd : FuncData} {N ps : List Str} {k : Nat} {sp : Sp} (F : Fun K x qual st f fd) (S : FnScope N ps (defScope st)) (len : ∀ vs H Q E, sp vs H Q E → vs.length = ps.length)
    (hbody : ∀ (cdv : Value) (A : Around) (outer : List Env) (s : Shared) (H : Hp) (vs : List V) (Q : VK) (E : XK), Room k (A.deeper (envOfC qual (defScope st) s.heap.objs.size f cdv)) → A.guards = some [] → sp vs H Q E →
      ∃ t, PSs (cxOf CX0 P w K mg base N qual (defScope st) f cdv A outer s H E).nox (defBody st) t ∧ t { nx := fun _ H' => Q .non H', rt := Q } (L2.start N vs) H) : FnG P w K mg base (k + 1) f fd ps sp := by
  obtain ⟨oc, od, kV, doc, pm, an, cdv, ct, osl, rfl, lk, hcd⟩ := F.ex
  refine ⟨len, fun A outer s H args us vs Q E hr hgd e0 hb r hsp => ?_⟩
  have hl := len _ _ _ _ hsp
  have kept : ∀ b o, base.get? b = some o → s.heap.get? b = some o := fun b o e => (e0.bs b o e).1
  have KX : K.In s.heap := e0.mod.kin.keeps kept
  have lim : s.heap.NoLimit := e0.mod.nolimit.keeps kept
  have kinds : ∀ y ∈ ps.zip us, (defScope st).names.lookup y.1 = some .local ∨ ((defScope st).names.lookup y.1 = some .cell ∧ ((cellsFrom (s.heap.objs.size + 1) (defScope st).names []).lookup y.1).isSome = true) := fun y hy =>
    (S.par y.1 (List.of_mem_zip (a := y.1) (b := y.2) hy).1).imp id fun q => ⟨q, PySem.W.cellsFrom_some _ _ _ (.inl q)⟩
  refine codeAny_call_function hr.depth (KX _ _ lk) rfl S.co S.gen rfl (PySem.W.codeRec_of KX hcd) (hb _ _ _ _ (wpAny_newFunctionEnv_cells S.kind kinds fun env he s1 nw => ?_))
  subst he
  refine ⟨lim.keeps nw.toInCall.keep, codeAny_func ?_⟩
  obtain ⟨t, ht, hq⟩ := hbody cdv A outer s H vs Q E (hr.deeper _) hgd hsp
  have I := inv_start (P := P) (w := w) (CX := CX0) (E := E) S hr.hd e0 hl r nw
  refine wpAny_mono (ht.nox.run [] s1 (L2.start N vs) H _ I hq) (fun fl s' hs => ?_) fun e s' hs => hs
  cases fl with
  | ret u =>
    obtain ⟨v, σ', H', J, rv, q⟩ := hs
    exact ⟨v, H', J.os, J.bare, J.base, J.hok, rv, q⟩
  | next =>
    obtain ⟨σ', H', J, q⟩ := hs
    exact ⟨.non, H', J.os, J.bare, J.base, J.hok, rfl, q⟩
  | brk =>
    obtain ⟨_, _, _, q⟩ := hs
    exact False.elim q
  | cont =>
    obtain ⟨_, _, _, q⟩ := hs
    exact False.elim q
theorem fnAt_of {x : Str} {st : Stmt} {f : Addr} {fd : FuncData} {ps : List Str} {k n : Nat} {sp : Sp} (hm : mg x = some (.ref f)) (F : Fun K x x st f fd) (hn : ps.length = n) (hb : Binds K fd ps []) (G : FnG P w K mg base k f fd ps sp) : FnAt P w K mg base x k n sp :=
  ⟨f, fd, ps, hn, hm, F.kp, hb, G⟩

/-! ### the law's own call -/
theorem lawG {k : Nat} {mb : Str → Option Value} {fa a : Addr} {fd : FuncData} {x : Str} {sp : Sp} {s1 : Shared} {vs : List Value} {ns : List Int}
    (KX : K.In s1.heap) (hns : s1.heap.Ns mainGlobals mg) (hb : s1.heap.Ns builtinsNs mb) (hbb : ∀ x : Str, x ≠ "__name__" → mb x = bootBuiltins x) (hlim : s1.heap.NoLimit) (hg : s1.gens = #[])
    (ha : s1.heap.get? a = some { cls := .type "list", data := .seq vs.toArray }) (hi : PyProof.Rows.IntsAre vs ns) (hl : ns.length ≤ sizeLine) (hr : Room k callerA)
    (F : ∀ base : Heap, K.In base → base.Ns mainGlobals mg → FnG P w K mg base k fa fd [x] sp) (hbind : ∀ (s : Shared) (u : Value), BindsTo s fd ⟨[u], []⟩ [(x, u)])
    (hsp : ∀ H : Hp, Only H → SqL K H a (ns.map V.int) → sp [.ref a] H (fun v _ => v = .bl true) fun _ _ _ => False) :
    codeAny (model P w) callerA (.call (.ref fa) ⟨[.ref a], []⟩) (fun r s' => r = .ok (.ret (.bool true)) ∧ OldK s1.heap s'.heap ∧ s'.os = s1.os ∧ AllBare s'.gens) s1 := by
  have rv := vals_ints hi
  have hlen := hi.length
  have core : ∀ H : Hp, Only H → SqL K H a (ns.map V.int) → HOk P w H s1.heap → (∀ b, H b ≠ none → b = a) → (H a ≠ none → K.lookup a = none) →
      codeAny (model P w) callerA (.call (.ref fa) ⟨[.ref a], []⟩) (fun r s' => r = .ok (.ret (.bool true)) ∧ OldK s1.heap s'.heap ∧ s'.os = s1.os ∧ AllBare s'.gens) s1 := by
    intro H hO hS hok hA hK
    have away : ∀ b : Addr, (∀ o, s1.heap.get? b = some o → b = a → False) → (∃ o, s1.heap.get? b = some o) → H b = none := fun b hne ⟨o, ho⟩ => by
      cases q : H b with
      | none => rfl
      | some u => exact (hne o ho (hA b (by rw [q]; exact fun z => nomatch z))).elim
    have dicts : ∀ {b : Addr} {m : Str → Option Value}, s1.heap.Ns b m → (hidT s1.heap H).Ns b m := fun {b m} ⟨o, es, ep, e, d, r⟩ => ⟨o, es, ep, hidT_get e (away b (fun o' h' hba => by
      subst hba
      rw [e] at h'
      cases h'
      rw [ha] at e
      cases e
      exact nomatch (show Data.seq vs.toArray _ = Data.dict es ep from d)) ⟨o, e⟩), d, r⟩
    have hKb : K.In (hidT s1.heap H) := fun b o e => hidT_get (KX b o e) (by
      cases q : H b with
      | none => rfl
      | some u =>
        have hba : b = a := hA b (by rw [q]; exact fun z => nomatch z)
        subst hba
        rw [hK (by rw [q]; exact fun z => nomatch z)] at e
        cases e)
    obtain ⟨mc, n1, n2⟩ := hlim
    have hM : Mod K mg (hidT s1.heap H) := ⟨hKb, dicts hns, ⟨mb, dicts hb, hbb⟩, mc, dicts n1, n2⟩
    have e0 : Env0 P w K mg (hidT s1.heap H) callerA [] s1 H := ⟨rfl, hM, fun b o e => of_hidT e, Nat.le_of_eq (hidT_size _ _), trivial, (fun b hb => nomatch (show b ∈ ([] : List Addr) from hb)), hok, .of_eq hg⟩
    refine codeAny_mono ((F _ hKb (dicts hns)).run callerA [] s1 H ⟨[.ref a], []⟩ [.ref a] [.ref a] _ _ hr rfl e0 (hbind s1 (.ref a)) (.cons rfl .nil) (hsp H hO hS)) fun r s' h => ?_
    cases r with
    | error e => exact False.elim h
    | ok fl =>
      cases fl with
      | next => exact False.elim h
      | brk => exact False.elim h
      | cont => exact False.elim h
      | ret u =>
        obtain ⟨v, H', os, bare, un, hok', r', q⟩ := h
        obtain rfl : v = .bl true := q
        obtain rfl : u = Value.bool true := r'
        refine ⟨rfl, OldK.of_keep fun b o e => ?_, os, bare⟩
        cases q : H b with
        | none => exact un.keep b o e q (fun z => nomatch (show b ∈ ([] : List Addr) from z)) (fun z => nomatch z)
        | some u =>
          rcases hO b with z | ⟨ob, xs, z⟩
          · rw [q] at z; cases z
          · obtain ⟨e1, _⟩ := hok b _ z
            obtain ⟨e2, _⟩ := hok' b _ (un.frzs b ob _ z)
            rw [e] at e1
            cases e1
            exact e2
  cases hk : K.lookup a with
  | some o =>
    have e := KX a o hk
    rw [ha] at e
    cases e
    exact core (fun _ => none) (fun _ => .inl rfl) (.inr ⟨_, vs.toArray, _, hk, rfl, rfl, rfl, by rw [List.size_toArray, hlen]; exact hl, by simpa using rv⟩) (fun b u z => nomatch (show (none : Option HO) = some u from z)) (fun b z => absurd rfl z) fun z => absurd rfl z
  | none =>
    refine core (fun b => if b = a then some (.frz { cls := .type "list", data := .seq vs.toArray } (.lst (ns.map V.int))) else none) (fun b => ?_) (.inl (.inr ⟨_, if_pos rfl⟩)) (fun b u z => ?_) (fun b z => ?_) fun _ => hk
    · by_cases hb : b = a
      · exact .inr ⟨_, _, if_pos hb⟩
      · exact .inl (if_neg hb)
    · by_cases hb : b = a
      · cases (if_pos hb).symm.trans z
        subst hb
        exact ⟨ha, by rw [List.length_map]; exact hl, vs, _, rv, ha⟩
      · cases (if_neg hb).symm.trans z
    · by_cases hb : b = a
      · exact hb
      · exact absurd (if_neg hb) z
end

theorem walkG {l : PySem.W.OpenLaw} {n k : Nat} {q : Program} {loose : List Str} {XP : (Str → Option Value) → Heap → Prop} {YP : World → Heap → Prop} {d : DefRec} {K : Params → PySem.W.Frag} {sp : PySem.W.Frag → Sp} {x : Str}
    (hn : l.most = some n) (hn2 : n ≤ sizeLine) (hdf : d.params.defaults = []) (hr : Room k callerA) (hY : ∀ (w : World) (h : Heap), YP w h → (K w.params).In h)
    (F : ∀ (w : World) (mg : Str → Option Value) (fa : Addr) (h : Heap), (K w.params).In h → h.Ns mainGlobals mg → mg d.name = some (.ref fa) →
      ∃ fd : FuncData, (∀ (s : Shared) (u : Value), BindsTo s fd ⟨[u], []⟩ [(x, u)]) ∧ ∀ base : Heap, (K w.params).In base → base.Ns mainGlobals mg → FnG l.prog w (K w.params) mg base k fa fd [x] (sp (K w.params)))
    (hsp : ∀ (K : PySem.W.Frag) (H : Hp) (a : Addr) (ns : List Int), ns.length ≤ n → Only H → SqL K H a (ns.map V.int) → sp K [.ref a] H (fun v _ => v = .bl true) fun _ _ _ => False) :
    PySem.W.WalkO q loose XP YP l.row.toRowW d [] (fun f vs => PySem.call f vs) :=
  Att.attach_call hn hdf fun w s0 s1 mg mb fa o pm cd doc a vs ns G Y ho hd hcd hmg hobj hints hlen hg => by
    obtain ⟨fd, hb, hF⟩ := F w mg fa _ (hY w _ Y) G.T.g hmg
    exact lawG (hY w _ Y) G.T.g G.T.b G.T.builtins G.T.nolimit hg hobj hints (Nat.le_trans hlen hn2) hr hF hb fun H hO hS => hsp (K w.params) H a ns hlen hO hS
end Z

set_option Elab.async false
set_option linter.all false
set_option maxRecDepth 100000
set_option maxHeartbeats 4000000
/-! Z7: rules over data: ==, repr, index, sum, len, tuple, int, repeat, enumerate. -/
namespace Z
open PySem PySem.Spec PyProof.Rows L2

/-! ### a value that stands for plain data, as the layer's Dp -/
section
variable {c : Zc} {H : Hp}
mutual
theorem Rp.dp : ∀ (d : D) (v : V) (fp : List Addr), Rp c H d v fp → d.plain = true → Dp c.K H v d
  | .none, v, fp, h, _ => by simp only [Rp] at h; rw [h.1]; exact .non
  | .bool b, v, fp, h, _ => by simp only [Rp] at h; rw [h.1]; exact .bl b
  | .int i, v, fp, h, _ => by simp only [Rp] at h; rw [h.1]; exact .int i
  | .str x, v, fp, h, _ => by simp only [Rp] at h; rw [h.1]; exact .str x
  | .list ds, v, fp, h, p => by
    simp only [Rp] at h
    obtain ⟨a, xs, gp, rfl, rfl, h1, h2⟩ := h
    exact .lst (.of h1) (Rps.dp ds xs gp h2 (by simpa only [PyData.plain] using p))
  | .tuple ds, v, fp, h, p => by
    simp only [Rp] at h
    obtain ⟨a, xs, rfl, h1, h2⟩ := h
    exact .tup h1 (Rps.dp ds xs fp h2 (by simpa only [PyData.plain] using p))
  | .dict kvs, v, fp, h, p => by simp [PyData.plain] at p
theorem Rps.dp : ∀ (ds : List D) (xs : List V) (fp : List Addr), Rps c H ds xs fp → PyData.plainAll ds = true → DpAll c.K H xs ds
  | [], xs, fp, h, _ => by simp only [Rps] at h; rw [h.1]; exact .nil
  | d :: ds, xs, fp, h, p => by
    simp only [Rps] at h
    simp only [PyData.plainAll, Bool.and_eq_true] at p
    obtain ⟨x, ys, f1, f2, rfl, rfl, h1, h2⟩ := h
    exact .cons (Rp.dp d x f1 h1 p.1) (Rps.dp ds ys f2 h2 p.2)
end
end

/-! ### == and != -/
def rEqZ (K : PySem.W.Frag) (neg : Bool) : R2 := fun x y H Q => ∃ d e, Dp K H x d ∧ Dp K H y e ∧ d.plain = true ∧ e.plain = true ∧ min d.depth e.depth ≤ 60 ∧ Q (.bl (if neg then !PyData.eqv d e else PyData.eqv d e)) H
section
variable {X : Cx}
theorem op_eqZ (hu : X.A.units + 64 < cLine) : OpR X (compareOp .Eq) (rEqZ X.K false) := fun pins s σ H x y v u Q I rx ry h => by
  obtain ⟨d, e, hd, he, pd, pe, hz, q⟩ := h
  obtain ⟨as, r1⟩ := Dp.reads I d x v hd rx
  obtain ⟨bs, r2⟩ := Dp.reads I e y u he ry
  exact SeqAt.eq_plain r1 r2 pd pe (by omega) ⟨.bl _, H, I, rfl, q⟩
theorem op_neZ (hu : X.A.units + 64 < cLine) : OpR X (compareOp .NotEq) (rEqZ X.K true) := fun pins s σ H x y v u Q I rx ry h => by
  obtain ⟨d, e, hd, he, pd, pe, hz, q⟩ := h
  obtain ⟨as, r1⟩ := Dp.reads I d x v hd rx
  obtain ⟨bs, r2⟩ := Dp.reads I e y u he ry
  exact SeqAt.ne_plain r1 r2 pd pe (by omega) ⟨.bl _, H, I, rfl, q⟩
end

/-! ### how great a datum is -/
/-- plain, at most k deep, shown by at most w signs -/
structure Ok (k w : Nat) (d : D) : Prop where
  plain : d.plain = true
  depth : d.depth ≤ k
  show' : d.showable = true
  len : d.shown.length ≤ w
theorem Ok.mono {k w k' w' : Nat} {d : D} (h : Ok k w d) (a : k ≤ k') (b : w ≤ w') : Ok k' w' d := ⟨h.plain, Nat.le_trans h.depth a, h.show', Nat.le_trans h.len b⟩
theorem Ok.int {i : Int} (h : i.natAbs < 10 ^ 12) : Ok 0 13 (.int i) := ⟨by simp [PyData.plain, PyData.canLay0], by simp [PyData.depth], by
    simp only [PyData.showable, decide_eq_true_eq]
    exact log2_small (Nat.lt_of_lt_of_le h (by decide)), PyData.shown_int_le h⟩
theorem Ok.bool {b : Bool} : Ok 0 5 (.bool b) := by
  cases b <;> exact ⟨by decide, by decide, by decide, by decide⟩
theorem Ok.none : Ok 0 4 .none := ⟨by decide, by decide, by decide, by decide⟩
theorem plainAll_of : ∀ {ds : List D}, (∀ d ∈ ds, d.plain = true) → PyData.plainAll ds = true
  | [], _ => by simp [PyData.plainAll]
  | d :: ds, h => by
    simp only [PyData.plainAll, Bool.and_eq_true]
    exact ⟨h d (List.mem_cons_self ..), plainAll_of fun e he => h e (List.mem_cons_of_mem _ he)⟩
theorem depthAll_of {k : Nat} : ∀ {ds : List D}, (∀ d ∈ ds, d.depth ≤ k) → PyData.depthAll ds ≤ k
  | [], _ => by simp [PyData.depthAll]
  | d :: ds, h => by
    simp only [PyData.depthAll]
    exact Nat.max_le.mpr ⟨h d (List.mem_cons_self ..), depthAll_of fun e he => h e (List.mem_cons_of_mem _ he)⟩
theorem showableAll_of : ∀ {ds : List D}, (∀ d ∈ ds, d.showable = true) → PyData.showableAll ds = true
  | [], _ => by simp [PyData.showableAll]
  | d :: ds, h => by
    simp only [PyData.showableAll, Bool.and_eq_true]
    exact ⟨h d (List.mem_cons_self ..), showableAll_of fun e he => h e (List.mem_cons_of_mem _ he)⟩
theorem shownAll_map : ∀ ds : List D, PyData.shownAll ds = ds.map PyData.shown
  | [] => by simp [PyData.shownAll]
  | d :: ds => by simp only [PyData.shownAll, List.map_cons, shownAll_map ds]
theorem sum_le {w : Nat} : ∀ {ds : List D}, (∀ d ∈ ds, d.shown.length ≤ w) → ((PyData.shownAll ds).map (·.length)).sum ≤ ds.length * w
  | [], _ => by simp [PyData.shownAll]
  | d :: ds, h => by
    have h1 := h d (List.mem_cons_self ..)
    have h2 := sum_le fun e he => h e (List.mem_cons_of_mem _ he)
    simp only [PyData.shownAll, List.map_cons, List.sum_cons, List.length_cons, Nat.succ_mul]
    omega
theorem Ok.tuple {k w n : Nat} {ds : List D} (h : ∀ d ∈ ds, Ok k w d) (hn : ds.length ≤ n) : Ok (k + 1) (n * (w + 2) + 3) (.tuple ds) := by
  refine ⟨?_, ?_, ?_, ?_⟩
  · simp only [PyData.plain]; exact plainAll_of fun d hd => (h d hd).plain
  · simp only [PyData.depth]
    have := depthAll_of fun d hd => (h d hd).depth
    omega
  · simp only [PyData.showable]; exact showableAll_of fun d hd => (h d hd).show'
  · have h1 := tupleText_len_le (PyData.shownAll ds)
    have h2 := sum_le fun d hd => (h d hd).len
    have h3 : (PyData.shownAll ds).length = ds.length := by rw [shownAll_map, List.length_map]
    have h4 : ds.length * w ≤ n * w := Nat.mul_le_mul_right _ hn
    simp only [PyData.shown]
    rw [Nat.mul_add]
    omega
theorem Ok.list {k w n : Nat} {ds : List D} (h : ∀ d ∈ ds, Ok k w d) (hn : ds.length ≤ n) : Ok (k + 1) (n * (w + 2) + 3) (.list ds) := by
  refine ⟨?_, ?_, ?_, ?_⟩
  · simp only [PyData.plain]; exact plainAll_of fun d hd => (h d hd).plain
  · simp only [PyData.depth]
    have := depthAll_of fun d hd => (h d hd).depth
    omega
  · simp only [PyData.showable]; exact showableAll_of fun d hd => (h d hd).show'
  · have h1 := listText_len_le (PyData.shownAll ds)
    have h2 := sum_le fun d hd => (h d hd).len
    have h3 : (PyData.shownAll ds).length = ds.length := by rw [shownAll_map, List.length_map]
    have h4 : ds.length * w ≤ n * w := Nat.mul_le_mul_right _ hn
    simp only [PyData.shown]
    rw [Nat.mul_add]
    omega

/-! ### repr -/
def rRepr (K : PySem.W.Frag) : List V → Hp → VK → Prop := fun vs H Q => ∃ x d, vs = [x] ∧ Dp K H x d ∧ Ok 40 10000000 d ∧ Q (.str d.shown) H
theorem hasDict_plain : ∀ d : D, d.plain = true → d.hasDict = false := by
  have all : ∀ n : Nat, (∀ d : D, sizeOf d ≤ n → d.plain = true → d.hasDict = false) := by
    intro n
    induction n with
    | zero => intro d hd; cases d <;> simp at hd <;> omega
    | succ n ih =>
      have lst : ∀ xs : List D, sizeOf xs ≤ n → PyData.plainAll xs = true → PyData.hasDictAll xs = false := by
        intro xs
        induction xs with
        | nil => intro _ _; simp [PyData.hasDictAll]
        | cons x xs ihx =>
          intro hs hp
          simp only [List.cons.sizeOf_spec] at hs
          simp only [PyData.plainAll, Bool.and_eq_true] at hp
          simp only [PyData.hasDictAll, ih x (by omega) hp.1, ihx (by omega) hp.2, Bool.or_self]
      intro d hd hp
      cases d with
      | none => simp [PyData.hasDict]
      | bool b => simp [PyData.hasDict]
      | int i => simp [PyData.hasDict]
      | str x => simp [PyData.hasDict]
      | list xs =>
        simp only [PyData.list.sizeOf_spec] at hd
        simp only [PyData.hasDict]
        exact lst xs (by omega) (by simpa only [PyData.plain] using hp)
      | tuple xs =>
        simp only [PyData.tuple.sizeOf_spec] at hd
        simp only [PyData.hasDict]
        exact lst xs (by omega) (by simpa only [PyData.plain] using hp)
      | dict kvs => simp [PyData.plain] at hp
  exact fun d => all (sizeOf d) d (Nat.le_refl _)
theorem cr_repr {X : Cx} (hg : X.A.guards = some []) (hu : X.A.units + 64 < cLine) : CallR X (.builtin "repr") (rRepr X.K) := fun pins s σ H vs us Q I r h => by
  obtain ⟨x, d, rfl, hd, ok, q⟩ := h
  obtain ⟨u, rfl, ru⟩ := vals1 r
  have sz := lim_ok ok.len
  cases hd with
  | non => cases ru; exact P.repr_of_none ⟨.str _, H, I.tok _, ⟨_, rfl⟩, by simpa only [PyData.shown] using q⟩
  | bl b => cases ru; exact P.repr_of_bool ⟨.str _, H, I.tok _, ⟨_, rfl⟩, by simpa only [PyData.shown] using q⟩
  | int i =>
    obtain ⟨t, rfl⟩ := ru
    have hs := ok.show'
    simp only [PyData.showable, decide_eq_true_eq] at hs
    exact P.repr_of_int hs ⟨.str _, H, I.tok _, ⟨_, rfl⟩, by simpa only [PyData.shown] using q⟩
  | str z =>
    obtain ⟨t, rfl⟩ := ru
    exact P.repr_of_str ⟨.str _, H, I.tok _, ⟨_, rfl⟩, by simpa only [PyData.shown] using q⟩ (by simpa only [PyData.shown] using sz)
  | @lst a xs ds hs ha =>
    obtain ⟨as, rr⟩ := Dp.reads I _ _ _ (.lst hs ha) ru
    cases ru
    exact repr_of_reads' rr ok.show' (fun z => by rw [hasDict_plain _ ok.plain] at z; cases z) hg (by have := ok.depth; omega) (fun _ _ e => e) (fun h' u tk hk => ⟨.str _, H, I.kept hk, ⟨_, rfl⟩, q⟩) sz
  | @tup a xs ds hs ha =>
    obtain ⟨as, rr⟩ := Dp.reads I _ _ _ (.tup hs ha) ru
    cases ru
    exact repr_of_reads' rr ok.show' (fun z => by rw [hasDict_plain _ ok.plain] at z; cases z) hg (by have := ok.depth; omega) (fun _ _ e => e) (fun h' u tk hk => ⟨.str _, H, I.kept hk, ⟨_, rfl⟩, q⟩) sz

/-! ### t * k -/
theorem tuple_mul_one (l : Addr) (items : Array Value) (n : Nat) (dd : Option Addr) (sl : Array (Option Value)) (u : Tok) :
    Meets (Builtin.«tuple.__mul__» ⟨[.ref l, .int 1 u], []⟩) (fun _ R s => s.heap.get? l = some { cls := .type "tuple", dict := dd, data := .seq items n, slots := sl } ∧ R (.ok (.ret (Value.ref l))) s) :=
  .of_wp fun prog w A R s h => by
    obtain ⟨hp, g, d, tk, os⟩ := s
    obtain ⟨hl, h⟩ := h
    have f1 := AutoSeq1.idx_int
    wp_walk using wpAny_loadPart' hl
    repeat (first
      | (refine wpAny_ite_false (by decide) ?_; wp_walk using wpAny_loadPart' hl)
      | (refine wpAny_ite_true (by simp) ?_; wp_walk using wpAny_loadPart' hl))
    exact ⟨_, rfl, h⟩
/-- a tuple, not empty, from 1 to 1,000 times -/
def rRepA (K : PySem.W.Frag) : R2 := fun x y H Q => ∃ l k xs, x = .ref l ∧ y = .int k ∧ SqT K H l xs ∧ xs ≠ [] ∧ xs.length ≤ 1000 ∧ ((k = 1 ∧ Q (.ref l) H) ∨ (2 ≤ k ∧ k ≤ 1000 ∧ ∀ p, H p = none → Q (.ref p) (upd H p (.tup (List.replicate k.toNat xs).flatten))))
theorem op_repA {X : Cx} : OpR X (binaryOp .Mult) (rRepA X.K) := fun pins s σ H x y v u Q I rx ry h => by
  obtain ⟨l, k, xs, rfl, rfl, hT, hne, hz, q⟩ := h
  rcases q with ⟨rfl, q⟩ | ⟨h1, h2, q⟩
  · cases rx
    obtain ⟨t, rfl⟩ := ry
    obtain ⟨its, r, ⟨⟨cls, dd, data, sl⟩, ho, hc, n, hd⟩, hs⟩ := I.tuple hT
    simp only at hc hd
    subst hc hd
    exact wpAny_binaryOp_repeat_ref (T := "tuple") (U := "int") (by decide) ⟨_, ho, rfl⟩ (fun s' => typeIs_int s' 1 t) noFill_tuple_mul F.fills_int_mul F.slot_int_rmul repeat_tuple F.slot_int_index.lookup
      (call_meets F.slot_int_rmul (typeIs_int s 1 t) F.entry_int_rmul (F.args_int_rmul_2 _ _) (int_rmul_tuple 1 t l its.toArray n dd sl)
        ⟨ho, rfl, ⟨_, ho, rfl⟩, call_meets F.slot_tuple_mul ⟨_, ho, rfl⟩ F.entry_tuple_mul (F.args_tuple_mul_2 _ _) (tuple_mul_one l its.toArray n dd sl t) ⟨ho, .ref l, H, I, rfl, q⟩⟩)
  · exact op_repT pins s σ H _ _ v u Q I rx ry ⟨l, k, xs, rfl, rfl, hT, hne, h1, h2, hz, q⟩
/-- ints, or a tuple so often -/
def rMul (K : PySem.W.Frag) : R2 := fun x y H Q => rI CMul (fun i j => .int (i * j)) x y H Q ∨ rRepA K x y H Q
theorem op_mulZ {X : Cx} : OpR X (binaryOp .Mult) (rMul X.K) := op_mul.or op_repA

/-! ### the same over data -/
section
variable {K : PySem.W.Frag} {S : Option (Addr × Addr)}
def fEq (neg : Bool) : D → D → (D → Prop) → Prop := fun x y R => x.plain = true ∧ y.plain = true ∧ min x.depth y.depth ≤ 60 ∧ R (.bool (if neg then !PyData.eqv x y else PyData.eqv x y))
theorem od_eq {neg : Bool} : OpD K S (rEqZ K neg) (fEq neg) := .pure fun H x y d e f1 f2 r1 r2 R hf Q q => by
  obtain ⟨h1, h2, h3, hR⟩ := hf
  exact ⟨d, e, r1.dp _ _ _ h1, r2.dp _ _ _ h2, h1, h2, h3, q _ _ hR bl_rp⟩
def fRepr : List D → (D → Prop) → Prop := fun ds R => match ds with
  | [d] => Ok 40 10000000 d ∧ R (.str d.shown)
  | _ => False
theorem rps_one {c : Zc} {H : Hp} {d : D} {xs : List V} {fp : List Addr} (h : Rps c H [d] xs fp) : ∃ x, xs = [x] ∧ Rp c H d x fp := by
  simp only [Rps] at h
  obtain ⟨x, ys, f1, f2, rfl, rfl, h1, rfl, rfl⟩ := h
  exact ⟨x, rfl, by rwa [List.append_nil]⟩
theorem rps_two {c : Zc} {H : Hp} {d e : D} {xs : List V} {fp : List Addr} (h : Rps c H [d, e] xs fp) : ∃ x y f1 f2, xs = [x, y] ∧ fp = f1 ++ f2 ∧ Rp c H d x f1 ∧ Rp c H e y f2 := by
  simp only [Rps] at h
  obtain ⟨x, ys, f1, f2, rfl, rfl, h1, y, zs, f3, f4, rfl, rfl, h2, rfl, rfl⟩ := h
  exact ⟨x, y, f1, f3, rfl, by rw [List.append_nil], h1, h2⟩
theorem cd_repr : CallD K S (rRepr K) fRepr := .pure fun H xs ds fp r R hf Q q => by
  unfold fRepr at hf
  split at hf
  · rename_i d
    obtain ⟨x, rfl, rx⟩ := rps_one r
    exact ⟨x, d, rfl, rx.dp _ _ _ hf.1.plain, hf.1, q _ _ hf.2 str_rp⟩
  · exact hf.elim
/-- x[i] -/
def fIx : D → D → (D → Prop) → Prop := fun x y R => asI y fun i => match x with
  | .list ds => ∃ d, atI ds i = some d ∧ R d
  | .tuple ds => ∃ d, atI ds i = some d ∧ R d
  | .str z => z.length ≤ 10000000 ∧ ∃ c, atI z.cps.toList i = some c ∧ R (.str ⟨#[c]⟩)
  | _ => False
theorem rps_atI {c : Zc} {H : Hp} {ds : List D} {xs : List V} {fp : List Addr} {i : Int} {d : D} (h : Rps c H ds xs fp) (e : atI ds i = some d) : ∃ x gp, atI xs i = some x ∧ Rp c H d x gp ∧ (∀ a ∈ gp, a ∈ fp) ∧ (fp.Nodup → gp.Nodup) := by
  unfold atI at e ⊢
  rw [h.len]
  cases hn : ixN ds.length i with
  | none => rw [hn] at e; cases e
  | some j =>
    rw [hn] at e
    exact h.at (i := j) e
theorem oa_ix : OpA K S (rIx K) fIx := fun H x y d e f1 f2 s r1 n1 r2 n2 R hf Q q => by
  obtain ⟨i, rfl, hf⟩ := asI_ok hf
  have ey := rp_int r2
  subst ey
  cases d with
  | list ds =>
    obtain ⟨z, hz, hR⟩ := hf
    simp only [Rp] at r1
    obtain ⟨a, xs, gp, rfl, rfl, h1, h2⟩ := r1
    obtain ⟨v, kp, e1, e2, e3, e4⟩ := rps_atI h2 hz
    exact .inl ⟨a, xs, i, v, rfl, rfl, .of h1, e1, q z v kp hR e2 (fun b hb => List.mem_cons_of_mem _ (e3 b hb)) fun nd => e4 (List.nodup_cons.mp nd).2⟩
  | tuple ds =>
    obtain ⟨z, hz, hR⟩ := hf
    simp only [Rp] at r1
    obtain ⟨a, xs, rfl, h1, h2⟩ := r1
    obtain ⟨v, kp, e1, e2, e3, e4⟩ := rps_atI h2 hz
    exact .inr (.inl ⟨a, xs, i, v, rfl, rfl, h1, e1, q z v kp hR e2 e3 e4⟩)
  | str z =>
    obtain ⟨hl, c, hc, hR⟩ := hf
    simp only [Rp] at r1
    obtain ⟨rfl, rfl⟩ := r1
    exact .inr (.inr ⟨z, i, c, rfl, rfl, lim_ok hl, hc, q _ _ [] hR (str_rp H) (fun b hb => hb) fun nd => nd⟩)
  | none => exact hf.elim
  | bool b => exact hf.elim
  | int j => exact hf.elim
  | dict kvs => exact hf.elim
/-- sum of a list of ints -/
def fSum : List D → (D → Prop) → Prop := fun ds R => match ds with
  | [.list xs] => ∃ ns : List Int, xs = ns.map .int ∧ R (.int ns.sum)
  | _ => False
theorem rps_ints {c : Zc} {H : Hp} : ∀ {ns : List Int} {xs : List V} {fp : List Addr}, Rps c H (ns.map .int) xs fp → xs = ns.map .int ∧ fp = []
  | [], xs, fp, h => by simpa [Rps] using h
  | n :: ns, xs, fp, h => by
    simp only [List.map_cons, Rps] at h
    obtain ⟨x, ys, f1, f2, rfl, rfl, h1, h2⟩ := h
    simp only [Rp] at h1
    obtain ⟨rfl, rfl⟩ := h1
    obtain ⟨rfl, rfl⟩ := rps_ints h2
    exact ⟨rfl, rfl⟩
theorem cd_sum : CallD K S (rSum K) fSum := .pure fun H xs ds fp r R hf Q q => by
  unfold fSum at hf
  split at hf
  · rename_i es
    obtain ⟨ns, rfl, hR⟩ := hf
    obtain ⟨x, rfl, rx⟩ := rps_one r
    simp only [Rp] at rx
    obtain ⟨a, ys, gp, rfl, rfl, h1, h2⟩ := rx
    obtain ⟨rfl, rfl⟩ := rps_ints h2
    exact ⟨a, ns, rfl, .of h1, q _ _ hR int_rp⟩
  · exact hf.elim
/-- len of a list, a tuple -/
def fLen : List D → (D → Prop) → Prop := fun ds R => match ds with
  | [.list xs] => R (.int xs.length)
  | [.tuple xs] => R (.int xs.length)
  | [.str z] => z.length ≤ 10000000 ∧ R (.int z.length)
  | _ => False
theorem cd_len : CallD K S (fun xs H Q => ∃ x n, xs = [x] ∧ LenV K x H n ∧ Q (.int n) H) fLen := .pure fun H xs ds fp r R hf Q q => by
  unfold fLen at hf
  split at hf
  · rename_i es
    obtain ⟨x, rfl, rx⟩ := rps_one r
    simp only [Rp] at rx
    obtain ⟨a, ys, gp, rfl, rfl, h1, h2⟩ := rx
    exact ⟨_, es.length, rfl, .inl ⟨ys, .of h1, h2.len.symm⟩, q _ _ hf int_rp⟩
  · rename_i es
    obtain ⟨x, rfl, rx⟩ := rps_one r
    simp only [Rp] at rx
    obtain ⟨a, ys, rfl, h1, h2⟩ := rx
    exact ⟨_, es.length, rfl, .inr ⟨ys, h1, h2.len.symm⟩, q _ _ hf int_rp⟩
  · rename_i z
    obtain ⟨x, rfl, rx⟩ := rps_one r
    simp only [Rp] at rx
    obtain ⟨rfl, rfl⟩ := rx
    exact ⟨_, z.length, rfl, ⟨lim_ok hf.1, rfl⟩, q _ _ hf.2 int_rp⟩
  · exact hf.elim
/-- tuple(list), tuple(tuple), nothing in it that may change -/
def fTuple : List D → (D → Prop) → Prop := fun ds R => match ds with
  | [.list xs] => solids xs = true ∧ R (.tuple xs)
  | [.tuple xs] => solids xs = true ∧ R (.tuple xs)
  | _ => False
theorem cd_tuple : CallD K S (fun xs H Q => ∃ p ys, xs = [.ref p] ∧ ((SqL K H p ys ∧ ∀ l, H l = none → Q (.ref l) (upd H l (.tup ys))) ∨ (SqT K H p ys ∧ Q (.ref p) H))) fTuple := fun H xs ds fp s r n R hf Q q => by
  unfold fTuple at hf
  split at hf
  · rename_i es
    obtain ⟨x, rfl, rx⟩ := rps_one r
    simp only [Rp] at rx
    obtain ⟨a, ys, gp, rfl, rfl, h1, h2⟩ := rx
    have z := h2.solid _ _ _ hf.1
    subst z
    refine ⟨a, ys, rfl, .inl ⟨.of h1, fun l hl => ?_⟩⟩
    have e := Ext.new (c := ⟨K, S⟩) (o := .tup ys) hl
    refine q (.tuple es) (.ref l) _ [] hf.2 e (s.new hl) ?_ .nil List.nodup_nil fun b hb => by cases hb
    simp only [Rp]
    exact ⟨l, ys, rfl, .of upd_same, h2.ext .nil e s⟩
  · rename_i es
    obtain ⟨x, rfl, rx⟩ := rps_one r
    have z := rx.solid _ _ _ (by simp only [solid]; exact hf.1)
    subst z
    have rx' := rx
    simp only [Rp] at rx
    obtain ⟨a, ys, rfl, h1, h2⟩ := rx
    exact ⟨a, ys, rfl, .inr ⟨h1, q _ _ H [] hf.2 (Ext.refl _ _) s rx' .nil List.nodup_nil fun b hb => by cases hb⟩⟩
  · exact hf.elim
/-- int(int), int(bool) -/
def fInt : List D → (D → Prop) → Prop := fun ds R => match ds with
  | [.int i] => R (.int i)
  | [.bool b] => R (.int (if b then 1 else 0))
  | _ => False
theorem cd_int : CallD K S (fun xs H Q => (∃ i, xs = [.int i] ∧ Q (.int i) H) ∨ ∃ k, xs = [.bl k] ∧ Q (.int (if k then 1 else 0)) H) fInt := .pure fun H xs ds fp r R hf Q q => by
  unfold fInt at hf
  split at hf
  · obtain ⟨x, rfl, rx⟩ := rps_one r
    exact .inl ⟨_, by rw [rp_int rx], q _ _ hf int_rp⟩
  · obtain ⟨x, rfl, rx⟩ := rps_one r
    exact .inr ⟨_, by rw [rp_bl rx], q _ _ hf int_rp⟩
  · exact hf.elim
/-- ints; a tuple k times -/
def fMul : D → D → (D → Prop) → Prop := fun x y R => asI y fun j => match x with
  | .int i => CMul i j ∧ R (.int (i * j))
  | .tuple xs => xs ≠ [] ∧ xs.length ≤ 1000 ∧ solids xs = true ∧ 1 ≤ j ∧ j ≤ 1000 ∧ R (.tuple (List.replicate j.toNat xs).flatten)
  | _ => False
theorem rps_rep {c : Zc} {H : Hp} {ds : List D} {xs : List V} (h : Rps c H ds xs []) : ∀ n : Nat, Rps c H (List.replicate n ds).flatten (List.replicate n xs).flatten []
  | 0 => .nil
  | n + 1 => by
    rw [List.replicate_succ, List.replicate_succ, List.flatten_cons, List.flatten_cons]
    exact h.app (rps_rep h n)
theorem od_mul : OpD K S (rMul K) fMul := fun H x y d e f1 f2 s r1 n1 r2 n2 R hf Q q => by
  obtain ⟨j, rfl, hf⟩ := asI_ok hf
  have ey := rp_int r2
  subst ey
  cases d with
  | int i => exact .inl ⟨i, j, rp_int r1, rfl, hf.1, q _ _ H [] hf.2 (Ext.refl _ _) s (int_rp H) .nil List.nodup_nil fun b hb => by cases hb⟩
  | tuple ds =>
    obtain ⟨h1, h2, h3, h4, h5, hR⟩ := hf
    have z := r1.solid _ _ _ (by simp only [solid]; exact h3)
    subst z
    have r1' := r1
    simp only [Rp] at r1
    obtain ⟨a, xs, rfl, hT, hs⟩ := r1
    have hne : xs ≠ [] := fun z => h1 (by
      have := hs.len
      rw [z] at this
      exact List.eq_nil_of_length_eq_zero this.symm)
    refine .inr ⟨a, j, xs, rfl, rfl, hT, hne, by rw [hs.len]; exact h2, ?_⟩
    by_cases hj : j = 1
    · subst hj
      exact .inl ⟨rfl, q _ _ H [] (by simpa using hR) (Ext.refl _ _) s r1' .nil List.nodup_nil fun b hb => by cases hb⟩
    · refine .inr ⟨by omega, h5, fun p hp => ?_⟩
      have e := Ext.new (c := ⟨K, S⟩) (o := .tup (List.replicate j.toNat xs).flatten) hp
      refine q _ (.ref p) _ [] hR e (s.new hp) ?_ .nil List.nodup_nil fun b hb => by cases hb
      simp only [Rp]
      exact ⟨p, _, rfl, .of upd_same, (rps_rep hs _).ext .nil e s⟩
  | _ => exact hf.elim
/-- enumerate -/
def enumD (ds : List D) : List D := (List.range ds.length).map fun i => .tuple [.int (i : Nat), ds.getD i .none]
def dEnum (ms : DMs) : DMs := fun ρ R => ms ρ fun ds => match ds with
  | [.list xs] => R (enumD xs)
  | [.tuple xs] => R (enumD xs)
  | _ => False
theorem enum_at {ds : List D} {i : Nat} {d : D} (h : ds[i]? = some d) : (enumD ds)[i]? = some (.tuple [.int (i : Nat), d]) := by
  have hi := (List.getElem?_eq_some_iff.mp h).1
  unfold enumD
  rw [List.getElem?_map, List.getElem?_range hi]
  show some (PyData.tuple [.int (i : Nat), ds.getD i .none]) = _
  rw [List.getD_eq_getElem?_getD, h]
  rfl
theorem iter_pairs {c : Zc} {H1 : Hp} {J : It} {ds : List D} {xs : List V} {gp FP : List Addr} {G : Hp → Prop} (w : Walk J xs.length G (YPair (fun i => some (.int (i : Nat))) fun i => xs[i]?)) (r : Rps c H1 ds xs gp) (sub : ∀ b ∈ gp, b ∈ FP)
    (hG : ∀ H', Tk H1 H' → (∀ b ∈ FP, H' b = H1 b) → G H') (nF : NoS c FP) : IterOk c J H1 (enumD ds) FP := by
  have el : (enumD ds).length = xs.length := by simp [enumD, r.len]
  unfold IterOk
  rw [el]
  refine w.mono (fun H' g => hG H' g.1 g.2.1) fun i H' x H'' hi g y => ?_
  obtain ⟨T, a, b, rfl, hT, rfl, ha, hb⟩ := y
  cases ha
  have e := Ext.new (c := c) (o := .tup [.int (i : Nat), b]) hT
  obtain ⟨d, fp, e1, e2, e3⟩ := (r.mono g.1 _ _ _ fun b hb => g.2.1 b (sub b hb)).atV hb
  refine ⟨e, g.2.2.new hT, .tuple [.int (i : Nat), d], fp, enum_at e1, ?_, fun b hb => sub b (e3 b hb)⟩
  simp only [Rp]
  refine ⟨T, _, rfl, .of upd_same, ?_⟩
  have h1 : Rps c (upd H' T (.tup [.int (i : Nat), b])) [.int (i : Nat), d] [.int (i : Nat), b] ([] ++ fp) := .cons (int_rp _) (.one (e2.ext (fun a ha => nF a (sub a (e3 a ha))) e g.2.2))
  exact h1
theorem walk_enumT {a : Addr} {xs : List V} : Walk (IteT K a) xs.length (fun H => SqT K H a xs) (YPair (fun i => some (.int (i : Nat))) (fun i => xs[i]?)) where
  goes := fun i H hi h => ⟨xs, xs[i], h, List.getElem?_eq_getElem hi⟩
  stops := fun H h => ⟨xs, h, rfl⟩
  yields := fun i H v H' _ h y => by
    obtain ⟨T, x, e1, e2, e3, e4⟩ := y
    exact ⟨T, .int (i : Nat), x, e1, e2, e3, rfl, e4 xs h⟩
theorem di_enum {t : TA} {ms : DMs} {U : List Nat} (h : DA K S t ms U) : DI K S (iEnumS K t) (dEnum ms) U := fun G H ρ σ fps E R hm Q q =>
  h G H ρ σ fps E _ hm _ fun ds vs H1 fp hR e1 s1 r1 n1 f1 => by
    have th : ∀ a ∈ fp, ∃ o, H1 a = some o := fun a ha => let ⟨o, ho, _⟩ := r1.there _ _ _ a ha; ⟨o, ho⟩
    split at hR
    · rename_i es
      obtain ⟨x, rfl, rx⟩ := rps_one r1
      simp only [Rp] at rx
      obtain ⟨a, xs, gp, rfl, rfl, h1, h2⟩ := rx
      exact ⟨a, xs, rfl, .inl ⟨.of h1, q _ _ H1 _ hR e1 s1 (iter_pairs walk_enum h2 (fun b hb => List.mem_cons_of_mem _ hb) (fun H' _ k => .of (by rw [k a (List.mem_cons_self ..)]; exact h1)) n1) n1 th f1⟩⟩
    · rename_i es
      obtain ⟨x, rfl, rx⟩ := rps_one r1
      simp only [Rp] at rx
      obtain ⟨a, xs, rfl, h1, h2⟩ := rx
      exact ⟨a, xs, rfl, .inr ⟨h1, q _ _ H1 _ hR e1 s1 (iter_pairs walk_enumT h2 (fun b hb => hb) (fun H' tk _ => tk.sq h1) n1) n1 th f1⟩⟩
    · exact hR.elim
end
end Z

set_option Elab.async false
set_option linter.all false
set_option maxRecDepth 100000
set_option maxHeartbeats 4000000
/-! Z8: the law's own source of draws: its reading. -/
namespace Z
open PySem PySem.Spec PyProof.Rows L2

abbrev srcKv (sc : Addr) (l m t : Int) : List (Key × V) := [(Sum.inr "cells", .ref sc), (Sum.inr "left", .int l), (Sum.inr "mixed", .int m), (Sum.inr "turn", .int t)]
theorem kv_cells {sc : Addr} {l m t : Int} : valV (srcKv sc l m t) (Sum.inr "cells") = some (.ref sc) := rfl
theorem kv_left {sc : Addr} {l m t : Int} : valV (srcKv sc l m t) (Sum.inr "left") = some (.int l) := rfl
theorem kv_mixed {sc : Addr} {l m t : Int} : valV (srcKv sc l m t) (Sum.inr "mixed") = some (.int m) := rfl
theorem kv_turn {sc : Addr} {l m t : Int} : valV (srcKv sc l m t) (Sum.inr "turn") = some (.int t) := rfl
theorem put_left {sc : Addr} {l m t k : Int} : putK (srcKv sc l m t) (Sum.inr "left") (.int k) = srcKv sc k m t := rfl
theorem put_mixed {sc : Addr} {l m t k : Int} : putK (srcKv sc l m t) (Sum.inr "mixed") (.int k) = srcKv sc l k t := rfl
theorem put_turn {sc : Addr} {l m t k : Int} : putK (srcKv sc l m t) (Sum.inr "turn") (.int k) = srcKv sc l m k := rfl

abbrev gtR : R2 := rI0 fun i j => .bl (decide (j < i))
abbrev ltR : R2 := rI0 fun i j => .bl (decide (i < j))
abbrev addR : R2 := rI0 fun i j => .int (i + j)
abbrev mulR : R2 := rI CMul fun i j => .int (i * j)
abbrev modR : R2 := rI (fun _ j => 0 < j) fun i j => .int (i % j)
abbrev divR : R2 := rI CDiv fun i j => .int (i / j)
abbrev max2R : List V → Hp → VK → Prop := fun xs H Q => ∃ i j, xs = [.int i, .int j] ∧ Q (.int (if j > i then j else i)) H
abbrev int1R : List V → Hp → VK → Prop := fun xs H Q => (∃ i, xs = [.int i] ∧ Q (.int i) H) ∨ ∃ k, xs = [.bl k] ∧ Q (.int (if k then 1 else 0)) H
abbrev lenR (K : PySem.W.Frag) : List V → Hp → VK → Prop := fun xs H Q => ∃ x n, xs = [x] ∧ LenV K x H n ∧ Q (.int n) H
abbrev tKey (x : Str) : TE := tDGet (tVar 0) (tC (.str x))
/-- the body of _law_pick -/
def tPick (K : PySem.W.Frag) : TS :=
  tSeq (tWhile (tAnd (tTest (tOp gtR (tVar 1) (tC (.int 1)))) (tAnd (tTest (tOp ltR (tKey "left") (tC (.int 2)))) (tTest (tOp gtR (tCB (lenR K) (tCons (tKey "cells") tNil)) (tC (.int 0))))))
      (sDPut (tVar 0) (tC (.str "left")) (tBM0 K "list" rPop (tKey "cells"))))
  (tSeq (tAsg (tKey "left") (gName 2))
  (tSeq (tIfS (tOr (tTest (tOp ltR (tVar 1) (tC (.int 2)))) (tTest (tOp gtR (tVar 2) (tC (.int 1)))))
      (tSeq (sDPut (tVar 0) (tC (.str "left")) (tOp divR (tVar 2) (tCB max2R (tCons (tC (.int 1)) (tCons (tVar 1) tNil)))))
        (tRet (tOp modR (tCB int1R (tCons (tVar 2) tNil)) (tCB max2R (tCons (tC (.int 1)) (tCons (tVar 1) tNil))))))
      tNext)
  (tSeq (sDPut (tVar 0) (tC (.str "turn")) (tOp addR (tKey "turn") (tC (.int 1))))
  (tSeq (tAsg (tOp modR (tCB int1R (tCons (tOp addR (tKey "mixed") (tOp mulR (tKey "turn") (tC (.int 104729)))) tNil)) (tC (.int 998244353))) (gName 3))
  (tSeq (tAsg (tOp modR (tCB int1R (tCons (tOp addR (tOp mulR (tVar 3) (tVar 3)) (tOp mulR (tKey "turn") (tC (.int 17)))) tNil)) (tC (.int 2147483647))) (gName 3))
  (tSeq (sDPut (tVar 0) (tC (.str "mixed")) (tVar 3))
    (tRet (tOp modR (tCB int1R (tCons (tOp divR (tVar 3) (tC (.int 16))) tNil)) (tVar 1)))))))))

def specPick : List D → (D → Prop) → Prop := fun ds R => ∃ n : Int, ds = [srcD, .int n] ∧ n ≤ 1000000000 ∧ ∀ k : Int, 0 ≤ k → (k < n ∨ k = 0) → R (.int k)

section
variable {K : PySem.W.Frag} {S : Option (Addr × Addr)}
theorem rp_src {c : Zc} {H : Hp} {v : V} {fp : List Addr} (h : Rp c H srcD v fp) : ∃ p, c.S = some p ∧ v = .ref p.1 ∧ fp = [] := by
  unfold srcD at h
  simp only [Rp, isSrc] at h
  simpa using h
theorem src_rp {c : Zc} {H : Hp} {p : Addr × Addr} (h : c.S = some p) : Rp c H srcD (.ref p.1) [] := by
  simp only [srcD, Rp]
  rw [if_pos (show isSrc [(.none, .none)] = true from rfl)]
  exact ⟨p, h, rfl, trivial⟩
/-- the source's own objects stand so -/
structure SrcSt (p : Addr × Addr) (H : Hp) (ns : List Int) (l m t : Int) : Prop where
  d : H p.1 = some (.dK (srcKv p.2 l m t))
  c : H p.2 = some (.lst (ns.map V.int))
  len : ns.length ≤ 63
  nn : ∀ n ∈ ns, 0 ≤ n
  l0 : 0 ≤ l
  m0 : 0 ≤ m
  m1 : m < 2147483648
  t0 : 0 ≤ t
theorem SrcSt.at {p : Addr × Addr} {H : Hp} {ns : List Int} {l m t : Int} (s : SrcSt p H ns l m t) (hne : p.1 ≠ p.2) : SrcAt ⟨K, some p⟩ H := fun q hq => by
  cases hq
  exact ⟨hne, ns, l, m, t, s.len, s.nn, s.l0, s.m0, s.m1, s.t0, s.d, s.c⟩
theorem SrcSt.putD {p : Addr × Addr} {H : Hp} {ns : List Int} {l m t l' m' t' : Int} (s : SrcSt p H ns l m t) (hne : p.1 ≠ p.2) (a : 0 ≤ l') (b : 0 ≤ m') (c : m' < 2147483648) (d : 0 ≤ t') : SrcSt p (upd H p.1 (.dK (srcKv p.2 l' m' t'))) ns l' m' t' :=
  ⟨upd_same, by rw [upd_ne (Ne.symm hne)]; exact s.c, s.len, s.nn, a, b, c, d⟩
theorem ext_src {p : Addr × Addr} {H H1 : Hp} {a : Addr} {o : HO} (e : Ext ⟨K, some p⟩ H H1) (ha : a = p.1 ∨ a = p.2) : Ext ⟨K, some p⟩ H (upd H1 a o) := fun b u hb hn => by
  rw [upd_ne fun z => hn ⟨p, rfl, by rw [z]; exact ha⟩]
  exact e b u hb hn
theorem get_of {p : Addr × Addr} {H : Hp} {ns : List Int} {l m t : Int} (s : SrcSt p H ns l m t) {x : Str} {v : V} (e : valV (srcKv p.2 l m t) (Sum.inr x) = some v) : DGet H p.1 (.str x) (some v) := by
  rw [← e]
  exact DGet.k (k := Sum.inr x) s.d
theorem key_of {p : Addr × Addr} {H : Hp} {ns : List Int} {l m t : Int} {σ : L2.St} {Q : VK} (s : SrcSt p H ns l m t) (h0 : σ[0]? = some (some (.ref p.1))) {x : Str} {v : V} (e : valV (srcKv p.2 l m t) (Sum.inr x) = some v) (q : Q v H) : tKey x σ H Q :=
  ⟨_, h0, p.1, v, rfl, get_of s e, q⟩
theorem small4 : (4 : Nat) < sizeLine := Nat.lt_of_lt_of_le (by decide : 4 < 10000000) (lim_ok (Nat.le_refl _))

theorem pick_reading {vs : List V} {H : Hp} {Q : VK} {E : XK} (h : spD K specPick vs H Q E) : tPick K { nx := fun _ H' => Q .non H', rt := Q } (L2.start ["source", "many", "left", "mixed"] vs) H := by
  obtain ⟨S, ds, fp, R, r, ns0, s, ⟨n, rfl, hn, hR⟩, q⟩ := h
  obtain ⟨v, w, f1, f2, rfl, rfl, rv, rw'⟩ := rps_two r
  obtain ⟨p, hp, rfl, rfl⟩ := rp_src rv
  have hp' : S = some p := hp
  subst hp'
  have ew := rp_int rw'
  subst ew
  have q' : ∀ k H', 0 ≤ k → (k < n ∨ k = 0) → Ext ⟨K, some p⟩ H H' → SrcAt ⟨K, some p⟩ H' → Q (.int k) H' := fun k H' h1 h2 e s' => q (.int k) (.int k) H' [] (hR k h1 h2) e s' (int_rp H') .nil List.nodup_nil fun a h => by cases h
  obtain ⟨hne, ns, l, m, t, z1, z2, z3, z4, z5, z6, z7, z8⟩ := s p rfl
  have st0 : SrcSt p H ns l m t := ⟨z7, z8, z1, z2, z3, z4, z5, z6⟩
  have hst : L2.start ["source", "many", "left", "mixed"] [V.ref p.1, .int n] = [some (.ref p.1), some (.int n), none, none] := rfl
  rw [hst]
  -- the loop
  refine ⟨fun k σ H1 => σ = [some (.ref p.1), some (.int n), none, none] ∧ ∃ ns l, k = ns.length ∧ SrcSt p H1 ns l m t ∧ Ext ⟨K, some p⟩ H H1, ⟨ns.length, rfl, ns, l, rfl, st0, Ext.refl _ _⟩, ?_⟩
  rintro k σ H1 ⟨rfl, ns, l, rfl, st, ex⟩
  -- behind the loop
  have after : (tSeq (tAsg (tKey "left") (gName 2))
      (tSeq (tIfS (tOr (tTest (tOp ltR (tVar 1) (tC (.int 2)))) (tTest (tOp gtR (tVar 2) (tC (.int 1)))))
        (tSeq (sDPut (tVar 0) (tC (.str "left")) (tOp divR (tVar 2) (tCB max2R (tCons (tC (.int 1)) (tCons (tVar 1) tNil)))))
          (tRet (tOp modR (tCB int1R (tCons (tVar 2) tNil)) (tCB max2R (tCons (tC (.int 1)) (tCons (tVar 1) tNil))))))
        tNext)
      (tSeq (sDPut (tVar 0) (tC (.str "turn")) (tOp addR (tKey "turn") (tC (.int 1))))
      (tSeq (tAsg (tOp modR (tCB int1R (tCons (tOp addR (tKey "mixed") (tOp mulR (tKey "turn") (tC (.int 104729)))) tNil)) (tC (.int 998244353))) (gName 3))
      (tSeq (tAsg (tOp modR (tCB int1R (tCons (tOp addR (tOp mulR (tVar 3) (tVar 3)) (tOp mulR (tKey "turn") (tC (.int 17)))) tNil)) (tC (.int 2147483647))) (gName 3))
      (tSeq (sDPut (tVar 0) (tC (.str "mixed")) (tVar 3))
        (tRet (tOp modR (tCB int1R (tCons (tOp divR (tVar 3) (tC (.int 16))) tNil)) (tVar 1))))))))) { nx := fun _ H' => Q .non H', rt := Q } [some (.ref p.1), some (.int n), none, none] H1 := by
    refine key_of st rfl kv_left ?_
    -- if many < 2 or left > 1
    have yes : (n < 2 ∨ 1 < l) → (tSeq (sDPut (tVar 0) (tC (.str "left")) (tOp divR (tVar 2) (tCB max2R (tCons (tC (.int 1)) (tCons (tVar 1) tNil)))))
          (tRet (tOp modR (tCB int1R (tCons (tVar 2) tNil)) (tCB max2R (tCons (tC (.int 1)) (tCons (tVar 1) tNil)))))) { nx := fun _ H' => Q .non H', rt := Q } [some (.ref p.1), some (.int n), some (.int l), none] H1 := fun hy => by
      have hm1 : (1 : Int) ≤ (if n > 1 then n else 1) := by split <;> omega
      have hm2 : (if n > 1 then n else 1) ≤ 1000000000 := by split <;> omega
      refine ⟨.int l, rfl, .int n, rfl, 1, n, rfl, l, _, rfl, rfl, ⟨by omega, by omega⟩, .ref p.1, rfl, p.1, _, rfl, DPut.k (k := Sum.inr "left") st.d small4, ?_⟩
      have st2 := st.putD hne (l' := l / (if n > 1 then n else 1)) (m' := m) (t' := t) (Int.ediv_nonneg st.l0 (by omega)) st.m0 st.m1 st.t0
      refine ⟨.int l, rfl, .inl ⟨l, rfl, .int n, rfl, 1, n, rfl, l, _, rfl, rfl, by omega, ?_⟩⟩
      refine q' _ _ (Int.emod_nonneg _ (by omega)) ?_ (ext_src ex (.inl rfl)) (st2.at hne)
      have h3 := Int.emod_lt_of_pos l (show (0 : Int) < (if n > 1 then n else 1) by omega)
      have h4 := Int.emod_nonneg l (show (if n > 1 then n else 1) ≠ (0 : Int) by omega)
      by_cases h : n > 1
      · rw [if_pos h] at h3 ⊢
        exact .inl h3
      · rw [if_neg h] at h3 h4 ⊢
        exact .inr (by omega)
    refine ⟨.int n, rfl, n, 2, rfl, rfl, _, rfl, ite2 (fun hlt => ?_) (fun hlt => ?_)⟩
    · exact iteT (yes (.inl (of_decide_eq_true hlt)))
    · have hn2 : ¬ n < 2 := fun z => hlt (decide_eq_true z)
      refine ⟨.int l, rfl, l, 1, rfl, rfl, _, rfl, ite2 (fun hl => ?_) (fun hl => ?_)⟩
      · exact yes (.inr (of_decide_eq_true hl))
      · -- a number mixed anew
        refine key_of st rfl kv_turn ⟨t, 1, rfl, rfl, .ref p.1, rfl, p.1, _, rfl, DPut.k (k := Sum.inr "turn") st.d small4, ?_⟩
        have st2 := st.putD hne (l' := l) (m' := m) (t' := t + 1) st.l0 st.m0 st.m1 (by have := st.t0; omega)
        refine key_of st2 rfl kv_mixed (key_of st2 rfl kv_turn ⟨t + 1, 104729, rfl, rfl, .inr ⟨by omega, by omega⟩, m, _, rfl, rfl, .inl ⟨_, rfl, _, 998244353, rfl, rfl, by omega, ?_⟩⟩)
        show tSeq _ _ _ [some (.ref p.1), some (.int n), some (.int l), some (.int ((m + (t + 1) * 104729) % 998244353))] _
        generalize hx : (m + (t + 1) * 104729) % 998244353 = x
        have x0 : 0 ≤ x := by rw [← hx]; exact Int.emod_nonneg _ (by omega)
        have x1 : x < 998244353 := by rw [← hx]; exact Int.emod_lt_of_pos _ (by omega)
        refine ⟨.int x, rfl, .int x, rfl, x, x, rfl, rfl, .inl ⟨by omega, by omega⟩, key_of st2 rfl kv_turn ⟨t + 1, 17, rfl, rfl, .inr ⟨by omega, by omega⟩, _, _, rfl, rfl, .inl ⟨_, rfl, _, 2147483647, rfl, rfl, by omega, ?_⟩⟩⟩
        show tSeq _ _ _ [some (.ref p.1), some (.int n), some (.int l), some (.int ((x * x + (t + 1) * 17) % 2147483647))] _
        generalize hy : (x * x + (t + 1) * 17) % 2147483647 = y
        have y0 : 0 ≤ y := by rw [← hy]; exact Int.emod_nonneg _ (by omega)
        have y1 : y < 2147483647 := by rw [← hy]; exact Int.emod_lt_of_pos _ (by omega)
        refine ⟨.int y, rfl, .ref p.1, rfl, p.1, _, rfl, DPut.k (k := Sum.inr "mixed") st2.d small4, ?_⟩
        have st3 := st2.putD hne (l' := l) (m' := y) (t' := t + 1) st.l0 y0 (by omega) st2.t0
        refine ⟨.int y, rfl, y, 16, rfl, rfl, ⟨by omega, by omega⟩, .inl ⟨_, rfl, .int n, rfl, _, n, rfl, rfl, by omega, ?_⟩⟩
        exact q' _ _ (Int.emod_nonneg _ (by omega)) (.inl (Int.emod_lt_of_pos _ (by omega))) (ext_src (ext_src ex (.inl rfl)) (.inl rfl)) (st3.at hne)
  -- the loop's test
  refine ⟨.int n, rfl, n, 1, rfl, rfl, _, rfl, ite2 (fun h1 => ?_) (fun h1 => ?_)⟩
  · refine key_of st rfl kv_left ⟨l, 2, rfl, rfl, _, rfl, ite2 (fun h2 => ?_) (fun h2 => ?_)⟩
    · refine key_of st rfl kv_cells ⟨.ref p.2, ns.length, rfl, .inl ⟨_, .of st.c, by simp⟩, _, 0, rfl, rfl, _, rfl, ite2 (fun h3 => ?_) (fun h3 => ?_)⟩
      · -- source["left"] = source["cells"].pop()
        have hpos : 0 < ns.length := by
          have := of_decide_eq_true h3
          omega
        obtain ⟨ms, y, rfl⟩ : ∃ ms y, ns = ms ++ [y] := ⟨ns.dropLast, ns.getLast (fun z => by rw [z] at hpos; cases hpos), (List.dropLast_concat_getLast _).symm⟩
        refine ⟨fun σ' H' => ∃ m', m' < (ms ++ [y]).length ∧ (σ' = [some (.ref p.1), some (.int n), none, none] ∧ ∃ ns l, m' = ns.length ∧ SrcSt p H' ns l m t ∧ Ext ⟨K, some p⟩ H H'), fun σ' H' h => h, ?_⟩
        refine key_of st rfl kv_cells ⟨.inl ⟨rfl, _, .of st.c⟩, p.2, _, .int y, rfl, rfl, st.c, by simp, .ref p.1, rfl, p.1, _, rfl, DPut.k (k := Sum.inr "left") (kvs := srcKv p.2 l m t) (by rw [upd_ne hne]; exact st.d) small4, ?_⟩
        refine ⟨ms.length, by simp, rfl, ms, y, rfl, ⟨upd_same, ?_, ?_, fun k hk => st.nn k (List.mem_append_left _ hk), st.nn y (by simp), st.m0, st.m1, st.t0⟩, ext_src (ext_src ex (.inr rfl)) (.inl rfl)⟩
        · rw [upd_ne (Ne.symm hne), upd_same]
          simp
        · have := st.len
          simp at this
          omega
      · exact after
    · exact iteF after
  · exact iteF after
end
end Z

set_option Elab.async false
set_option linter.all false
set_option maxRecDepth 100000
set_option maxHeartbeats 4000000
/-! Z9: the source made; the law's body. -/
namespace Z
open PySem PySem.Spec PyProof.Rows L2

abbrev absR : List V → Hp → VK → Prop := fun xs H Q => ∃ i, xs = [.int i] ∧ Q (.int (if i < 0 then -i else i)) H
/-- the body of _law_source -/
def tSource (K : PySem.W.Frag) : TS :=
  tSeq (tAsg (tC (.int 11)) (gName 1))
  (tSeq (tFor (iList K (tVar 0)) (gName 2) (tAsg (tOp modR (tCB int1R (tCons (tOp addR (tOp addR (tOp mulR (tVar 1) (tC (.int 69069))) (tOp mulR (tVar 2) (tC (.int 31)))) (tC (.int 5))) tNil)) (tC (.int 2147483629))) (gName 1)))
    (tRet (tDisp [(tC (.str "cells"), tRevL K (tLc (iList K (tVar 0)) (gName 2) tYes (tCB absR (tCons (tVar 2) tNil)) [2])), (tC (.str "left"), tC (.int 1)), (tC (.str "mixed"), tVar 1), (tC (.str "turn"), tC (.int 0))])))
/-- a new source, all else as it was -/
def spSource (K : PySem.W.Frag) : Sp := fun vs H Q _ => ∃ (a : Addr) (ns : List Int), vs = [.ref a] ∧ SqL K H a (ns.map V.int) ∧ ns.length ≤ 63 ∧
  ∀ p H', Same H H' → p.1 ≠ p.2 → H p.1 = none → H p.2 = none → (∃ ns l m t, SrcSt p H' ns l m t) → Q (.ref p.1) H'
theorem same_new {H H' : Hp} {p : Addr} {o : HO} (s : Same H H') (h : H' p = none) : Same H (upd H' p o) := fun b u e => by
  rw [upd_ne (ne_of_none (s b u e) h)]
  exact s b u e
theorem abs_nat (i : Int) : (if i < 0 then -i else i) = (i.natAbs : Int) := by split <;> omega
theorem source_reading {K : PySem.W.Frag} {vs : List V} {H : Hp} {Q : VK} {E : XK} (h : spSource K vs H Q E) : tSource K { nx := fun _ H' => Q .non H', rt := Q } (L2.start ["script", "mixed", "cell"] vs) H := by
  obtain ⟨a, ns, rfl, hS, hlen, q⟩ := h
  have hst : L2.start ["script", "mixed", "cell"] [V.ref a] = [some (.ref a), none, none] := rfl
  rw [hst]
  have item : ∀ (i : Nat) (x : V), (ns.map V.int)[i]? = some x → ∃ c, x = .int c := fun i x e => by
    rw [List.getElem?_map] at e
    cases hc : ns[i]? with
    | none => rw [hc] at e; cases e
    | some c => rw [hc] at e; cases e; exact ⟨c, rfl⟩
  refine ⟨.ref a, rfl, a, rfl, ⟨_, hS⟩, for_list (K := K) (a := a) (xs := ns.map V.int) (fun i σ H1 => ∃ m y, σ = [some (.ref a), some (.int m), y] ∧ 0 ≤ m ∧ m < 2147483648 ∧ H1 = H) ⟨11, none, rfl, by omega, by omega, rfl⟩ ?_ ?_ ?_⟩
  · rintro i σ H1 _ ⟨m, y, rfl, _, _, rfl⟩
    exact hS
  · rintro i x σ H1 hi ⟨m, y, rfl, m0, m1, rfl⟩
    obtain ⟨c, rfl⟩ := item i x hi
    refine ⟨.int m, rfl, m, 69069, rfl, rfl, .inl ⟨by omega, by omega⟩, .int c, rfl, c, 31, rfl, rfl, .inr ⟨by omega, by omega⟩, _, _, rfl, rfl, _, 5, rfl, rfl, .inl ⟨_, rfl, _, 2147483629, rfl, rfl, by omega, ?_⟩⟩
    have h1 := Int.emod_nonneg (m * 69069 + c * 31 + 5) (show (2147483629 : Int) ≠ 0 by omega)
    have h2 := Int.emod_lt_of_pos (m * 69069 + c * 31 + 5) (show (0 : Int) < 2147483629 by omega)
    exact ⟨_, some (.int c), rfl, h1, by omega, rfl⟩
  · rintro σ H1 ⟨m, y, rfl, m0, m1, rfl⟩
    -- the dict
    intro p hp
    refine ⟨.ref a, rfl, a, rfl, ⟨_, (show Same H1 (upd H1 p (.dK [])) from same_new (Same.refl _) hp).seq hS⟩, fun Dd hD => ?_⟩
    have s1 : Same H1 (upd H1 p (.dK [])) := same_new (Same.refl _) hp
    have hpD : p ≠ Dd := ne_of_none upd_same hD
    refine lc_list (K := K) (a := a) (xs := ns.map V.int) (fun i H2 => ∃ acc : List Int, H2 = upd (upd H1 p (.dK [])) Dd (.lst (acc.map V.int)) ∧ acc.length = i ∧ ∀ k ∈ acc, 0 ≤ k) ⟨[], rfl, rfl, fun k hk => by cases hk⟩ ?_ ?_ ?_
    · rintro i H2 _ ⟨acc, rfl, _, _⟩
      exact (same_new s1 hD).seq hS
    · rintro i x H2 hi ⟨acc, rfl, hacc, hnn⟩
      obtain ⟨c, rfl⟩ := item i x hi
      have hil : i < ns.length := by
        have := (List.getElem?_eq_some_iff.mp hi).1
        simpa using this
      refine ⟨rfl, ?_⟩
      unfold tYes
      dsimp only
      rw [if_pos rfl]
      refine ⟨.int c, rfl, c, rfl, acc.map V.int, upd_same, ?_, acc ++ [if c < 0 then -c else c], ?_, by simp [hacc], fun k hk => ?_⟩
      · rw [List.length_map, hacc]
        exact Nat.lt_of_lt_of_le (by omega : i < 10000000) (lim_ok (Nat.le_refl _))
      · rw [upd_upd, List.map_append]
        rfl
      · rcases List.mem_append.mp hk with hk | hk
        · exact hnn k hk
        · rw [List.mem_singleton.mp hk, abs_nat]
          exact Int.natCast_nonneg _
    · rintro H2 ⟨acc, rfl, hacc, hnn⟩
      refine ⟨Dd, _, rfl, .of upd_same, fun r hr => ?_⟩
      have hrp : r ≠ p := fun z => by
        rw [z, upd_ne hpD, upd_same] at hr
        cases hr
      refine ⟨.int m, rfl, ?_⟩
      have hdk : upd (upd (upd H1 p (.dK [])) Dd (.lst (acc.map V.int))) r (.lst (acc.map V.int).reverse) p = some (.dK []) := by
        rw [upd_ne (Ne.symm hrp), upd_ne hpD, upd_same]
      refine ⟨hdk, [(Sum.inr "cells", .ref r), (Sum.inr "left", .int 1), (Sum.inr "mixed", .int m), (Sum.inr "turn", .int 0)], rfl, (show 4 ≤ 15 by decide), ?_⟩
      have s2 : Same H1 (upd (upd (upd H1 p (.dK [])) Dd (.lst (acc.map V.int))) r (.lst (acc.map V.int).reverse)) := same_new (same_new s1 hD) hr
      refine q (p, r) _ (fun b u e => ?_) (Ne.symm hrp) hp ((same_new s1 hD).free hr) ⟨acc.reverse, 1, m, 0, ⟨?_, ?_, ?_, fun k hk => hnn k (List.mem_reverse.mp hk), by omega, m0, m1, by omega⟩⟩
      · rw [upd_ne (ne_of_none e hp)]
        exact s2 b u e
      · exact upd_same
      · rw [upd_ne hrp, upd_same, List.map_reverse]
      · rw [List.length_reverse, hacc, List.length_map]
        exact hlen

/-- the law: a list of ints, at most 63, and True -/
def spLaw (K : PySem.W.Frag) : Sp := fun vs H Q _ => ∃ (a : Addr) (ns : List Int), vs = [.ref a] ∧ SqL K H a (ns.map V.int) ∧ ns.length ≤ 63 ∧ ∀ H', Q (.bl true) H'
def startL (n : Nat) : En := .unk :: .val srcD :: List.replicate n .unk
def lawE : DEnds := { nx := fun _ => False, rt := fun d => d = .bool true }
theorem law_reading {K : PySem.W.Frag} {rest : TS} {m : DMS} {W : List Nat} {N : List Str} {n : Nat} {vs : List V} {H : Hp} {Q : VK} {E : XK} (hN : N.length = n + 2) (hs : ∀ S, DS K S rest m W) (hm : m (startL n) lawE) (h : spLaw K vs H Q E) :
    (tSeq (tAsg (tCall (spSource K) [] E0 (tCons (tVar 0) tNil)) (gName 1)) rest) { nx := fun _ H' => Q .non H', rt := Q } (L2.start N vs) H := by
  obtain ⟨a, ns, rfl, hS, hlen, q⟩ := h
  have hst : L2.start N [V.ref a] = some (.ref a) :: none :: List.replicate n none := by
    unfold L2.start
    rw [hN]
    rfl
  rw [hst]
  refine ⟨.ref a, rfl, a, ns, rfl, hS, hlen, fun p H' sm hne f1 f2 hsrc => ?_⟩
  obtain ⟨ns', l, mm, t, st⟩ := hsrc
  have E0 : EnvAt ⟨K, some p⟩ (fun _ => none) H' (startL n) (some (.ref a) :: some (.ref p.1) :: List.replicate n none) (fun _ => []) := by
    refine ⟨by simp [startL], fun b u h _ => (by cases h), st.at hne, fun i sl h => ?_, fun i j _ _ _ _ b hb => by cases hb⟩
    match i, h with
    | 0, h => cases h; rfl
    | 1, h => cases h; exact ⟨.ref p.1, rfl, src_rp rfl, .nil⟩
    | i + 2, h =>
      have : sl = .unk := List.eq_of_mem_replicate (List.mem_of_getElem? (show (List.replicate n Sl.unk)[i]? = some sl from h))
      subst this
      rfl
  refine hs (some p) _ _ _ _ _ E0 _ hm _ ⟨fun _ _ _ _ h => False.elim h, fun _ _ _ _ h => False.elim h, fun _ _ _ _ h => False.elim h, fun d v H2 fp hd _ _ r _ _ _ => ?_⟩
  have hd' : d = .bool true := hd
  subst hd'
  rw [rp_bl r]
  exact q H2
theorem law_of {X : Cx} {body : List Stmt} {K : PySem.W.Frag} {rest : TS} {m : DMS} {W : List Nat} {n : Nat} {vs : List V} {H : Hp} {Q : VK} {E : XK} (N : List Str) (hN : N.length = n + 2)
    (hp : PSs X body (tSeq (tAsg (tCall (spSource K) [] E0 (tCons (tVar 0) tNil)) (gName 1)) rest)) (hs : ∀ S, DS K S rest m W) (hm : m (startL n) lawE) (h : spLaw K vs H Q E) : ∃ t, PSs X body t ∧ t { nx := fun _ H' => Q .non H', rt := Q } (L2.start N vs) H :=
  ⟨_, hp, law_reading hN hs hm h⟩
end Z

set_option Elab.async false
set_option linter.all false
set_option maxRecDepth 100000
set_option maxHeartbeats 4000000
/-! Z10: more rules over data: +, unpacking a list, x op= e. -/
namespace Z
open PySem PySem.Spec PyProof.Rows L2

/-- ints, texts, tuples, lists -/
def rAddZ (K : PySem.W.Frag) : R2 := fun x y H Q => rI0 (fun i j => .int (i + j)) x y H Q ∨ (∃ i j, x = .str i ∧ y = .str j ∧ i.length + j.length ≤ sizeLine ∧ Q (.str (i ++ j)) H) ∨ rCatA K x y H Q ∨ rCat x y H Q
theorem op_addZ {X : Cx} : OpR X (binaryOp .Add) (rAddZ X.K) := op_add.or (op_add_str.or (op_catA.or op_cat))
section
variable {K : PySem.W.Frag} {S : Option (Addr × Addr)}
def fAdd : D → D → (D → Prop) → Prop := fun x y R => match x with
  | .int i => asI y fun j => R (.int (i + j))
  | .str a => match y with
    | .str b => a.length + b.length ≤ 10000000 ∧ R (.str (a ++ b))
    | _ => False
  | .tuple a => match y with
    | .tuple b => solids a = true ∧ solids b = true ∧ a.length + b.length ≤ 10000000 ∧ R (.tuple (a ++ b))
    | _ => False
  | .list a => match y with
    | .list b => solids a = true ∧ solids b = true ∧ a.length + b.length ≤ 10000000 ∧ R (.list (a ++ b))
    | _ => False
  | _ => False
theorem od_add : OpD K S (rAddZ K) fAdd := fun H x y d e f1 f2 s r1 n1 r2 n2 R hf Q q => by
  cases d with
  | int i =>
    obtain ⟨j, rfl, hR⟩ := asI_ok (show asI e _ from hf)
    exact .inl ⟨i, j, rp_int r1, rp_int r2, q _ _ H [] hR (Ext.refl _ _) s (int_rp H) .nil List.nodup_nil fun b hb => by cases hb⟩
  | str a =>
    cases e with
    | str b =>
      obtain ⟨hl, hR⟩ := hf
      simp only [Rp] at r1 r2
      exact .inr (.inl ⟨a, b, r1.1, r2.1, lim_ok hl, q _ _ H [] hR (Ext.refl _ _) s (str_rp H) .nil List.nodup_nil fun b hb => by cases hb⟩)
    | _ => exact False.elim hf
  | tuple a =>
    cases e with
    | tuple b =>
      obtain ⟨h1, h2, hl, hR⟩ := hf
      have z1 := r1.solid _ _ _ (by simp only [solid]; exact h1)
      have z2 := r2.solid _ _ _ (by simp only [solid]; exact h2)
      subst z1 z2
      have r1' := r1
      have r2' := r2
      simp only [Rp] at r1 r2
      obtain ⟨l, xs, rfl, hl1, hs1⟩ := r1
      obtain ⟨k, ys, rfl, hl2, hs2⟩ := r2
      have both := hs1.app hs2
      refine .inr (.inr (.inl ⟨l, k, xs, ys, rfl, rfl, hl1, hl2, by rw [hs1.len, hs2.len]; exact lim_ok hl, fun hx => ?_, fun _ hy => ?_, fun _ _ p hp => ?_⟩))
      · have ha : a = [] := List.eq_nil_of_length_eq_zero (by rw [← hs1.len, hx]; rfl)
        subst ha
        exact q _ _ H [] hR (Ext.refl _ _) s r2' .nil List.nodup_nil fun b hb => by cases hb
      · have hb : b = [] := List.eq_nil_of_length_eq_zero (by rw [← hs2.len, hy]; rfl)
        subst hb
        rw [List.append_nil] at hR
        exact q _ _ H [] hR (Ext.refl _ _) s r1' .nil List.nodup_nil fun b hb => by cases hb
      · have e := Ext.new (c := ⟨K, S⟩) (o := .tup (xs ++ ys)) hp
        refine q _ (.ref p) _ [] hR e (s.new hp) ?_ .nil List.nodup_nil fun b hb => by cases hb
        simp only [Rp]
        exact ⟨p, _, rfl, .of upd_same, both.ext .nil e s⟩
    | _ => exact False.elim hf
  | list a =>
    cases e with
    | list b =>
      obtain ⟨h1, h2, hl, hR⟩ := hf
      simp only [Rp] at r1 r2
      obtain ⟨l, xs, g1, rfl, rfl, hl1, hs1⟩ := r1
      obtain ⟨k, ys, g2, rfl, rfl, hl2, hs2⟩ := r2
      have z1 := hs1.solid _ _ _ h1
      have z2 := hs2.solid _ _ _ h2
      subst z1 z2
      have both := hs1.app hs2
      refine .inr (.inr (.inr ⟨l, k, xs, ys, rfl, rfl, hl1, hl2, by rw [hs1.len, hs2.len]; exact lim_ok hl, fun p hp => ?_⟩))
      have e := Ext.new (c := ⟨K, S⟩) (o := .lst (xs ++ ys)) hp
      refine q _ (.ref p) _ [p] hR e (s.new hp) ?_ (fun b hb => by rw [List.mem_singleton.mp hb]; exact s.fresh hp) (List.pairwise_singleton _ _) fun b hb => by rw [List.mem_singleton.mp hb]; exact hp
      simp only [Rp]
      exact ⟨p, _, [], rfl, rfl, upd_same, both.ext .nil e s⟩
    | _ => exact False.elim hf
  | none => exact False.elim hf
  | bool b => exact False.elim hf
  | dict kvs => exact False.elim hf

/-- a, b = a list of that length -/
def asL (d : D) (k : List D → Prop) : Prop := match d with
  | .list ds => k ds
  | _ => False
def dgUnl (n : Nat) (ms : DMgs) : DMg := fun d ρ R => asL d fun ds => ds.length = n ∧ ms ds ρ R
theorem dg_unl {n : Nat} {gs : TGs} {ms : DMgs} {W : List Nat} (h : DGs K S gs ms W) : DG K S (gUnl K n gs) (dgUnl n ms) W := fun G H ρ σ fps E d v fp r ns sep R hm Nn q => by
  cases d with
  | list ds =>
    simp only [Rp] at r
    obtain ⟨a, xs, gp, rfl, rfl, h1, h2⟩ := r
    obtain ⟨hl, hm⟩ := hm
    refine ⟨a, xs, rfl, .of h1, by rw [h2.len]; exact hl, h G H ρ σ fps E ds xs gp h2 (fun b hb => ns b (List.mem_cons_of_mem _ hb)) (fun i hi ho b hb hb' => sep i hi ho b hb (List.mem_cons_of_mem _ hb')) R hm Nn fun ρ' σ' fps' hR E' g' => q ρ' σ' fps' hR E' ⟨g'.len, g'.off, fun j hj hl => ⟨fun b hb => List.mem_cons_of_mem _ ((g'.on j hj hl).1 b hb), (g'.on j hj hl).2⟩⟩⟩
  | _ => exact hm.elim

/-- x op= e over ints -/
def sAugI (i : Nat) (f : Int → Int → Int) (m : DM) : DMS := fun ρ R => look ρ[i]? fun d => asI d fun a => m ρ fun e => asI e fun b => R.nx (ρ.set i (.own (.int (f a b))))
theorem ds_augI (i : Nat) {f : Int → Int → Int} {te : TE} {m : DM} {U : List Nat} (h : DE K S te m U) : DS K S (tAug i te (ipI f)) (sAugI i f m) [i] := fun G H ρ σ fps E R hm D d => by
  have v := de_var (K := K) (S := S) i G H ρ σ fps E (fun x => asI x fun a => m ρ fun e => asI e fun b => R.nx (ρ.set i (.own (.int (f a b))))) hm (fun x H' => H' = H → ∃ a, x = .int a ∧ m ρ fun e => asI e fun b => R.nx (ρ.set i (.own (.int (f a b))))) (fun d v H' fp hR e s r ns fr => by
    obtain ⟨a, rfl, ha⟩ := asI_ok hR
    exact fun _ => ⟨a, rp_int r, ha⟩)
  obtain ⟨x, ex, hx⟩ := v
  obtain ⟨a, rfl, ha⟩ := hx rfl
  refine ⟨.int a, ex, h G H ρ σ fps E _ ha _ fun y w H1 fp hR e1 s1 r n fr => ?_⟩
  obtain ⟨b, rfl, hb⟩ := asI_ok hR
  refine ⟨a, b, rfl, rp_int r, d.nx _ _ H1 _ hb ((E.step e1 s1).setOwn (int_rp H1) .nil List.nodup_nil (fun b hb => by cases hb) i fun j _ _ a ha => by cases ha) off_set⟩
end
end Z

set_option Elab.async false
set_option linter.all false
set_option maxRecDepth 100000
set_option maxHeartbeats 4000000
/-! Z11: helps for the plain part. -/
namespace Z
open PySem PySem.Spec PyProof.Rows L2

/-! ### comprehensions -/
section
variable {tg : DMg} {mt : DMt} {me : DM} {ρ : En} {R : List D → Prop}
theorem compD_acc {α : Type} (enc f : α → D) : ∀ (ys : List α) (acc : List D), (∀ y ∈ ys, ∀ (k : D → Prop) (k0 : Prop), k (f y) → tg (enc y) ρ fun ρ' => mt ρ' fun b => cond b (me ρ' k) k0) → R (acc ++ ys.map f) → compD tg mt me ρ R (ys.map enc) acc
  | [], acc, _, h => by simpa [compD] using h
  | y :: ys, acc, hs, h => by
    show tg (enc y) ρ fun ρ' => mt ρ' fun b => cond b (me ρ' fun z => compD tg mt me ρ R (ys.map enc) (acc ++ [z])) (compD tg mt me ρ R (ys.map enc) acc)
    exact hs y (List.mem_cons_self ..) _ _ (compD_acc enc f ys (acc ++ [f y]) (fun z hz => hs z (List.mem_cons_of_mem _ hz)) (by simpa using h))
/-- each item gives one -/
theorem compD_map {α : Type} {ys : List α} {enc : α → D} (f : α → D) (hs : ∀ y ∈ ys, ∀ (k : D → Prop) (k0 : Prop), k (f y) → tg (enc y) ρ fun ρ' => mt ρ' fun b => cond b (me ρ' k) k0) (h : R (ys.map f)) : compD tg mt me ρ R (ys.map enc) [] :=
  compD_acc enc f ys [] hs (by simpa using h)
theorem compD_facc {α : Type} (enc f : α → D) (p : α → Bool) : ∀ (ys : List α) (acc : List D), (∀ y ∈ ys, ∀ (k : D → Prop) (k0 : Prop), (p y = true → k (f y)) → (p y = false → k0) → tg (enc y) ρ fun ρ' => mt ρ' fun b => cond b (me ρ' k) k0) → R (acc ++ (ys.filter p).map f) → compD tg mt me ρ R (ys.map enc) acc
  | [], acc, _, h => by simpa [compD] using h
  | y :: ys, acc, hs, h => by
    show tg (enc y) ρ fun ρ' => mt ρ' fun b => cond b (me ρ' fun z => compD tg mt me ρ R (ys.map enc) (acc ++ [z])) (compD tg mt me ρ R (ys.map enc) acc)
    refine hs y (List.mem_cons_self ..) _ _ (fun hp => ?_) (fun hp => ?_)
    · exact compD_facc enc f p ys (acc ++ [f y]) (fun z hz => hs z (List.mem_cons_of_mem _ hz)) (by simpa [hp] using h)
    · exact compD_facc enc f p ys acc (fun z hz => hs z (List.mem_cons_of_mem _ hz)) (by simpa [hp] using h)
/-- those items that p takes give one each -/
theorem compD_filter {α : Type} {ys : List α} {enc : α → D} (f : α → D) (p : α → Bool) (hs : ∀ y ∈ ys, ∀ (k : D → Prop) (k0 : Prop), (p y = true → k (f y)) → (p y = false → k0) → tg (enc y) ρ fun ρ' => mt ρ' fun b => cond b (me ρ' k) k0) (h : R ((ys.filter p).map f)) : compD tg mt me ρ R (ys.map enc) [] :=
  compD_facc enc f p ys [] hs (by simpa using h)
theorem compD_dacc {α : Type} (enc : α → D) (A : α → Prop) : ∀ (xs : List D) (acc : List D), (∀ x ∈ xs, ∀ (k : D → Prop) (k0 : Prop), (∀ z, A z → k (enc z)) → tg x ρ fun ρ' => mt ρ' fun b => cond b (me ρ' k) k0) →
    (∀ zs : List α, zs.length = xs.length → (∀ z ∈ zs, A z) → R (acc ++ zs.map enc)) → compD tg mt me ρ R xs acc
  | [], acc, _, h => by
    have := h [] rfl (fun z hz => by cases hz)
    simpa [compD] using this
  | x :: xs, acc, hs, h => hs x (List.mem_cons_self ..) _ _ fun z hz => compD_dacc enc A xs (acc ++ [enc z]) (fun y hy => hs y (List.mem_cons_of_mem _ hy)) fun zs hl ha => by
    have := h (z :: zs) (by simp [hl]) (fun y hy => (List.mem_cons.mp hy).elim (fun e => e ▸ hz) (ha y))
    simpa using this
/-- each item gives one that is drawn -/
theorem compD_draw {α : Type} {xs : List D} {enc : α → D} {A : α → Prop} (hs : ∀ x ∈ xs, ∀ (k : D → Prop) (k0 : Prop), (∀ z, A z → k (enc z)) → tg x ρ fun ρ' => mt ρ' fun b => cond b (me ρ' k) k0)
    (h : ∀ zs : List α, zs.length = xs.length → (∀ z ∈ zs, A z) → R (zs.map enc)) : compD tg mt me ρ R xs [] :=
  compD_dacc enc A xs [] hs fun zs hl ha => by simpa using h zs hl ha
end

/-! ### loops -/
/-- I: what holds ahead of each turn -/
theorem forD_inv {mg : DMg} {mb : DMS} {F : List Nat} {R : DEnds} (I : Nat → En → Prop) : ∀ (xs : List D) (n : Nat) (ρ : En), I n ρ →
    (∀ i x ρ (Nx : En → Prop), xs[i]? = some x → I (n + i) ρ → (∀ ρ', I (n + i + 1) (hide F ρ') → Nx ρ') → mg x ρ fun ρ1 => mb ρ1 ⟨Nx, R.rt, fun ρ' => R.nx (hide F ρ'), Nx⟩) → (∀ ρ, I (n + xs.length) ρ → R.nx ρ) → forD mg mb F R xs ρ
  | [], n, ρ, h0, _, hd => hd ρ h0
  | x :: xs, n, ρ, h0, hs, hd => hs 0 x ρ _ rfl h0 fun ρ' h' => forD_inv I xs (n + 1) (hide F ρ') h' (fun i y ρ2 Nx e h2 h3 => by
      have := hs (i + 1) y ρ2 Nx (by simpa using e) (by rw [← Nat.add_assoc, Nat.add_right_comm]; exact h2) (fun ρ' h => h3 ρ' (by rw [← Nat.add_assoc, Nat.add_right_comm n i 1] at h; exact h))
      exact this) (fun ρ2 h2 => hd ρ2 (by rw [List.length_cons, Nat.add_comm xs.length 1, ← Nat.add_assoc]; exact h2))

/-! ### data of a shape -/
abbrev tI (xs : List Int) : D := .tuple (xs.map .int)
abbrev tII (xss : List (List Int)) : D := .tuple (xss.map tI)
theorem solids_of {α : Type} {f : α → D} : ∀ {xs : List α}, (∀ x ∈ xs, solid (f x) = true) → solids (xs.map f) = true
  | [], _ => by simp [solids]
  | x :: xs, h => by
    simp only [List.map_cons, solids, Bool.and_eq_true]
    exact ⟨h x (List.mem_cons_self ..), solids_of fun y hy => h y (List.mem_cons_of_mem _ hy)⟩
theorem solids_ints (xs : List Int) : solids (xs.map .int) = true := solids_of fun x _ => by simp [solid]
theorem solid_tI (xs : List Int) : solid (tI xs) = true := by simp only [solid]; exact solids_ints xs
theorem solids_tII (xss : List (List Int)) : solids (xss.map tI) = true := solids_of fun x _ => solid_tI x
theorem solid_tII (xss : List (List Int)) : solid (tII xss) = true := by simp only [solid]; exact solids_tII xss
theorem solid_int (i : Int) : solid (.int i) = true := by simp [solid]
theorem solid_bool (i : Bool) : solid (.bool i) = true := by simp [solid]
theorem solid_str (i : Str) : solid (.str i) = true := by simp [solid]
theorem solid_none : solid .none = true := by simp [solid]
theorem solid_tup (xs : List D) : solid (.tuple xs) = solids xs := by simp [solid]
theorem solids_cons (x : D) (xs : List D) : solids (x :: xs) = (solid x && solids xs) := by simp [solids]
theorem solids_nil : solids [] = true := by simp [solids]
theorem enumD_map {α : Type} (f : α → D) (xs : List α) : enumD (xs.map f) = xs.zipIdx.map fun p => .tuple [.int (p.2 : Nat), f p.1] := by
  unfold enumD
  apply List.ext_getElem?
  intro i
  rw [List.getElem?_map, List.getElem?_map, List.length_map]
  by_cases hi : i < xs.length
  · rw [List.getElem?_range hi, List.getElem?_zipIdx, List.getElem?_eq_getElem hi]
    simp [List.getD_eq_getElem?_getD, hi]
  · rw [List.getElem?_eq_none (by simpa using hi), List.getElem?_eq_none (by simpa using hi)]
    rfl
theorem enumD_len (xs : List D) : (enumD xs).length = xs.length := by simp [enumD]
theorem rangeD_len (lo : Int) (n : Nat) (c : Int) : (rangeD lo n c).length = n := by simp [rangeD]
theorem atI_ok {α : Type} {xs : List α} {j : Nat} {i : Int} {x : α} (h : xs[j]? = some x) (e : i = (j : Int)) : atI xs i = some x := by
  subst e
  exact atI_nat h
theorem eqv_int (i j : Int) : PyData.eqv (.int i) (.int j) = (i == j) := by simp [PyData.eqv]
theorem eqv_str (i j : Str) : PyData.eqv (.str i) (.str j) = (i == j) := by simp [PyData.eqv]
theorem eqv_bool (i j : Bool) : PyData.eqv (.bool i) (.bool j) = (i == j) := by simp [PyData.eqv]
/-- ints, texts, bools compared -/
def flat : D → Bool
  | .list _ | .tuple _ | .dict _ => false
  | _ => true
theorem flat_plain {d : D} (h : flat d = true) : d.plain = true ∧ d.depth = 0 := by
  cases d <;> first | (simp [flat] at h; done) | (exact ⟨by simp [PyData.plain, PyData.canLay0], by simp [PyData.depth]⟩)
theorem fEq_flat {neg : Bool} {x y : D} {R : D → Prop} (h1 : flat x = true) (h2 : flat y = true) (h : R (.bool (if neg then !PyData.eqv x y else PyData.eqv x y))) : fEq neg x y R :=
  ⟨(flat_plain h1).1, (flat_plain h2).1, by rw [(flat_plain h1).2]; omega, h⟩
theorem fEq_int {neg : Bool} {i j : Int} {R : D → Prop} (h : R (.bool (if neg then !(i == j) else (i == j)))) : fEq neg (.int i) (.int j) R := fEq_flat rfl rfl (by rw [eqv_int]; exact h)
theorem fEq_str {neg : Bool} {i j : Str} {R : D → Prop} (h : R (.bool (if neg then !(i == j) else (i == j)))) : fEq neg (.str i) (.str j) R := fEq_flat rfl rfl (by rw [eqv_str]; exact h)
end Z

set_option Elab.async false
set_option linter.all false
set_option maxRecDepth 100000
set_option maxHeartbeats 4000000
local macro_rules | `(tactic| walk_at "z") => `(tactic| simp only [Z.dVar, Z.look, Z.dC, Z.dSolid, Z.dNil, Z.dCons, Z.dBin, Z.dUn, Z.dCall, Z.f2I, Z.f2IC, Z.f1I, Z.asI, Z.dTest, Z.asB, Z.dAnd, Z.dOr, Z.dNot, Z.dYes, Z.dAndV, Z.dOrV, Z.dNotV, Z.dIf, Z.dTup, Z.dLst,
  Z.sNext, Z.sBreak, Z.sCont, Z.sSeq, Z.sIf, Z.sDrop, Z.sRet, Z.sRetV, Z.sRetN, Z.sAsg, Z.sAsgG, Z.valsAt, Z.sPar, Z.ownL, Z.sAppend, Z.dItems, Z.asItems, Z.items, Z.dRng1, Z.dRng2, Z.dgName, Z.dgNil, Z.dgCons, Z.asT, Z.dgTup, Z.asL, Z.dgUnl, Z.dComp, Z.dEnum, Z.sFor, Z.sAugI,
  Z.startE, Z.startL, Z.retE, Z.lawE, Z.fRepr, Z.fIx, Z.fSum, Z.fLen, Z.fTuple, Z.fInt, Z.fMul, Z.fAdd, Z.hide, Z.demote, Z.demoteOff, Z.restore, Z.isOwn, Z.solid_tI, Z.solid_tII, Z.solid_int, Z.solid_bool, Z.solid_str, Z.solid_none, Z.solids_nil, Z.solids_cons, Z.solid_tup, Z.solids_ints, Z.solids_tII,
  List.getElem?_cons_zero, List.getElem?_cons_succ, List.set_cons_zero, List.set_cons_succ, List.map_cons, List.map_nil, List.length_cons, List.length_nil, List.nil_append, List.cons_append, List.replicate_succ, List.replicate_zero, List.append_nil, List.contains_cons, List.contains_nil, List.elem_nil, Nat.reduceAdd, Nat.reduceSub, Nat.reduceBEq, Nat.reduceLeDiff, Nat.zero_add, Nat.reduceLT,
  Bool.or_false, Bool.false_or, Bool.true_or, Bool.or_true, Bool.and_true, Bool.true_and, cond_true, cond_false, if_true, if_false, true_and, and_true, Bool.false_eq_true, Bool.true_eq_false, ite_true, ite_false, reduceIte, beq_self_eq_true, List.not_mem_nil, implies_true, false_implies, Bool.not_true, Bool.not_false])
namespace Z
open PySem PySem.Spec PyProof.Rows L2
/-! ### the text -/
def topS (i : Nat) : Stmt := PySem.Challenge.pw_spancodes_k45_prices_of_rows.main.body.getD i (.Pass ⟨0, 0, 0, 0⟩)
abbrev s_row_price : Stmt := topS 1
theorem sc_row_price : FnScope ["prices", "row", "k", "mark"] ["prices", "row"] (defScope s_row_price) := ⟨rfl, rfl, rfl, by decide +kernel, rfl, by decide +kernel, by decide +kernel⟩
abbrev s_near_prices : Stmt := topS 2
theorem sc_near_prices : FnScope ["row", "m", "here", "mark"] ["row", "m"] (defScope s_near_prices) := ⟨rfl, rfl, rfl, by decide +kernel, rfl, by decide +kernel, by decide +kernel⟩
abbrev s__law_source : Stmt := topS 4
theorem sc__law_source : FnScope ["script", "mixed", "cell"] ["script"] (defScope s__law_source) := ⟨rfl, rfl, rfl, by decide +kernel, rfl, by decide +kernel, by decide +kernel⟩
abbrev s__law_pick : Stmt := topS 5
theorem sc__law_pick : FnScope ["source", "many", "left", "mixed"] ["source", "many"] (defScope s__law_pick) := ⟨rfl, rfl, rfl, by decide +kernel, rfl, by decide +kernel, by decide +kernel⟩
abbrev s__law_prices : Stmt := topS 6
theorem sc__law_prices : FnScope ["source", "n", "m", "way", "row", "x", "found", "k", "far"] ["source", "n", "m"] (defScope s__law_prices) := ⟨rfl, rfl, rfl, by decide +kernel, rfl, by decide +kernel, by decide +kernel⟩
abbrev s__law_price : Stmt := topS 7
theorem sc__law_price : FnScope ["prices", "row", "k", "x"] ["prices", "row"] (defScope s__law_price) := ⟨rfl, rfl, rfl, by decide +kernel, rfl, by decide +kernel, by decide +kernel⟩
abbrev s_law : Stmt := topS 8
theorem sc_law : FnScope ["script", "source", "lap", "n", "m", "prices", "row", "other", "turn", "k", "shown", "near", "mark", "x"] ["script"] (defScope s_law) := ⟨rfl, rfl, rfl, by decide +kernel, rfl, by decide +kernel, by decide +kernel⟩
structure Tx (K : PySem.W.Frag) (mg : Str → Option Value) : Prop where
  b_abs : mg "abs" = none
  b_enumerate : mg "enumerate" = none
  b_int : mg "int" = none
  b_len : mg "len" = none
  b_max : mg "max" = none
  b_range : mg "range" = none
  b_repr : mg "repr" = none
  b_sum : mg "sum" = none
  b_tuple : mg "tuple" = none
  f_row_price : ∃ f fd, mg "row_price" = some (.ref f) ∧ Fun K "row_price" "row_price" s_row_price f fd
  f_near_prices : ∃ f fd, mg "near_prices" = some (.ref f) ∧ Fun K "near_prices" "near_prices" s_near_prices f fd
  f__law_source : ∃ f fd, mg "_law_source" = some (.ref f) ∧ Fun K "_law_source" "_law_source" s__law_source f fd
  f__law_pick : ∃ f fd, mg "_law_pick" = some (.ref f) ∧ Fun K "_law_pick" "_law_pick" s__law_pick f fd
  f__law_prices : ∃ f fd, mg "_law_prices" = some (.ref f) ∧ Fun K "_law_prices" "_law_prices" s__law_prices f fd
  f__law_price : ∃ f fd, mg "_law_price" = some (.ref f) ∧ Fun K "_law_price" "_law_price" s__law_price f fd
  f_law : ∃ f fd, mg "law" = some (.ref f) ∧ Fun K "law" "law" s_law f fd
section
variable {P : Program} {w : World} {K : PySem.W.Frag} {mg : Str → Option Value} {base : Heap}
/-- the price of a row -/
def priceL : List (List Int) → List Int → Int
  | p :: ps, x :: xs => p.getD x.toNat 0 + priceL ps xs
  | _, _ => 0
def Marked (ps : List (List Int)) (xs : List Int) : Prop := xs.length ≤ ps.length ∧ ∀ (i : Nat) (p : List Int) (x : Int), ps[i]? = some p → xs[i]? = some x → 0 ≤ x ∧ x < (p.length : Int)
theorem price_sum : ∀ (ps : List (List Int)) (xs : List Int) (n : Nat) (qs : List (List Int)), n = qs.length → Marked ps xs → ((xs.zipIdx n).map fun p : Int × Nat => ((qs ++ ps).getD p.2 []).getD p.1.toNat 0).sum = priceL ps xs
  | [], [], _, _, _, _ => rfl
  | [], x :: xs, _, _, _, h => by have := h.1; simp at this
  | _ :: _, [], _, _, _, _ => rfl
  | p :: ps, x :: xs, n, qs, hn, h => by
    have ih := price_sum ps xs (n + 1) (qs ++ [p]) (by simp [hn]) ⟨by have := h.1; simpa using this, fun i a b e1 e2 => h.2 (i + 1) a b (by simpa using e1) (by simpa using e2)⟩
    rw [List.zipIdx_cons, List.map_cons, List.sum_cons]
    simp only [List.append_assoc, List.singleton_append] at ih
    rw [ih]
    subst hn
    simp [priceL, List.getD_eq_getElem?_getD]
def spec_row_price : List D → (D → Prop) → Prop := fun ds R => ∃ (ps : List (List Int)) (xs : List Int), ds = [tII ps, tI xs] ∧ xs.length ≤ 1000 ∧ Marked ps xs ∧ R (.int (priceL ps xs))
theorem len_row_price : ∀ ds R, spec_row_price ds R → ds.length = 2 := by
  rintro ds R ⟨ps, xs, rfl, _⟩
  rfl
def m_row_price : DMS :=
  (sRet (dCall fSum (dCons (dComp (dEnum (dCons (dVar 1) dNil)) (dgTup 2 (dgCons (dgName 2) (dgCons (dgName 3) dgNil))) dYes (dSolid (dBin fIx (dBin fIx (dVar 0) (dVar 2)) (dVar 3))) [2, 3]) dNil)))
theorem pl_row_price : ∀ ds R, spec_row_price ds R → m_row_price (startE ["prices", "row", "k", "mark"] ds) (retE R) := by
  rintro ds R ⟨ps, xs, rfl, hl, hm, h⟩
  unfold m_row_price
  walk_at "z"
  rw [enumD_map]
  refine ⟨by simpa using Nat.le_trans hl (by decide), compD_map (fun p => .int ((ps.getD p.2 []).getD p.1.toNat 0)) (fun p hp k k0 hk => ?_) ⟨(xs.zipIdx.map fun p => (ps.getD p.2 []).getD p.1.toNat 0), by simp, ?_⟩⟩
  · obtain ⟨x, i⟩ := p
    have hx : xs[i]? = some x := by
      have := List.mem_zipIdx_iff_getElem?.mp hp
      simpa using this
    have hi := (List.getElem?_eq_some_iff.mp hx).1
    have hip : i < ps.length := Nat.lt_of_lt_of_le hi hm.1
    have hp' : ps[i]? = some ps[i] := List.getElem?_eq_getElem hip
    obtain ⟨h0, h1⟩ := hm.2 i _ x hp' hx
    have hy : ps[i][x.toNat]? = some ps[i][x.toNat] := List.getElem?_eq_getElem (by omega)
    walk_at "z"
    refine ⟨tI ps[i], atI_ok (j := i) (by rw [List.getElem?_map, hp']; rfl) rfl, .int ps[i][x.toNat], atI_ok (j := x.toNat) (by rw [List.getElem?_map, hy]; rfl) (by omega), ?_⟩
    walk_at "z"
    have e : (ps.getD i []).getD x.toNat 0 = ps[i][x.toNat] := by simp [List.getD_eq_getElem?_getD, hp', hy]
    rw [← e]
    exact hk
  · have := price_sum ps xs 0 [] rfl hm
    simp only [List.nil_append] at this
    rw [this]
    exact h
theorem at_row_price (T : Tx K mg) : FnAt P w K mg base "row_price" 1 2 (spD K spec_row_price) := by
  obtain ⟨f, fd, hm, F⟩ := T.f_row_price
  refine fnAt_of hm F rfl (F.binds (ps := ["prices", "row"]) fun _ _ _ _ _ _ us hl => match us, hl with | [_, _], _ => rfl) (fnG_of F sc_row_price (spD_len len_row_price) fun cdv A outer s H vs Q E hr hg h => ?_)
  exact body_of (m := fun _ => m_row_price) ["prices", "row", "k", "mark"]
    ((pss_one (ps_ret (pe_callB (cr_sum rfl) (by rfl) T.b_sum (by decide +kernel) (pa_cons (pe_lc (own := [("k", 2), ("mark", 3)]) rfl sc_row_price.nd (pi_enumS (by rfl) T.b_enumerate (pa_cons (pv 1) pa_nil)) (blkOk_by (N := ["prices", "row", "k", "mark"]) (sc := defScope s_row_price) (by decide +kernel)) (fun _ _ _ _ _ => (pg_tup rfl (pgs_cons (pg_name (i := 2) sc_row_price.nd rfl (by first | exact Or.inl rfl | exact Or.inr rfl)) (pgs_cons (pg_name (i := 3) sc_row_price.nd rfl (by first | exact Or.inl rfl | exact Or.inr rfl)) pgs_nil)))) (fun _ _ _ _ _ => pts_nil) (fun _ _ _ _ _ => (pe_ix ix_seq (pe_ix ix_seq (pv 0) (pv 2) (fun _ _ => rfl)) (pv 3) (fun _ _ => rfl)))) pa_nil)))))
    (fun S => (ds_ret (de_cb cd_sum (da_cons (de_lc (di_enum (da_cons (de_var 1) da_nil)) (dg_tup (dgs_cons (dg_name 2) (dgs_cons (dg_name 3) dgs_nil))) dt_yes (de_solid (de_opA oa_ix (de_opA oa_ix (de_var 0) (de_var 2)) (de_var 3))) (by decide)) da_nil)))) h (fun S ds R hs => pl_row_price ds R hs)
/-- near prices of a row -/
def nearL (xs : List Int) (m : Nat) : List (List Int) := xs.map fun x => (List.range m).map fun i => if ((i : Nat) : Int) = x then 0 else 1
def spec_near_prices : List D → (D → Prop) → Prop := fun ds R => ∃ (xs : List Int) (m : Nat), ds = [tI xs, .int m] ∧ xs.length ≤ 1000 ∧ m ≤ 1000 ∧ R (tII (nearL xs m))
theorem len_near_prices : ∀ ds R, spec_near_prices ds R → ds.length = 2 := by
  rintro ds R ⟨xs, m, rfl, _⟩
  rfl
def m_near_prices : DMS :=
  (sRet (dCall fTuple (dCons (dComp (dItems (dVar 0)) (dgName 2) dYes (dCall fTuple (dCons (dComp (dRng1 (dCons (dVar 1) dNil)) (dgName 3) dYes (dCall fInt (dCons (dBin (fEq true) (dVar 3) (dVar 2)) dNil)) [3]) dNil)) [2]) dNil)))
theorem pl_near_prices : ∀ ds R, spec_near_prices ds R → m_near_prices (startE ["row", "m", "here", "mark"] ds) (retE R) := by
  rintro ds R ⟨xs, m, rfl, hl, hm, h⟩
  unfold m_near_prices
  walk_at "z"
  refine ⟨by rw [List.length_map]; omega, compD_map (fun x => tI ((List.range m).map fun i => if ((i : Nat) : Int) = x then 0 else 1)) (fun x _ k k0 hk => ?_) ⟨?_, ?_⟩⟩
  · walk_at "z"
    refine ⟨by omega, by rw [rangeD_len]; omega, compD_map (fun i : Nat => .int (if ((i : Nat) : Int) = x then 0 else 1)) (fun i _ k' k0' hk' => ?_) ⟨?_, ?_⟩⟩
    · walk_at "z"
      refine fEq_int ?_
      walk_at "z"
      by_cases e : (i : Int) = x
      · rw [if_pos e] at hk'
        have : (0 + (i : Int) * 1 == x) = true := by simpa using e
        rw [this]
        exact hk'
      · rw [if_neg e] at hk'
        have : (0 + (i : Int) * 1 == x) = false := by simpa using e
        rw [this]
        exact hk'
    · exact solids_of fun i _ => solid_int _
    · simpa [tI, List.map_map, Function.comp_def] using hk
  · exact solids_of fun x _ => solid_tI _
  · simpa [tII, nearL, List.map_map, Function.comp_def] using h
theorem at_near_prices (T : Tx K mg) : FnAt P w K mg base "near_prices" 1 2 (spD K spec_near_prices) := by
  obtain ⟨f, fd, hm, F⟩ := T.f_near_prices
  refine fnAt_of hm F rfl (F.binds (ps := ["row", "m"]) fun _ _ _ _ _ _ us hl => match us, hl with | [_, _], _ => rfl) (fnG_of F sc_near_prices (spD_len len_near_prices) fun cdv A outer s H vs Q E hr hg h => ?_)
  exact body_of (m := fun _ => m_near_prices) ["row", "m", "here", "mark"]
    ((pss_one (ps_ret (pe_callTy call_tuple_of (by rfl) T.b_tuple (by decide +kernel) (pa_cons (pe_lc (own := [("here", 2)]) rfl sc_near_prices.nd (pi_seq (pv 0)) (blkOk_by (N := ["row", "m", "here", "mark"]) (sc := defScope s_near_prices) (by decide +kernel)) (fun _ _ _ _ _ => (pg_name (i := 2) sc_near_prices.nd rfl (by first | exact Or.inl rfl | exact Or.inr rfl))) (fun _ _ _ _ _ => pts_nil) (fun _ _ _ _ _ => (pe_callTy call_tuple_of (by rfl) T.b_tuple (by decide +kernel) (pa_cons (pe_lc (own := [("mark", 3)]) rfl sc_near_prices.nd (pi_range1 (by rfl) T.b_range (pa_cons (pv 1) pa_nil)) (blkOk_by (by rfl)) (fun _ _ _ _ _ => (pg_name (i := 3) sc_near_prices.nd rfl (by first | exact Or.inl rfl | exact Or.inr rfl))) (fun _ _ _ _ _ => pts_nil) (fun _ _ _ _ _ => (pe_callTy call_int1 (by rfl) T.b_int (by decide +kernel) (pa_cons (pe_cmpR (op_neZ hr.units) (pv 3) (pv 2) (nomark _)) pa_nil)))) pa_nil)))) pa_nil)))))
    (fun S => (ds_ret (de_cb cd_tuple (da_cons (de_lc (di_seq (de_var 0)) (dg_name 2) dt_yes (de_cb cd_tuple (da_cons (de_lc (di_rng1 (da_cons (de_var 1) da_nil)) (dg_name 3) dt_yes (de_cb cd_int (da_cons (de_op od_eq (de_var 3) (de_var 2)) da_nil)) (by decide)) da_nil)) (by decide)) da_nil)))) h (fun S ds R hs => pl_near_prices ds R hs)
theorem at__law_source (T : Tx K mg) : FnAt P w K mg base "_law_source" 1 1 (spSource K) := by
  obtain ⟨f, fd, hm, F⟩ := T.f__law_source
  refine fnAt_of hm F rfl (F.binds (ps := ["script"]) fun _ _ _ _ _ _ us hl => match us, hl with | [_], _ => rfl) (fnG_of F sc__law_source (fun vs H Q E h => by obtain ⟨a, ns, rfl, _⟩ := h; rfl) fun cdv A outer s H vs Q E hr hg h => ⟨tSource K, ?_, source_reading h⟩)
  exact (pss_cons (ps_set (i := 1) sc__law_source.nd rfl (.inl rfl) pe_int) (pss_cons (ps_for PassesOwn.never rfl (pi_list (pv 0)) (pg_name (i := 2) sc__law_source.nd rfl (.inl rfl))
    (pss_one (ps_set (i := 1) sc__law_source.nd rfl (.inl rfl) (pe_op op_mod (pe_callTy call_int1 (by rfl) T.b_int (by decide +kernel) (pa_cons (pe_op op_add (pe_op op_add (pe_op op_mul (pv 1) pe_int) (pe_op op_mul (pv 2) pe_int)) pe_int) pa_nil)) pe_int))))
    (pss_one (ps_ret (pe_disp (pps_cons pe_str (pe_revL (pe_lc (own := [("cell", 2)]) rfl sc__law_source.nd (pi_list (pv 0)) (blkOk_by (N := ["script", "mixed", "cell"]) (sc := defScope s__law_source) (by decide +kernel)) (fun _ _ _ _ _ => pg_name (i := 2) sc__law_source.nd rfl (.inl rfl)) (fun _ _ _ _ _ => pts_nil)
      (fun _ _ _ _ _ => pe_callB call_abs (by rfl) T.b_abs (by decide +kernel) (pa_cons (pv 2) pa_nil))))
      (pps_cons pe_str pe_int (pps_cons pe_str (pv 1) (pps_cons pe_str pe_int pps_nil)))) (by rfl) (by rfl) (fun z => by cases z) (by decide))))))
theorem at__law_pick (T : Tx K mg) : FnAt P w K mg base "_law_pick" 1 2 (spD K specPick) := by
  obtain ⟨f, fd, hm, F⟩ := T.f__law_pick
  refine fnAt_of hm F rfl (F.binds (ps := ["source", "many"]) fun _ _ _ _ _ _ us hl => match us, hl with | [_, _], _ => rfl) (fnG_of F sc__law_pick (spD_len fun ds R h => by obtain ⟨n, rfl, _⟩ := h; rfl) fun cdv A outer s H vs Q E hr hg h => ⟨tPick K, ?_, pick_reading h⟩)
  have hu := hu_of hr
  exact (pss_cons (ps_while PassesOwn.never (PW.pt (pw_and (pt_cmpR op_gt (pv 1) pe_int (nomark _)) (pw_and (pt_cmpR op_lt (pe_dget hu (pv 0) pe_str (fun _ _ => rfl)) pe_int (nomark _))
      (pw_and1 (pt_cmpR op_gt (pe_callB call_len (by rfl) T.b_len PySem.boot_len (pa_cons (pe_dget hu (pv 0) pe_str (fun _ _ => rfl)) pa_nil)) pe_int (nomark _))))))
      (pss_one (ps_dput hu (pv 0) pe_str (pe_bm0 PySem.F.plainAttrs_list PySem.F.slot_list_pop PySem.F.type_list_pop mt_pop (pe_dget hu (pv 0) pe_str (fun _ _ => rfl))) rfl)))
    (pss_cons (ps_set (i := 2) sc__law_pick.nd rfl (.inl rfl) (pe_dget hu (pv 0) pe_str (fun _ _ => rfl)))
    (pss_cons (ps_if (PW.pt (pw_or (pt_cmpR op_lt (pv 1) pe_int (nomark _)) (pw_or1 (pt_cmpR op_gt (pv 2) pe_int (nomark _)))))
      (pss_cons (ps_dput hu (pv 0) pe_str (pe_op op_fdiv (pv 2) (pe_callB (call_max2 rfl) (by rfl) T.b_max (by decide +kernel) (pa_cons pe_int (pa_cons (pv 1) pa_nil)))) rfl)
        (pss_one (ps_ret (pe_op op_mod (pe_callTy call_int1 (by rfl) T.b_int (by decide +kernel) (pa_cons (pv 2) pa_nil)) (pe_callB (call_max2 rfl) (by rfl) T.b_max (by decide +kernel) (pa_cons pe_int (pa_cons (pv 1) pa_nil)))))))
      pss_nil)
    (pss_cons (ps_dput hu (pv 0) pe_str (pe_op op_add (pe_dget hu (pv 0) pe_str (fun _ _ => rfl)) pe_int) rfl)
    (pss_cons (ps_set (i := 3) sc__law_pick.nd rfl (.inl rfl) (pe_op op_mod (pe_callTy call_int1 (by rfl) T.b_int (by decide +kernel) (pa_cons (pe_op op_add (pe_dget hu (pv 0) pe_str (fun _ _ => rfl)) (pe_op op_mul (pe_dget hu (pv 0) pe_str (fun _ _ => rfl)) pe_int)) pa_nil)) pe_int))
    (pss_cons (ps_set (i := 3) sc__law_pick.nd rfl (.inl rfl) (pe_op op_mod (pe_callTy call_int1 (by rfl) T.b_int (by decide +kernel) (pa_cons (pe_op op_add (pe_op op_mul (pv 3) (pv 3)) (pe_op op_mul (pe_dget hu (pv 0) pe_str (fun _ _ => rfl)) pe_int)) pa_nil)) pe_int))
    (pss_cons (ps_dput hu (pv 0) pe_str (pv 3) rfl)
    (pss_one (ps_ret (pe_op op_mod (pe_callTy call_int1 (by rfl) T.b_int (by decide +kernel) (pa_cons (pe_op op_fdiv (pv 3) pe_int) pa_nil)) (pv 1)))))))))))
abbrev spec__law_pick := specPick
def spec__law_prices : List D → (D → Prop) → Prop := fun ds R => ∃ n m : Nat, ds = [srcD, .int n, .int m] ∧ 1 ≤ n ∧ n ≤ 100 ∧ 1 ≤ m ∧ m ≤ 4 ∧ ∀ ps : List (List Int), ps.length = n → (∀ p ∈ ps, p.length = m ∧ ∀ x ∈ p, x.natAbs ≤ 1000000) → R (tII ps)
theorem len__law_prices : ∀ ds R, spec__law_prices ds R → ds.length = 3 := by
  rintro ds R ⟨n, m, rfl, _⟩
  rfl
def m__law_prices : DMS :=
  (sSeq (sAsg 3 (dCall spec__law_pick (dCons (dVar 0) (dCons (dC (.int 4)) dNil))))
  (sSeq (sIf (dTest (dBin (fEq false) (dVar 3) (dC (.int 0)))) (sSeq (sAsg 4 (dCall fTuple (dCons (dComp (dRng1 (dCons (dVar 2) dNil)) (dgName 5) dYes (dCall spec__law_pick (dCons (dVar 0) (dCons (dC (.int 5)) dNil))) [5]) dNil)))
  (sRet (dBin fMul (dTup (dCons (dVar 4) dNil)) (dVar 1)))) sNext)
  (sSeq (sAsg 6 (dLst dNil))
  (sSeq (sFor (dRng1 (dCons (dVar 1) dNil)) (dgName 7) (sSeq (sAsg 8 (dIf (dTest (dBin (fEq false) (dCall spec__law_pick (dCons (dVar 0) (dCons (dC (.int 3)) dNil))) (dC (.int 0)))) (dBin fIx (dLst (dCons (dC (.int 4)) (dCons (dC (.int 3)) (dCons (dC (.int 20)) (dCons (dC (.int 999000)) dNil))))) (dVar 3)) (dBin fIx (dLst (dCons (dC (.int 4)) (dCons (dC (.int 3)) (dCons (dC (.int 20)) (dCons (dC (.int 4)) dNil))))) (dVar 3))))
  (sAppend 6 (dCall fTuple (dCons (dComp (dRng1 (dCons (dVar 2) dNil)) (dgName 5) dYes (dBin (f2I fun i j => .int (i - j)) (dCall spec__law_pick (dCons (dVar 0) (dCons (dBin fAdd (dBin fMul (dC (.int 2)) (dVar 8)) (dC (.int 1))) dNil))) (dVar 8)) [5]) dNil)))) [7, 8, 6] [7, 8])
  (sRet (dCall fTuple (dCons (dVar 6) dNil)))))))
theorem pl__law_prices : ∀ ds R, spec__law_prices ds R → m__law_prices (startE ["source", "n", "m", "way", "row", "x", "found", "k", "far"] ds) (retE R) := by
  rintro ds R ⟨n, m, rfl, hn1, hn2, hm1, hm2, h⟩
  unfold m__law_prices
  walk_at "z"
  refine ⟨4, rfl, by omega, fun way w0 w1 => ?_⟩
  walk_at "z"
  refine fEq_int ?_
  walk_at "z"
  by_cases hw : way = 0
  · -- all places alike
    subst hw
    walk_at "z"
    refine ⟨by omega, by rw [rangeD_len]; omega, compD_draw (enc := PyData.int) (A := fun z : Int => 0 ≤ z ∧ z < 5) (fun x _ k k0 hk => ?_) fun zs hz ha => ?_⟩
    · walk_at "z"
      exact ⟨5, rfl, by omega, fun z z0 z1 => hk z ⟨z0, by omega⟩⟩
    · rw [rangeD_len] at hz
      walk_at "z"
      refine ⟨by simp, by omega, by omega, ?_⟩
      have e : (List.replicate (n : Int).toNat [tI zs]).flatten = (List.replicate n zs).map tI := by simp
      rw [e]
      refine h _ (by simp) fun p hp => ?_
      rw [List.eq_of_mem_replicate hp]
      exact ⟨by omega, fun x hx => by have := ha x hx; omega⟩
  · have e : (way == 0) = false := by simpa using hw
    rw [e]
    walk_at "z"
    refine ⟨by omega, ?_⟩
    refine forD_inv (fun i ρ => ∃ ps : List (List Int), ps.length = i ∧ (∀ p ∈ ps, p.length = m ∧ ∀ x ∈ p, x.natAbs ≤ 1000000) ∧ ρ = [.val srcD, .val (.int n), .val (.int m), .val (.int way), .unk, .unk, .own (.list (ps.map tI)), .unk, .unk]) _ 0 _ ⟨[], rfl, (fun p hp => by cases hp), rfl⟩ ?_ ?_
    · rintro i x ρ Nx hx ⟨ps, hpl, hps, rfl⟩ hN
      have hi : i < n := by
        have := (List.getElem?_eq_some_iff.mp hx).1
        rw [rangeD_len] at this
        omega
      have go : ∀ far : Int, 0 ≤ far → far ≤ 999000 → (sAppend 6
        (dCall fTuple
          (dCons
            (dComp (dRng1 (dCons (dVar 2) dNil)) (dgName 5) dYes
              (dBin (f2I fun i j => PyData.int (i - j))
                (dCall spec__law_pick
                  (dCons (dVar 0)
                    (dCons (dBin fAdd (dBin fMul (dC (PyData.int 2)) (dVar 8)) (dC (PyData.int 1))) dNil)))
                (dVar 8))
              [5])
            dNil))) [.val srcD, .val (.int n), .val (.int m), .val (.int way), .unk, .unk, .own (.list (ps.map tI)), .val x, .own (.int far)] ⟨Nx, R, fun _ => False, Nx⟩ := by
        intro far f0 f1
        walk_at "z"
        refine ⟨by omega, by rw [rangeD_len]; omega, compD_draw (enc := PyData.int) (A := fun z : Int => z.natAbs ≤ 1000000) (fun y _ k k0 hk => ?_) fun zs hz ha => ?_⟩
        · walk_at "z"
          refine ⟨.inl ⟨by omega, by omega⟩, 2 * far + 1, rfl, by omega, fun z z0 z1 => ?_⟩
          walk_at "z"
          exact hk (z - far) (by omega)
        · rw [rangeD_len] at hz
          walk_at "z"
          refine ⟨by rw [List.length_map]; omega, hN _ ⟨ps ++ [zs], by simp; omega, fun p hp => ?_, ?_⟩⟩
          · rcases List.mem_append.mp hp with hp | hp
            · exact hps p hp
            · rw [List.mem_singleton.mp hp]
              exact ⟨by omega, ha⟩
          · walk_at "z"
            simp
      walk_at "z"
      refine ⟨3, rfl, by omega, fun q q0 q1 => ?_⟩
      walk_at "z"
      refine fEq_int ?_
      walk_at "z"
      have hway : way = 1 ∨ way = 2 ∨ way = 3 := by omega
      by_cases hq : q = 0
      · subst hq
        walk_at "z"
        rcases hway with rfl | rfl | rfl
        · exact ⟨_, rfl, go 3 (by omega) (by omega)⟩
        · exact ⟨_, rfl, go 20 (by omega) (by omega)⟩
        · exact ⟨_, rfl, go 999000 (by omega) (by omega)⟩
      · have e2 : (q == 0) = false := by simpa using hq
        rw [e2]
        walk_at "z"
        rcases hway with rfl | rfl | rfl
        · exact ⟨_, rfl, go 3 (by omega) (by omega)⟩
        · exact ⟨_, rfl, go 20 (by omega) (by omega)⟩
        · exact ⟨_, rfl, go 4 (by omega) (by omega)⟩
    · rintro ρ ⟨ps, hpl, hps, rfl⟩
      rw [rangeD_len] at hpl
      walk_at "z"
      exact h ps (by omega) hps
theorem at__law_prices (T : Tx K mg) : FnAt P w K mg base "_law_prices" 2 3 (spD K spec__law_prices) := by
  obtain ⟨f, fd, hm, F⟩ := T.f__law_prices
  refine fnAt_of hm F rfl (F.binds (ps := ["source", "n", "m"]) fun _ _ _ _ _ _ us hl => match us, hl with | [_, _, _], _ => rfl) (fnG_of F sc__law_prices (spD_len len__law_prices) fun cdv A outer s H vs Q E hr hg h => ?_)
  exact body_of (m := fun _ => m__law_prices) ["source", "n", "m", "way", "row", "x", "found", "k", "far"]
    ((pss_cons (ps_set (i := 3) sc__law_prices.nd rfl (by first | exact Or.inl rfl | exact Or.inr rfl) (pe_callG (at__law_pick T) (hr.mono (by decide)) hg (by rfl) (pa_cons (pv 0) (pa_cons pe_int pa_nil))))
      (pss_cons (ps_if (pt_cmpR (op_eqZ hr.units) (pv 3) pe_int (nomark _)) (pss_cons (ps_set (i := 4) sc__law_prices.nd rfl (by first | exact Or.inl rfl | exact Or.inr rfl) (pe_callTy call_tuple_of (by rfl) T.b_tuple (by decide +kernel) (pa_cons (pe_lc (own := [("x", 5)]) rfl sc__law_prices.nd (pi_range1 (by rfl) T.b_range (pa_cons (pv 2) pa_nil)) (blkOk_by (N := ["source", "n", "m", "way", "row", "x", "found", "k", "far"]) (sc := defScope s__law_prices) (by decide +kernel)) (fun _ _ _ _ _ => (pg_name (i := 5) sc__law_prices.nd rfl (by first | exact Or.inl rfl | exact Or.inr rfl))) (fun _ _ _ _ _ => pts_nil) (fun _ _ _ _ _ => (pe_callG (at__law_pick T) (hr.mono (by decide)) hg (by rfl) (pa_cons (pv 0) (pa_cons pe_int pa_nil))))) pa_nil)))
      (pss_one (ps_ret (pe_op op_mulZ (pe_tup (pa_cons (pv 4) pa_nil)) (pv 1))))) pss_nil)
      (pss_cons (ps_set (i := 6) sc__law_prices.nd rfl (by first | exact Or.inl rfl | exact Or.inr rfl) (pe_lst pa_nil))
      (pss_cons (ps_for PassesOwn.never rfl (pi_range1 (by rfl) T.b_range (pa_cons (pv 1) pa_nil)) (pg_name (i := 7) sc__law_prices.nd rfl (by first | exact Or.inl rfl | exact Or.inr rfl)) (pss_cons (ps_set (i := 8) sc__law_prices.nd rfl (by first | exact Or.inl rfl | exact Or.inr rfl) (pe_ifExp (pt_cmpR (op_eqZ hr.units) (pe_callG (at__law_pick T) (hr.mono (by decide)) hg (by rfl) (pa_cons (pv 0) (pa_cons pe_int pa_nil))) pe_int (nomark _)) (pe_ix ix_seq (pe_lst (pa_cons pe_int (pa_cons pe_int (pa_cons pe_int (pa_cons pe_int pa_nil))))) (pv 3) (fun _ _ => rfl)) (pe_ix ix_seq (pe_lst (pa_cons pe_int (pa_cons pe_int (pa_cons pe_int (pa_cons pe_int pa_nil))))) (pv 3) (fun _ _ => rfl))))
      (pss_one (ps_expr (pe_bm PySem.F.plainAttrs_list PySem.F.slot_list_append PySem.F.type_list_append mt_append (pv 6) (pa_cons (pe_callTy call_tuple_of (by rfl) T.b_tuple (by decide +kernel) (pa_cons (pe_lc (own := [("x", 5)]) rfl sc__law_prices.nd (pi_range1 (by rfl) T.b_range (pa_cons (pv 2) pa_nil)) (blkOk_by (N := ["source", "n", "m", "way", "row", "x", "found", "k", "far"]) (sc := defScope s__law_prices) (by decide +kernel)) (fun _ _ _ _ _ => (pg_name (i := 5) sc__law_prices.nd rfl (by first | exact Or.inl rfl | exact Or.inr rfl))) (fun _ _ _ _ _ => pts_nil) (fun _ _ _ _ _ => (pe_op op_sub (pe_callG (at__law_pick T) (hr.mono (by decide)) hg (by rfl) (pa_cons (pv 0) (pa_cons (pe_op op_addZ (pe_op op_mulZ pe_int (pv 8)) pe_int) pa_nil))) (pv 8)))) pa_nil)) pa_nil))))))
      (pss_one (ps_ret (pe_callTy call_tuple_of (by rfl) T.b_tuple (by decide +kernel) (pa_cons (pv 6) pa_nil)))))))))
    (fun S => (ds_seq (ds_asg 3 (de_call (da_cons (de_var 0) (da_cons de_int da_nil))))
      (ds_seq (ds_if (dt_val (de_op od_eq (de_var 3) de_int)) (ds_seq (ds_asg 4 (de_cb cd_tuple (da_cons (de_lc (di_rng1 (da_cons (de_var 2) da_nil)) (dg_name 5) dt_yes (de_call (da_cons (de_var 0) (da_cons de_int da_nil))) (by decide)) da_nil)))
      (ds_ret (de_op od_mul (de_tup (da_cons (de_var 4) da_nil)) (de_var 1)))) ds_next)
      (ds_seq (ds_asg 6 (de_lst da_nil))
      (ds_seq (ds_for (F := [7, 8]) (di_rng1 (da_cons (de_var 1) da_nil)) (dg_name 7) (ds_seq (ds_asg 8 (de_if (dt_val (de_op od_eq (de_call (da_cons (de_var 0) (da_cons de_int da_nil))) de_int)) (de_opA oa_ix (de_lst (da_cons de_int (da_cons de_int (da_cons de_int (da_cons de_int da_nil))))) (de_var 3)) (de_opA oa_ix (de_lst (da_cons de_int (da_cons de_int (da_cons de_int (da_cons de_int da_nil))))) (de_var 3))))
      (ds_append 6 (de_cb cd_tuple (da_cons (de_lc (di_rng1 (da_cons (de_var 2) da_nil)) (dg_name 5) dt_yes (de_op od_I0 (de_call (da_cons (de_var 0) (da_cons (de_op od_add (de_op od_mul de_int (de_var 8)) de_int) da_nil))) (de_var 8)) (by decide)) da_nil)))) (by decide))
      (ds_ret (de_cb cd_tuple (da_cons (de_var 6) da_nil)))))))) h (fun S ds R hs => pl__law_prices ds R hs)
def spec__law_price := spec_row_price
theorem len__law_price : ∀ ds R, spec__law_price ds R → ds.length = 2 := len_row_price
def m__law_price : DMS :=
  (sRet (dCall fSum (dCons (dComp (dEnum (dCons (dVar 1) dNil)) (dgTup 2 (dgCons (dgName 2) (dgCons (dgName 3) dgNil))) dYes (dSolid (dBin fIx (dBin fIx (dVar 0) (dVar 2)) (dVar 3))) [2, 3]) dNil)))
theorem pl__law_price : ∀ ds R, spec__law_price ds R → m__law_price (startE ["prices", "row", "k", "x"] ds) (retE R) := pl_row_price
theorem at__law_price (T : Tx K mg) : FnAt P w K mg base "_law_price" 1 2 (spD K spec__law_price) := by
  obtain ⟨f, fd, hm, F⟩ := T.f__law_price
  refine fnAt_of hm F rfl (F.binds (ps := ["prices", "row"]) fun _ _ _ _ _ _ us hl => match us, hl with | [_, _], _ => rfl) (fnG_of F sc__law_price (spD_len len__law_price) fun cdv A outer s H vs Q E hr hg h => ?_)
  exact body_of (m := fun _ => m__law_price) ["prices", "row", "k", "x"]
    ((pss_one (ps_ret (pe_callB (cr_sum rfl) (by rfl) T.b_sum (by decide +kernel) (pa_cons (pe_lc (own := [("k", 2), ("x", 3)]) rfl sc__law_price.nd (pi_enumS (by rfl) T.b_enumerate (pa_cons (pv 1) pa_nil)) (blkOk_by (N := ["prices", "row", "k", "x"]) (sc := defScope s__law_price) (by decide +kernel)) (fun _ _ _ _ _ => (pg_tup rfl (pgs_cons (pg_name (i := 2) sc__law_price.nd rfl (by first | exact Or.inl rfl | exact Or.inr rfl)) (pgs_cons (pg_name (i := 3) sc__law_price.nd rfl (by first | exact Or.inl rfl | exact Or.inr rfl)) pgs_nil)))) (fun _ _ _ _ _ => pts_nil) (fun _ _ _ _ _ => (pe_ix ix_seq (pe_ix ix_seq (pv 0) (pv 2) (fun _ _ => rfl)) (pv 3) (fun _ _ => rfl)))) pa_nil)))))
    (fun S => (ds_ret (de_cb cd_sum (da_cons (de_lc (di_enum (da_cons (de_var 1) da_nil)) (dg_tup (dgs_cons (dg_name 2) (dgs_cons (dg_name 3) dgs_nil))) dt_yes (de_solid (de_opA oa_ix (de_opA oa_ix (de_var 0) (de_var 2)) (de_var 3))) (by decide)) da_nil)))) h (fun S ds R hs => pl__law_price ds R hs)
def m_law : DMS :=
  (sSeq (sFor (dRng1 (dCons (dC (.int 6)) dNil)) (dgName 2) (sSeq (sAsgG [] (dTup (dCons (dBin fAdd (dC (.int 1)) (dCall spec__law_pick (dCons (dVar 1) (dCons (dC (.int 12)) dNil)))) (dCons (dBin fAdd (dC (.int 1)) (dCall spec__law_pick (dCons (dVar 1) (dCons (dC (.int 4)) dNil)))) dNil))) (dgTup 2 (dgCons (dgName 3) (dgCons (dgName 4) dgNil))))
  (sSeq (sAsg 5 (dCall spec__law_prices (dCons (dVar 1) (dCons (dVar 3) (dCons (dVar 4) dNil)))))
  (sSeq (sAsgG [] (dComp (dRng1 (dCons (dC (.int 2)) dNil)) (dgName 8) dYes (dCall fTuple (dCons (dComp (dRng1 (dCons (dVar 3) dNil)) (dgName 9) dYes (dCall spec__law_pick (dCons (dVar 1) (dCons (dVar 4) dNil))) [9]) dNil)) [8]) (dgUnl 2 (dgCons (dgName 6) (dgCons (dgName 7) dgNil))))
  (sSeq (sPar 10 11 (dCons (dCall fRepr (dCons (dLst (dCons (dVar 5) (dCons (dVar 6) dNil))) dNil)) (dCons (dCall spec_near_prices (dCons (dVar 6) (dCons (dVar 4) dNil))) dNil)))
  (sSeq (sIf (dTest (dBin (fEq true) (dCall fRepr (dCons (dCall spec_row_price (dCons (dVar 5) (dCons (dVar 6) dNil))) dNil)) (dCall fRepr (dCons (dCall spec__law_price (dCons (dVar 5) (dCons (dVar 6) dNil))) dNil)))) (sRet (dC (.bool false))) sNext)
  (sSeq (sIf (dTest (dBin (fEq true) (dCall fRepr (dCons (dVar 11) dNil)) (dCall fRepr (dCons (dCall fTuple (dCons (dComp (dItems (dVar 6)) (dgName 12) dYes (dCall fTuple (dCons (dComp (dRng1 (dCons (dVar 4) dNil)) (dgName 13) dYes (dCall fInt (dCons (dBin (fEq true) (dVar 13) (dVar 12)) dNil)) [13]) dNil)) [12]) dNil)) dNil)))) (sRet (dC (.bool false))) sNext)
  (sSeq (sIf (dTest (dBin (fEq true) (dCall fRepr (dCons (dCall spec_row_price (dCons (dVar 11) (dCons (dVar 7) dNil))) dNil)) (dCall fRepr (dCons (dCall fLen (dCons (dComp (dRng1 (dCons (dVar 3) dNil)) (dgName 9) (dTest (dBin (fEq true) (dBin fIx (dVar 6) (dVar 9)) (dBin fIx (dVar 7) (dVar 9)))) (dSolid (dVar 9)) [9]) dNil)) dNil)))) (sRet (dC (.bool false))) sNext)
  (sIf (dOr (dTest (dBin (fEq true) (dCall spec_row_price (dCons (dVar 11) (dCons (dVar 6) dNil))) (dC (.int 0)))) (dTest (dBin (fEq true) (dCall fRepr (dCons (dLst (dCons (dVar 5) (dCons (dVar 6) dNil))) dNil)) (dVar 10)))) (sRet (dC (.bool false))) sNext)))))))) [2, 3, 4, 5, 6, 7, 10, 11] [2, 3, 4, 5, 6, 7, 10, 11])
  (sRet (dBin (fEq false) (dCall fRepr (dCons (dCall spec_near_prices (dCons (dTup (dCons (dC (.int 1)) (dCons (dC (.int 0)) dNil))) (dCons (dC (.int 2)) dNil))) dNil)) (dCall fRepr (dCons (dTup (dCons (dTup (dCons (dC (.int 1)) (dCons (dC (.int 0)) dNil))) (dCons (dTup (dCons (dC (.int 0)) (dCons (dC (.int 1)) dNil))) dNil))) dNil)))))
theorem near_price : ∀ (xs ys : List Int) (m : Nat), xs.length = ys.length → (∀ y ∈ ys, 0 ≤ y ∧ y < (m : Int)) → priceL (nearL xs m) ys = (((xs.zip ys).filter fun p => decide (p.1 ≠ p.2)).length : Int)
  | [], [], _, _, _ => rfl
  | [], _ :: _, _, h, _ => by simp at h
  | _ :: _, [], _, h, _ => by simp at h
  | x :: xs, y :: ys, m, h, hb => by
    have ih := near_price xs ys m (by simpa using h) fun z hz => hb z (List.mem_cons_of_mem _ hz)
    obtain ⟨y0, y1⟩ := hb y (List.mem_cons_self ..)
    have e : (((List.range m).map fun i => if ((i : Nat) : Int) = x then (0 : Int) else 1).getD y.toNat 0) = if y = x then 0 else 1 := by
      rw [List.getD_eq_getElem?_getD, List.getElem?_map, List.getElem?_range (by omega)]
      have : ((y.toNat : Nat) : Int) = y := by omega
      simp [this]
    show ((List.range m).map fun i => if ((i : Nat) : Int) = x then (0 : Int) else 1).getD y.toNat 0 + priceL (nearL xs m) ys = _
    rw [e, ih, List.zip_cons_cons, List.filter_cons]
    by_cases hxy : x = y
    · subst hxy
      simp
    · have hyx : ¬ y = x := fun z => hxy z.symm
      rw [if_neg hyx]
      simp [hxy]
      omega
theorem near_marked (xs ys : List Int) (m : Nat) (h : xs.length = ys.length) (hb : ∀ y ∈ ys, 0 ≤ y ∧ y < (m : Int)) : Marked (nearL xs m) ys := by
  refine ⟨by simp [nearL, h], fun i p x hp hx => ?_⟩
  have hm := hb x (List.mem_of_getElem? hx)
  unfold nearL at hp
  rw [List.getElem?_map] at hp
  cases hxi : xs[i]? with
  | none => rw [hxi] at hp; cases hp
  | some z =>
    rw [hxi] at hp
    cases hp
    simpa using hm
theorem priceL_bound : ∀ (ps : List (List Int)) (xs : List Int) (B : Nat), (∀ p ∈ ps, ∀ x ∈ p, x.natAbs ≤ B) → (priceL ps xs).natAbs ≤ ps.length * B
  | [], _, _, _ => by simp [priceL]
  | _ :: _, [], _, _ => by simp [priceL]
  | p :: ps, x :: xs, B, h => by
    have ih := priceL_bound ps xs B fun q hq => h q (List.mem_cons_of_mem _ hq)
    have h1 : (p.getD x.toNat 0).natAbs ≤ B := by
      rw [List.getD_eq_getElem?_getD]
      cases hx : p[x.toNat]? with
      | none => simp
      | some y => exact h p (List.mem_cons_self ..) y (List.mem_of_getElem? hx)
    have h2 : (priceL (p :: ps) (x :: xs)).natAbs ≤ (p.getD x.toNat 0).natAbs + (priceL ps xs).natAbs := Int.natAbs_add_le _ _
    rw [List.length_cons, Nat.succ_mul]
    omega
theorem ok_tI {xs : List Int} {n : Nat} (hn : xs.length ≤ n) (h : ∀ x ∈ xs, x.natAbs < 10 ^ 12) : Ok 1 (n * 15 + 3) (tI xs) :=
  Ok.tuple (fun d hd => by obtain ⟨x, hx, rfl⟩ := List.mem_map.mp hd; exact Ok.int (h x hx)) (by simpa using hn)
theorem ok_tII {xs : List (List Int)} {n m : Nat} (hn : xs.length ≤ n) (h : ∀ r ∈ xs, r.length ≤ m ∧ ∀ x ∈ r, x.natAbs < 10 ^ 12) : Ok 2 (n * (m * 15 + 5) + 3) (tII xs) :=
  Ok.tuple (fun d hd => by obtain ⟨x, hx, rfl⟩ := List.mem_map.mp hd; exact ok_tI (h x hx).1 (h x hx).2) (by simpa using hn)
theorem nearL_bits {xs : List Int} {m : Nat} : ∀ r ∈ nearL xs m, r.length ≤ m ∧ ∀ x ∈ r, x.natAbs < 10 ^ 12 := fun r hr => by
  obtain ⟨x, _, rfl⟩ := List.mem_map.mp hr
  refine ⟨by simp, fun y hy => ?_⟩
  obtain ⟨i, _, rfl⟩ := List.mem_map.mp hy
  split <;> decide
theorem unlike_count : ∀ (xs ys : List Int), xs.length = ys.length → ((List.range xs.length).filter fun i => !(xs.getD i 0 == ys.getD i 0)).length = ((xs.zip ys).filter fun p => decide (p.1 ≠ p.2)).length
  | [], [], _ => rfl
  | [], _ :: _, h => by simp at h
  | _ :: _, [], h => by simp at h
  | x :: xs, y :: ys, h => by
    have ih := unlike_count xs ys (by simpa using h)
    rw [List.length_cons, List.range_succ_eq_map, List.filter_cons, List.filter_map, List.zip_cons_cons, List.filter_cons]
    have e : ((fun i => !((x :: xs).getD i 0 == (y :: ys).getD i 0)) ∘ Nat.succ) = fun i => !(xs.getD i 0 == ys.getD i 0) := by
      funext i
      simp [List.getD_eq_getElem?_getD]
    rw [e]
    by_cases hxy : x = y <;> simp [hxy] <;> simpa using ih
theorem filter_self : ∀ (xs : List Int), (xs.zip xs).filter (fun p : Int × Int => decide (p.1 ≠ p.2)) = []
  | [] => rfl
  | x :: xs => by rw [List.zip_cons_cons, List.filter_cons, filter_self xs]; simp
theorem fEq_same {x : Str} {R : D → Prop} (h : R (.bool false)) : fEq true (.str x) (.str x) R := fEq_str (by simpa using h)
theorem pl_law : m_law (startL 12) lawE := by
  unfold m_law
  walk_at "z"
  refine ⟨by omega, ?_⟩
  refine forD_inv (fun i ρ => ρ = [.unk, .val srcD, .unk, .unk, .unk, .unk, .unk, .unk, .unk, .unk, .unk, .unk, .unk, .unk]) _ 0 _ rfl ?_ ?_
  · rintro i x ρ Nx hx rfl hN
    walk_at "z"
    refine ⟨12, rfl, by omega, fun a a0 a1 => ?_⟩
    walk_at "z"
    refine ⟨4, rfl, by omega, fun b b0 b1 => ?_⟩
    walk_at "z"
    obtain ⟨n, hn⟩ : ∃ n : Nat, 1 + a = n := ⟨(1 + a).toNat, by omega⟩
    obtain ⟨m, hm⟩ : ∃ m : Nat, 1 + b = m := ⟨(1 + b).toNat, by omega⟩
    simp only [hn, hm]
    refine ⟨n, m, rfl, by omega, by omega, by omega, by omega, fun ps hps hp => ?_⟩
    walk_at "z"
    refine ⟨by omega, by rw [rangeD_len]; decide, ?_⟩
    refine compD_draw (enc := tI) (A := fun zs : List Int => zs.length = n ∧ ∀ z ∈ zs, 0 ≤ z ∧ z < (m : Int)) (fun y _ k k0 hk => ?_) fun zs hz ha => ?_
    · walk_at "z"
      refine ⟨by omega, by rw [rangeD_len]; omega, compD_draw (enc := PyData.int) (A := fun z : Int => 0 ≤ z ∧ z < (m : Int)) (fun y' _ k' k0' hk' => ?_) fun zs hz ha => ?_⟩
      · walk_at "z"
        exact ⟨m, rfl, by omega, fun z z0 z1 => hk' z ⟨z0, by omega⟩⟩
      · rw [rangeD_len] at hz
        walk_at "z"
        exact hk zs ⟨by omega, ha⟩
    · rw [rangeD_len] at hz
      obtain ⟨row, other, rfl⟩ : ∃ r o, zs = [r, o] := by
        match zs, hz with
        | [r, o], _ => exact ⟨r, o, rfl⟩
      obtain ⟨hr, hrb⟩ := ha row (by simp)
      obtain ⟨ho, hob⟩ := ha other (by simp)
      have mk : Marked ps row := ⟨by omega, fun i p z e1 e2 => by
        have := hrb z (List.mem_of_getElem? e2)
        have := (hp p (List.mem_of_getElem? e1)).1
        omega⟩
      have okp : Ok 40 10000000 (.list [tII ps, tI row]) := by
        refine (Ok.list (k := 2) (w := 12 * (4 * 15 + 5) + 3) (n := 2) (fun d hd => ?_) (by simp)).mono (by decide) (by decide)
        rcases List.mem_cons.mp hd with rfl | hd
        · exact ok_tII (by omega) fun r hr => ⟨by have := (hp r hr).1; omega, fun x hx => by have := (hp r hr).2 x hx; omega⟩
        · rw [List.mem_singleton.mp hd]
          exact (ok_tI (n := 12) (by omega) fun x hx => by have := hrb x hx; omega).mono (by decide) (by decide)
      have okn : Ok 40 10000000 (tII (nearL row m)) := (ok_tII (n := 12) (m := 4) (by simp [nearL]; omega) fun r hr => ⟨by have := (nearL_bits r hr).1; omega, (nearL_bits r hr).2⟩).mono (by decide) (by decide)
      have oki : ∀ v : Int, v.natAbs < 10 ^ 12 → Ok 40 10000000 (.int v) := fun v hv => (Ok.int hv).mono (by decide) (by decide)
      have bnd := priceL_bound ps row 1000000 fun p hp' => (hp p hp').2
      have hb : ps.length * 1000000 ≤ 12 * 1000000 := Nat.mul_le_mul_right _ (by omega)
      walk_at "z"
      refine ⟨okp, row, m, rfl, by omega, by omega, ?_⟩
      refine ⟨ps, row, rfl, by omega, mk, oki _ (by omega), ps, row, rfl, by omega, mk, oki _ (by omega), fEq_same ?_⟩
      walk_at "z"
      refine ⟨okn, by rw [List.length_map]; omega, ?_⟩
      refine compD_map (fun x => tI ((List.range m).map fun i => if ((i : Nat) : Int) = x then 0 else 1)) (fun x _ k k0 hk => ?_) ⟨solids_of fun x _ => solid_tI _, ?_⟩
      · walk_at "z"
        refine ⟨by omega, by rw [rangeD_len]; omega, compD_map (fun i : Nat => .int (if ((i : Nat) : Int) = x then 0 else 1)) (fun i _ k' k0' hk' => ?_) ⟨?_, ?_⟩⟩
        · walk_at "z"
          refine fEq_int ?_
          walk_at "z"
          by_cases e : (i : Int) = x
          · rw [if_pos e] at hk'
            have : (0 + (i : Int) * 1 == x) = true := by simpa using e
            rw [this]
            exact hk'
          · rw [if_neg e] at hk'
            have : (0 + (i : Int) * 1 == x) = false := by simpa using e
            rw [this]
            exact hk'
        · exact solids_of fun i _ => solid_int _
        · simpa [tI, List.map_map, Function.comp_def] using hk
      · have e1 : (row.map fun x => tI ((List.range m).map fun i => if ((i : Nat) : Int) = x then (0 : Int) else 1)) = (nearL row m).map tI := by simp [nearL, List.map_map, Function.comp_def]
        rw [e1]
        refine ⟨okn, fEq_same ?_⟩
        walk_at "z"
        refine ⟨nearL row m, other, rfl, by omega, near_marked row other m (by omega) hob, ?_⟩
        rw [near_price row other m (by omega) hob]
        refine ⟨oki _ (by have := List.length_filter_le (fun p : Int × Int => decide (p.1 ≠ p.2)) (row.zip other); rw [List.length_zip] at this; omega), ?_⟩
        refine ⟨by omega, by rw [rangeD_len]; omega, compD_filter (ys := List.range n) (enc := fun i : Nat => .int (0 + (i : Int) * 1)) (fun i => .int (i : Int)) (fun i => !(row.getD i 0 == other.getD i 0)) (fun i hi k k0 h1 h0 => ?_) ?_⟩
        · have hi' : i < n := by simpa using hi
          walk_at "z"
          refine ⟨.int (row.getD i 0), atI_ok (j := i) (by rw [List.getElem?_map, List.getElem?_eq_getElem (by omega), List.getD_eq_getElem?_getD, List.getElem?_eq_getElem (by omega)]; rfl) (by omega), .int (other.getD i 0), atI_ok (j := i) (by rw [List.getElem?_map, List.getElem?_eq_getElem (by omega), List.getD_eq_getElem?_getD, List.getElem?_eq_getElem (by omega)]; rfl) (by omega), fEq_int ?_⟩
          cases hc : (row.getD i 0 == other.getD i 0)
          · have := h1 (by rw [hc]; rfl)
            simpa using this
          · exact h0 (by rw [hc]; rfl)
        · rw [List.length_map, ← hr, unlike_count row other (by omega)]
          refine ⟨oki _ (by have := List.length_filter_le (fun p : Int × Int => decide (p.1 ≠ p.2)) (row.zip other); rw [List.length_zip] at this; omega), fEq_same ?_⟩
          walk_at "z"
          refine ⟨nearL row m, row, rfl, by omega, near_marked row row m rfl hrb, ?_⟩
          rw [near_price row row m rfl hrb, filter_self]
          refine fEq_int ?_
          walk_at "z"
          refine ⟨okp, fEq_same ?_⟩
          walk_at "z"
          refine hN _ ?_
          walk_at "z"
  · rintro ρ rfl
    walk_at "z"
    refine ⟨[1, 0], 2, rfl, by decide, by decide, ?_⟩
    refine ⟨(ok_tII (n := 2) (m := 2) (by decide) fun r hr => nearL_bits r hr).mono (by decide) (by decide), (ok_tII (n := 2) (m := 2) (xs := [[1, 0], [0, 1]]) (by decide) (by decide)).mono (by decide) (by decide), fEq_str ?_⟩
    have e : nearL [1, 0] 2 = [[1, 0], [0, 1]] := by decide
    rw [e]
    simp [tII, tI]

theorem fn_law (T : Tx K mg) {f : Addr} {fd : FuncData} (F : Fun K "law" "law" s_law f fd) : FnG P w K mg base 3 f fd ["script"] (spLaw K) := by
  refine fnG_of F sc_law (fun vs H Q E h => by obtain ⟨a, ns, rfl, _⟩ := h; rfl) fun cdv A outer s H vs Q E hr hg h => ?_
  exact law_of (K := K) (m := m_law) ["script", "source", "lap", "n", "m", "prices", "row", "other", "turn", "k", "shown", "near", "mark", "x"] rfl
    (pss_cons (ps_set (i := 1) sc_law.nd rfl (by first | exact Or.inl rfl | exact Or.inr rfl) (pe_callG (at__law_source T) (hr.mono (by decide)) hg (by rfl) (pa_cons (pv 0) pa_nil)))
      (pss_cons (ps_for PassesOwn.never rfl (pi_range1 (by rfl) T.b_range (pa_cons pe_int pa_nil)) (pg_name (i := 2) sc_law.nd rfl (by first | exact Or.inl rfl | exact Or.inr rfl)) (pss_cons (ps_asg (pe_tup (pa_cons (pe_op op_addZ pe_int (pe_callG (at__law_pick T) (hr.mono (by decide)) hg (by rfl) (pa_cons (pv 1) (pa_cons pe_int pa_nil)))) (pa_cons (pe_op op_addZ pe_int (pe_callG (at__law_pick T) (hr.mono (by decide)) hg (by rfl) (pa_cons (pv 1) (pa_cons pe_int pa_nil)))) pa_nil))) (pg_tup rfl (pgs_cons (pg_name (i := 3) sc_law.nd rfl (by first | exact Or.inl rfl | exact Or.inr rfl)) (pgs_cons (pg_name (i := 4) sc_law.nd rfl (by first | exact Or.inl rfl | exact Or.inr rfl)) pgs_nil))))
      (pss_cons (ps_set (i := 5) sc_law.nd rfl (by first | exact Or.inl rfl | exact Or.inr rfl) (pe_callG (at__law_prices T) (hr.mono (by decide)) hg (by rfl) (pa_cons (pv 1) (pa_cons (pv 3) (pa_cons (pv 4) pa_nil)))))
      (pss_cons (ps_asg (pe_lc (own := [("turn", 8)]) rfl sc_law.nd (pi_range1 (by rfl) T.b_range (pa_cons pe_int pa_nil)) (blkOk_by (N := ["script", "source", "lap", "n", "m", "prices", "row", "other", "turn", "k", "shown", "near", "mark", "x"]) (sc := defScope s_law) (by decide +kernel)) (fun _ _ _ _ _ => (pg_name (i := 8) sc_law.nd rfl (by first | exact Or.inl rfl | exact Or.inr rfl))) (fun _ _ _ _ _ => pts_nil) (fun _ _ _ _ _ => (pe_callTy call_tuple_of (by rfl) T.b_tuple (by decide +kernel) (pa_cons (pe_lc (own := [("k", 9)]) rfl sc_law.nd (pi_range1 (by rfl) T.b_range (pa_cons (pv 3) pa_nil)) (blkOk_by (by rfl)) (fun _ _ _ _ _ => (pg_name (i := 9) sc_law.nd rfl (by first | exact Or.inl rfl | exact Or.inr rfl))) (fun _ _ _ _ _ => pts_nil) (fun _ _ _ _ _ => (pe_callG (at__law_pick T) (hr.mono (by decide)) hg (by rfl) (pa_cons (pv 1) (pa_cons (pv 4) pa_nil))))) pa_nil)))) (pg_unl rfl (pgs_cons (pg_name (i := 6) sc_law.nd rfl (by first | exact Or.inl rfl | exact Or.inr rfl)) (pgs_cons (pg_name (i := 7) sc_law.nd rfl (by first | exact Or.inl rfl | exact Or.inr rfl)) pgs_nil))))
      (pss_cons (ps_par (i := 10) (j := 11) rfl sc_law.nd rfl rfl (by decide) rfl rfl (pa_cons (pe_callB (cr_repr hg hr.units) (by rfl) T.b_repr (by decide +kernel) (pa_cons (pe_lst (pa_cons (pv 5) (pa_cons (pv 6) pa_nil))) pa_nil)) (pa_cons (pe_callG (at_near_prices T) (hr.mono (by decide)) hg (by rfl) (pa_cons (pv 6) (pa_cons (pv 4) pa_nil))) pa_nil)) (by rfl))
      (pss_cons (ps_if (pt_cmpR (op_neZ hr.units) (pe_callB (cr_repr hg hr.units) (by rfl) T.b_repr (by decide +kernel) (pa_cons (pe_callG (at_row_price T) (hr.mono (by decide)) hg (by rfl) (pa_cons (pv 5) (pa_cons (pv 6) pa_nil))) pa_nil)) (pe_callB (cr_repr hg hr.units) (by rfl) T.b_repr (by decide +kernel) (pa_cons (pe_callG (at__law_price T) (hr.mono (by decide)) hg (by rfl) (pa_cons (pv 5) (pa_cons (pv 6) pa_nil))) pa_nil)) (nomark _)) (pss_one (ps_ret pe_bl)) pss_nil)
      (pss_cons (ps_if (pt_cmpR (op_neZ hr.units) (pe_callB (cr_repr hg hr.units) (by rfl) T.b_repr (by decide +kernel) (pa_cons (pv 11) pa_nil)) (pe_callB (cr_repr hg hr.units) (by rfl) T.b_repr (by decide +kernel) (pa_cons (pe_callTy call_tuple_of (by rfl) T.b_tuple (by decide +kernel) (pa_cons (pe_lc (own := [("mark", 12)]) rfl sc_law.nd (pi_seq (pv 6)) (blkOk_by (N := ["script", "source", "lap", "n", "m", "prices", "row", "other", "turn", "k", "shown", "near", "mark", "x"]) (sc := defScope s_law) (by decide +kernel)) (fun _ _ _ _ _ => (pg_name (i := 12) sc_law.nd rfl (by first | exact Or.inl rfl | exact Or.inr rfl))) (fun _ _ _ _ _ => pts_nil) (fun _ _ _ _ _ => (pe_callTy call_tuple_of (by rfl) T.b_tuple (by decide +kernel) (pa_cons (pe_lc (own := [("x", 13)]) rfl sc_law.nd (pi_range1 (by rfl) T.b_range (pa_cons (pv 4) pa_nil)) (blkOk_by (by rfl)) (fun _ _ _ _ _ => (pg_name (i := 13) sc_law.nd rfl (by first | exact Or.inl rfl | exact Or.inr rfl))) (fun _ _ _ _ _ => pts_nil) (fun _ _ _ _ _ => (pe_callTy call_int1 (by rfl) T.b_int (by decide +kernel) (pa_cons (pe_cmpR (op_neZ hr.units) (pv 13) (pv 12) (nomark _)) pa_nil)))) pa_nil)))) pa_nil)) pa_nil)) (nomark _)) (pss_one (ps_ret pe_bl)) pss_nil)
      (pss_cons (ps_if (pt_cmpR (op_neZ hr.units) (pe_callB (cr_repr hg hr.units) (by rfl) T.b_repr (by decide +kernel) (pa_cons (pe_callG (at_row_price T) (hr.mono (by decide)) hg (by rfl) (pa_cons (pv 11) (pa_cons (pv 7) pa_nil))) pa_nil)) (pe_callB (cr_repr hg hr.units) (by rfl) T.b_repr (by decide +kernel) (pa_cons (pe_callB call_len (by rfl) T.b_len PySem.boot_len (pa_cons (pe_lc (own := [("k", 9)]) rfl sc_law.nd (pi_range1 (by rfl) T.b_range (pa_cons (pv 3) pa_nil)) (blkOk_by (N := ["script", "source", "lap", "n", "m", "prices", "row", "other", "turn", "k", "shown", "near", "mark", "x"]) (sc := defScope s_law) (by decide +kernel)) (fun _ _ _ _ _ => (pg_name (i := 9) sc_law.nd rfl (by first | exact Or.inl rfl | exact Or.inr rfl))) (fun _ _ _ _ _ => (pts_one (pt_cmpR (op_neZ hr.units) (pe_ix ix_seq (pv 6) (pv 9) (fun _ _ => rfl)) (pe_ix ix_seq (pv 7) (pv 9) (fun _ _ => rfl)) (nomark _)))) (fun _ _ _ _ _ => (pv 9))) pa_nil)) pa_nil)) (nomark _)) (pss_one (ps_ret pe_bl)) pss_nil)
      (pss_one (ps_if (PW.pt (pw_or (pt_cmpR (op_neZ hr.units) (pe_callG (at_row_price T) (hr.mono (by decide)) hg (by rfl) (pa_cons (pv 11) (pa_cons (pv 6) pa_nil))) pe_int (nomark _)) (pw_or1 (pt_cmpR (op_neZ hr.units) (pe_callB (cr_repr hg hr.units) (by rfl) T.b_repr (by decide +kernel) (pa_cons (pe_lst (pa_cons (pv 5) (pa_cons (pv 6) pa_nil))) pa_nil)) (pv 10) (nomark _))))) (pss_one (ps_ret pe_bl)) pss_nil))))))))))
      (pss_one (ps_ret (pe_cmpR (op_eqZ hr.units) (pe_callB (cr_repr hg hr.units) (by rfl) T.b_repr (by decide +kernel) (pa_cons (pe_callG (at_near_prices T) (hr.mono (by decide)) hg (by rfl) (pa_cons (pe_tup (pa_cons pe_int (pa_cons pe_int pa_nil))) (pa_cons pe_int pa_nil))) pa_nil)) (pe_callB (cr_repr hg hr.units) (by rfl) T.b_repr (by decide +kernel) (pa_cons (pe_tup (pa_cons (pe_tup (pa_cons pe_int (pa_cons pe_int pa_nil))) (pa_cons (pe_tup (pa_cons pe_int (pa_cons pe_int pa_nil))) pa_nil))) pa_nil)) (nomark _))))))
    (fun S => (ds_seq (ds_for (F := [2, 3, 4, 5, 6, 7, 10, 11]) (di_rng1 (da_cons de_int da_nil)) (dg_name 2) (ds_seq (ds_asgG (de_tup (da_cons (de_op od_add de_int (de_call (da_cons (de_var 1) (da_cons de_int da_nil)))) (da_cons (de_op od_add de_int (de_call (da_cons (de_var 1) (da_cons de_int da_nil)))) da_nil))) (dg_tup (dgs_cons (dg_name 3) (dgs_cons (dg_name 4) dgs_nil))))
      (ds_seq (ds_asg 5 (de_call (da_cons (de_var 1) (da_cons (de_var 3) (da_cons (de_var 4) da_nil)))))
      (ds_seq (ds_asgG (de_lc (di_rng1 (da_cons de_int da_nil)) (dg_name 8) dt_yes (de_cb cd_tuple (da_cons (de_lc (di_rng1 (da_cons (de_var 3) da_nil)) (dg_name 9) dt_yes (de_call (da_cons (de_var 1) (da_cons (de_var 4) da_nil))) (by decide)) da_nil)) (by decide)) (dg_unl (dgs_cons (dg_name 6) (dgs_cons (dg_name 7) dgs_nil))))
      (ds_seq (ds_par 10 11 (da_cons (de_cb cd_repr (da_cons (de_lst (da_cons (de_var 5) (da_cons (de_var 6) da_nil))) da_nil)) (da_cons (de_call (da_cons (de_var 6) (da_cons (de_var 4) da_nil))) da_nil)))
      (ds_seq (ds_if (dt_val (de_op od_eq (de_cb cd_repr (da_cons (de_call (da_cons (de_var 5) (da_cons (de_var 6) da_nil))) da_nil)) (de_cb cd_repr (da_cons (de_call (da_cons (de_var 5) (da_cons (de_var 6) da_nil))) da_nil)))) (ds_ret de_bl) ds_next)
      (ds_seq (ds_if (dt_val (de_op od_eq (de_cb cd_repr (da_cons (de_var 11) da_nil)) (de_cb cd_repr (da_cons (de_cb cd_tuple (da_cons (de_lc (di_seq (de_var 6)) (dg_name 12) dt_yes (de_cb cd_tuple (da_cons (de_lc (di_rng1 (da_cons (de_var 4) da_nil)) (dg_name 13) dt_yes (de_cb cd_int (da_cons (de_op od_eq (de_var 13) (de_var 12)) da_nil)) (by decide)) da_nil)) (by decide)) da_nil)) da_nil)))) (ds_ret de_bl) ds_next)
      (ds_seq (ds_if (dt_val (de_op od_eq (de_cb cd_repr (da_cons (de_call (da_cons (de_var 11) (da_cons (de_var 7) da_nil))) da_nil)) (de_cb cd_repr (da_cons (de_cb cd_len (da_cons (de_lc (di_rng1 (da_cons (de_var 3) da_nil)) (dg_name 9) (dt_val (de_op od_eq (de_opA oa_ix (de_var 6) (de_var 9)) (de_opA oa_ix (de_var 7) (de_var 9)))) (de_solid (de_var 9)) (by decide)) da_nil)) da_nil)))) (ds_ret de_bl) ds_next)
      (ds_if (dt_or (dt_val (de_op od_eq (de_call (da_cons (de_var 11) (da_cons (de_var 6) da_nil))) de_int)) (dt_val (de_op od_eq (de_cb cd_repr (da_cons (de_lst (da_cons (de_var 5) (da_cons (de_var 6) da_nil))) da_nil)) (de_var 10)))) (ds_ret de_bl) ds_next)))))))) (by decide))
      (ds_ret (de_op od_eq (de_cb cd_repr (da_cons (de_call (da_cons (de_tup (da_cons de_int (da_cons de_int da_nil))) (da_cons de_int da_nil))) da_nil)) (de_cb cd_repr (da_cons (de_tup (da_cons (de_tup (da_cons de_int (da_cons de_int da_nil))) (da_cons (de_tup (da_cons de_int (da_cons de_int da_nil))) da_nil))) da_nil)))))) pl_law h
end
/-! ### the end -/
theorem all_mk {l : PySem.W.OpenLaw} {w : World} {K : PySem.W.Frag} {h : Heap} {mg : Str → Option Value} {fa : Addr} (X : K.In h) (G : h.Ns mainGlobals mg) (hfa : mg "law" = some (.ref fa))
    {f0 : Addr} {od0 an0 : Option Addr} {sl0 : Array (Option Value)} {oc0 kV0 dc0 pm0 cd0 ct0 : Value}
    (a0 : PySem.W.nsIn K mainGlobals "row_price" = some (some (.ref f0))) (l0 : K.lookup f0 = some ⟨oc0, od0, .func (PySem.W.fnOf "row_price" "row_price" (defArgs s_row_price) (defBody s_row_price) (defScope s_row_price) .none kV0 dc0 pm0 an0 cd0 ct0), sl0⟩) (c0 : PySem.W.codeIn K cd0 "row_price" = true) (k0 : PySem.W.keepIn K (.ref f0) = true)
    {f1 : Addr} {od1 an1 : Option Addr} {sl1 : Array (Option Value)} {oc1 kV1 dc1 pm1 cd1 ct1 : Value}
    (a1 : PySem.W.nsIn K mainGlobals "near_prices" = some (some (.ref f1))) (l1 : K.lookup f1 = some ⟨oc1, od1, .func (PySem.W.fnOf "near_prices" "near_prices" (defArgs s_near_prices) (defBody s_near_prices) (defScope s_near_prices) .none kV1 dc1 pm1 an1 cd1 ct1), sl1⟩) (c1 : PySem.W.codeIn K cd1 "near_prices" = true) (k1 : PySem.W.keepIn K (.ref f1) = true)
    {f2 : Addr} {od2 an2 : Option Addr} {sl2 : Array (Option Value)} {oc2 kV2 dc2 pm2 cd2 ct2 : Value}
    (a2 : PySem.W.nsIn K mainGlobals "_law_source" = some (some (.ref f2))) (l2 : K.lookup f2 = some ⟨oc2, od2, .func (PySem.W.fnOf "_law_source" "_law_source" (defArgs s__law_source) (defBody s__law_source) (defScope s__law_source) .none kV2 dc2 pm2 an2 cd2 ct2), sl2⟩) (c2 : PySem.W.codeIn K cd2 "_law_source" = true) (k2 : PySem.W.keepIn K (.ref f2) = true)
    {f3 : Addr} {od3 an3 : Option Addr} {sl3 : Array (Option Value)} {oc3 kV3 dc3 pm3 cd3 ct3 : Value}
    (a3 : PySem.W.nsIn K mainGlobals "_law_pick" = some (some (.ref f3))) (l3 : K.lookup f3 = some ⟨oc3, od3, .func (PySem.W.fnOf "_law_pick" "_law_pick" (defArgs s__law_pick) (defBody s__law_pick) (defScope s__law_pick) .none kV3 dc3 pm3 an3 cd3 ct3), sl3⟩) (c3 : PySem.W.codeIn K cd3 "_law_pick" = true) (k3 : PySem.W.keepIn K (.ref f3) = true)
    {f4 : Addr} {od4 an4 : Option Addr} {sl4 : Array (Option Value)} {oc4 kV4 dc4 pm4 cd4 ct4 : Value}
    (a4 : PySem.W.nsIn K mainGlobals "_law_prices" = some (some (.ref f4))) (l4 : K.lookup f4 = some ⟨oc4, od4, .func (PySem.W.fnOf "_law_prices" "_law_prices" (defArgs s__law_prices) (defBody s__law_prices) (defScope s__law_prices) .none kV4 dc4 pm4 an4 cd4 ct4), sl4⟩) (c4 : PySem.W.codeIn K cd4 "_law_prices" = true) (k4 : PySem.W.keepIn K (.ref f4) = true)
    {f5 : Addr} {od5 an5 : Option Addr} {sl5 : Array (Option Value)} {oc5 kV5 dc5 pm5 cd5 ct5 : Value}
    (a5 : PySem.W.nsIn K mainGlobals "_law_price" = some (some (.ref f5))) (l5 : K.lookup f5 = some ⟨oc5, od5, .func (PySem.W.fnOf "_law_price" "_law_price" (defArgs s__law_price) (defBody s__law_price) (defScope s__law_price) .none kV5 dc5 pm5 an5 cd5 ct5), sl5⟩) (c5 : PySem.W.codeIn K cd5 "_law_price" = true) (k5 : PySem.W.keepIn K (.ref f5) = true)
    {f6 : Addr} {od6 an6 : Option Addr} {sl6 : Array (Option Value)} {oc6 kV6 dc6 pm6 cd6 ct6 : Value}
    (a6 : PySem.W.nsIn K mainGlobals "law" = some (some (.ref f6))) (l6 : K.lookup f6 = some ⟨oc6, od6, .func (PySem.W.fnOf "law" "law" (defArgs s_law) (defBody s_law) (defScope s_law) .none kV6 dc6 pm6 an6 cd6 ct6), sl6⟩) (c6 : PySem.W.codeIn K cd6 "law" = true) (k6 : PySem.W.keepIn K (.ref f6) = true)
    (z_abs : PySem.W.nsIn K mainGlobals "abs" = some none)
    (z_enumerate : PySem.W.nsIn K mainGlobals "enumerate" = some none)
    (z_int : PySem.W.nsIn K mainGlobals "int" = some none)
    (z_len : PySem.W.nsIn K mainGlobals "len" = some none)
    (z_max : PySem.W.nsIn K mainGlobals "max" = some none)
    (z_range : PySem.W.nsIn K mainGlobals "range" = some none)
    (z_repr : PySem.W.nsIn K mainGlobals "repr" = some none)
    (z_sum : PySem.W.nsIn K mainGlobals "sum" = some none)
    (z_tuple : PySem.W.nsIn K mainGlobals "tuple" = some none)
    : ∃ fd : FuncData, (∀ (s : Shared) (v : Value), BindsTo s fd ⟨[v], []⟩ [("script", v)]) ∧ ∀ base : Heap, K.In base → base.Ns mainGlobals mg → FnG l.prog w K mg base 3 fa fd ["script"] (spLaw K) := by
  have T : Tx K mg := ⟨PySem.W.mg_none_of X G z_abs, PySem.W.mg_none_of X G z_enumerate, PySem.W.mg_none_of X G z_int, PySem.W.mg_none_of X G z_len, PySem.W.mg_none_of X G z_max, PySem.W.mg_none_of X G z_range, PySem.W.mg_none_of X G z_repr, PySem.W.mg_none_of X G z_sum, PySem.W.mg_none_of X G z_tuple, ⟨_, _, PySem.W.mg_of X G a0, fun_mk l0 c0 k0⟩, ⟨_, _, PySem.W.mg_of X G a1, fun_mk l1 c1 k1⟩, ⟨_, _, PySem.W.mg_of X G a2, fun_mk l2 c2 k2⟩, ⟨_, _, PySem.W.mg_of X G a3, fun_mk l3 c3 k3⟩, ⟨_, _, PySem.W.mg_of X G a4, fun_mk l4 c4 k4⟩, ⟨_, _, PySem.W.mg_of X G a5, fun_mk l5 c5 k5⟩, ⟨_, _, PySem.W.mg_of X G a6, fun_mk l6 c6 k6⟩⟩
  have e := hfa.symm.trans (PySem.W.mg_of X G a6)
  cases e
  refine ⟨PySem.W.fnOf "law" "law" (defArgs s_law) (defBody s_law) (defScope s_law) .none kV6 dc6 pm6 an6 cd6 ct6, fun s v => .of_eq rfl, fun base _ _ => ?_⟩
  exact fn_law (P := l.prog) (w := w) (base := base) T (fun_mk l6 c6 k6)
end Z
open PySem PySem.W PyProof.Rows
set_option maxHeartbeats 0 in
theorem PySem.Challenge.cw_spancodes_k45_prices_of_rows_holds : PySem.Challenge.rw_spancodes_k45_prices_of_rows.Holds := by
  w_on; o_law; k_head; (case hw => w_witness2)
  k_fill
  refine Z.walkG (l := PySem.Challenge.rw_spancodes_k45_prices_of_rows) (n := 63) (k := 3) (x := "script") (sp := Z.spLaw) rfl (Z.lim_ok (by decide)) rfl ⟨rfl, by decide, by decide⟩ (fun w h Y => PySem.W.kIn_of Y) ?F (fun K H a ns hl _ hS => ⟨a, ns, rfl, hS, hl, fun _ => rfl⟩)
  case F =>
    intro w mg fa h KX G hmg
    refine' Z.all_mk KX G hmg ?a0 ?l0 ?c0 ?k0 ?a1 ?l1 ?c1 ?k1 ?a2 ?l2 ?c2 ?k2 ?a3 ?l3 ?c3 ?k3 ?a4 ?l4 ?c4 ?k4 ?a5 ?l5 ?c5 ?k5 ?a6 ?l6 ?c6 ?k6 ?z_abs ?z_enumerate ?z_int ?z_len ?z_max ?z_range ?z_repr ?z_sum ?z_tuple
    (case a0 => k_is)
    (case l0 => k_is)
    (case c0 => k_is)
    (case k0 => k_is)
    (case a1 => k_is)
    (case l1 => k_is)
    (case c1 => k_is)
    (case k1 => k_is)
    (case a2 => k_is)
    (case l2 => k_is)
    (case c2 => k_is)
    (case k2 => k_is)
    (case a3 => k_is)
    (case l3 => k_is)
    (case c3 => k_is)
    (case k3 => k_is)
    (case a4 => k_is)
    (case l4 => k_is)
    (case c4 => k_is)
    (case k4 => k_is)
    (case a5 => k_is)
    (case l5 => k_is)
    (case c5 => k_is)
    (case k5 => k_is)
    (case a6 => k_is)
    (case l6 => k_is)
    (case c6 => k_is)
    (case k6 => k_is)
    (case z_abs => k_is)
    (case z_enumerate => k_is)
    (case z_int => k_is)
    (case z_len => k_is)
    (case z_max => k_is)
    (case z_range => k_is)
    (case z_repr => k_is)
    (case z_sum => k_is)
    (case z_tuple => k_is)
