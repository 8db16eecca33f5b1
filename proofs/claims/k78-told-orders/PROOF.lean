import PyProof.Rows.All
import Wide.All
import OpenK.AllK
import Wide.FinOn
import HandS.ForMost
import HandS.Walk
import HandS.TupAny
import HandS.TupMul
import HandS.NoneIn
import HandS.Iter
import HandS.Ends
import HandS.Style
import HandS.Conv
import HandS.Deep
import HandS.SortKw
import HandS.Zip
import HandS.Star
import HandS.IsInst
import HandS.Dict
import HandS.Finally
import HandS.WideBits
import HandS.SetKeys
import HandS.Sort
import HandS.RepeatKit
import HandS.More
import HandS.Text
import KE.KeyNested
import KE.DataEq
import KE.DataCmp
import KE.GoesEnum
import KE.GoesMore
import KE.KIndexOf
import KE.SortData
import KE.GoesEnumKw
import KE.KTupSum
import KE.KDictKeyed
import KE.KDictSum
import KE.KDictCopyH
import KE.DataMinMax
import KE.KBits
import KE.KDictWalk
import PyProof.ReprRoads
import PyProof.ReprLen
import PyProof.Rows.RowBridgeK
import PySem.Challenge.RW_spancodes_k78_told_orders
set_option Elab.async false
set_option linter.all false
set_option maxRecDepth 100000
set_option maxHeartbeats 2000000
/-! Z0: data over the layer. A value stands for PyData with the addresses of its lists; an environment of such; readings of expressions and statements as predicates over environments of data. -/
namespace Z
open PySem L2
abbrev D := PyData
/-- the datum that stands for the law's source -/
def srcD : D := .dict [(.none, .none)]
def isSrc : List (D × D) → Bool
  | [(.none, .none)] => true
  | _ => false
/-- a list that never changes any more: its marked entries -/
def isFrz : List (D × D) → Bool
  | (.bool true, .none) :: _ => true
  | _ => false
def frzK (ds : List D) : List (D × D) := (.bool true, .none) :: ds.map fun d => (.bool true, d)
/-- the datum that stands for a list that never changes any more -/
def frzD (ds : List D) : D := .dict (frzK ds)
theorem frzK_is (ds : List D) : isSrc (frzK ds) = false ∧ isFrz (frzK ds) = true := ⟨by cases ds <;> rfl, rfl⟩
/-- a dict that never changes any more: a mark, then its keys and values -/
def isFrd : List (D × D) → Bool
  | (.bool false, .none) :: _ => true
  | _ => false
def frdK (kvs : List (D × D)) : List (D × D) := (.bool false, .none) :: kvs
def frdD (kvs : List (D × D)) : D := .dict (frdK kvs)
theorem frdK_is (kvs : List (D × D)) : isSrc (frdK kvs) = false ∧ isFrz (frdK kvs) = false ∧ isFrd (frdK kvs) = true := ⟨by cases kvs <;> rfl, rfl, rfl⟩
/-- the program's written part; the addresses of the source's dict and of its list of cells -/
structure Zc where
  K : PySem.W.Frag
  S : Option (Addr × Addr)
def Zc.has (c : Zc) (a : Addr) : Prop := ∃ p, c.S = some p ∧ (a = p.1 ∨ a = p.2)
/-- a key of a dict -/
def keyD : Key → D
  | .inl i => .int i
  | .inr x => .str x
/-! ### keys that are tuples -/
mutual
/-- what a key tells ==: whole numbers, None, tuples of such -/
def nkey : D → Option NestedKey
  | .none => some .none
  | .int i => some (.num i)
  | .tuple xs => (nkeys xs).map .tup
  | .bool _ => none
  | .str _ => none
  | .list _ => none
  | .dict _ => none
def nkeys : List D → Option (List NestedKey)
  | [] => some []
  | x :: xs => match nkey x, nkeys xs with
    | some k, some ks => some (k :: ks)
    | _, _ => none
end
mutual
/-- the hash of a key without texts -/
def hk : NestedKey → Int
  | .none => reduceHash 0xFCA86420
  | .num i => hashInt i
  | .text _ => 0
  | .tup ks => reduceHash (Builtin.Tuple.tupleHashOf (hks ks))
def hks : List NestedKey → List Int
  | [] => []
  | k :: ks => hk k :: hks ks
end
/-- a row of such a dict: the key, where its tuple stands, the value -/
abbrev Row := NestedKey × Addr × V
def RowIs (r : Row) (e : DictEntry) : Prop := e.hash = hk r.1 ∧ e.key = .ref r.2.1 ∧ RelV r.2.2 e.val
/-- a dict whose keys are tuples -/
def dX (a : Addr) (rows : List Row) : HO := .ext fun h => (a == sysModules) = false ∧ rows.length ≤ 10000000 ∧ ∃ o es ep, h.get? a = some o ∧ o.ExactDict ∧ o.data = .dict es ep ∧ Paired RowIs rows es.toList
/-- a dict's object, by its keys and values -/
def DictU (a : Addr) (ks : List D) (ys xs : List V) (u : HO) : Prop :=
  (∃ kk : List Key, ks = kk.map keyD ∧ kk.Nodup ∧ xs.length = kk.length ∧ u = .dK (kk.zip xs)) ∨
  ∃ rows : List Row, rows ≠ [] ∧ ks.map nkey = rows.map (fun r => some r.1) ∧ (∀ r ∈ rows, r.1.depth ≤ 8 ∧ ∃ l, r.1 = .tup l) ∧ ys = rows.map (fun r => .ref r.2.1) ∧ xs = rows.map (fun r => r.2.2) ∧ (rows.map (·.1)).Nodup ∧ u = dX a rows
theorem DictU.not_fix {a : Addr} {ks : List D} {ys xs : List V} {u : HO} (h : DictU a ks ys xs u) : Mut (some u) ∧ (∀ zs, u ≠ .tup zs) ∧ ∀ o z, u ≠ .frz o z := by
  rcases h with ⟨_, _, _, _, rfl⟩ | ⟨_, _, _, _, _, _, _, rfl⟩
  · exact ⟨trivial, fun _ => nofun, fun _ _ => nofun⟩
  · exact ⟨trivial, fun _ => nofun, fun _ _ => nofun⟩
/-- a tuple that has no dict of its own: it stands as a known object -/
def SqD (K : PySem.W.Frag) (H : Hp) (a : Addr) (xs : List V) : Prop :=
  (∃ o, H a = some (.frz o (.tup xs)) ∧ o.dict = none) ∨
    ∃ (o : Obj) (its : Array Value) (n : Nat), K.lookup a = some o ∧ o.cls = .type "tuple" ∧ o.dict = none ∧ o.data = .seq its n ∧ its.size ≤ sizeLine ∧ Vals xs its.toList
theorem SqD.t {K : PySem.W.Frag} {H : Hp} {a : Addr} {xs : List V} (h : SqD K H a xs) : SqT K H a xs := by
  rcases h with ⟨o, h, _⟩ | ⟨o, its, n, h1, h2, _, h4, h5, h6⟩
  · exact .inl (.inr ⟨o, h⟩)
  · exact .inr ⟨o, its, n, h1, h2, h4, h5, h6⟩
theorem SqD.new {K : PySem.W.Frag} {H : Hp} {a : Addr} {xs : List V} {o : Obj} (e : o.dict = none) : SqD K (upd H a (.frz o (.tup xs))) a xs := .inl ⟨o, upd_same, e⟩
/-! ### a value that stands for a datum; the addresses of its lists and dicts -/
mutual
def Rp (c : Zc) (H : Hp) : D → V → List Addr → Prop
  | .none, v, fp => v = .non ∧ fp = []
  | .bool b, v, fp => v = .bl b ∧ fp = []
  | .int i, v, fp => v = .int i ∧ fp = []
  | .str x, v, fp => v = .str x ∧ fp = []
  | .list ds, v, fp => ∃ a xs gp, v = .ref a ∧ fp = a :: gp ∧ H a = some (.lst xs) ∧ Rps c H ds xs gp
  | .tuple ds, v, fp => ∃ a xs, v = .ref a ∧ SqD c.K H a xs ∧ Rps c H ds xs fp
  | .dict kvs, v, fp => if isSrc kvs = true then ∃ p, c.S = some p ∧ v = .ref p.1 ∧ fp = []
      else if isFrz kvs = true then ∃ a y0 x0 ys xs, v = .ref a ∧ fp = [] ∧ (∃ o, H a = some (.frz o (.lst xs))) ∧ Rpk c H kvs (y0 :: ys) (x0 :: xs) []
      else if isFrd kvs = true then ∃ a y0 x0 ys xs, v = .ref a ∧ fp = [] ∧ (∃ o u, H a = some (.frz o u) ∧ DictU a (kvs.tail.map (·.1)) ys xs u) ∧ Rpk c H kvs (y0 :: ys) (x0 :: xs) []
      else ∃ a ys xs gp, v = .ref a ∧ fp = a :: gp ∧ Rpk c H kvs ys xs gp ∧ ∃ u, H a = some u ∧ DictU a (kvs.map (·.1)) ys xs u
def Rps (c : Zc) (H : Hp) : List D → List V → List Addr → Prop
  | [], xs, fp => xs = [] ∧ fp = []
  | d :: ds, xs, fp => ∃ x ys f1 f2, xs = x :: ys ∧ fp = f1 ++ f2 ∧ Rp c H d x f1 ∧ Rps c H ds ys f2
def Rpk (c : Zc) (H : Hp) : List (D × D) → List V → List V → List Addr → Prop
  | [], ys, xs, fp => ys = [] ∧ xs = [] ∧ fp = []
  | (k, d) :: r, ys, xs, fp => ∃ y ys' x xs' f1 f2, ys = y :: ys' ∧ xs = x :: xs' ∧ fp = f1 ++ f2 ∧ Rp c H k y [] ∧ Rp c H d x f1 ∧ Rpk c H r ys' xs' f2
end
mutual
/-- no list and no dict in it -/
def solid : D → Bool
  | .none | .bool _ | .int _ | .str _ => true
  | .list _ => false
  | .dict kvs => !isSrc kvs && (isFrz kvs || isFrd kvs)
  | .tuple xs => solids xs
def solids : List D → Bool
  | [] => true
  | x :: xs => solid x && solids xs
end
/-- what never changes -/
def Fix : HO → Prop
  | .tup _ => True
  | .frz _ _ => True
  | _ => False
def Tk (H H' : Hp) : Prop := ∀ a o, H a = some o → Fix o → H' a = some o
theorem Tk.sq {K : PySem.W.Frag} {H H' : Hp} {a : Addr} {xs : List V} (t : Tk H H') (h : SqT K H a xs) : SqT K H' a xs := by
  rcases h with (h | ⟨o, h⟩) | h
  · exact .inl (.inl (t _ _ h trivial))
  · exact .inl (.inr ⟨o, t _ _ h trivial⟩)
  · exact .inr h
theorem Tk.sqd {K : PySem.W.Frag} {H H' : Hp} {a : Addr} {xs : List V} (t : Tk H H') (h : SqD K H a xs) : SqD K H' a xs := by
  rcases h with ⟨o, h, e⟩ | h
  · exact .inl ⟨o, t _ _ h trivial, e⟩
  · exact .inr h
theorem Tk.refl (H : Hp) : Tk H H := fun _ _ h _ => h
theorem Tk.trans {H H1 H2 : Hp} (a : Tk H H1) (b : Tk H1 H2) : Tk H H2 := fun x o h f => b x o (a x o h f) f
section
variable {c : Zc} {H H' : Hp}
mutual
theorem Rp.mono (t : Tk H H') : ∀ (d : D) (v : V) (fp : List Addr), Rp c H d v fp → (∀ a ∈ fp, H' a = H a) → Rp c H' d v fp
  | .none, _, _, h, _ => by simp only [Rp] at h ⊢; exact h
  | .bool b, _, _, h, _ => by simp only [Rp] at h ⊢; exact h
  | .int i, _, _, h, _ => by simp only [Rp] at h ⊢; exact h
  | .str x, _, _, h, _ => by simp only [Rp] at h ⊢; exact h
  | .list ds, v, fp, h, k => by
    simp only [Rp] at h ⊢
    obtain ⟨a, xs, gp, rfl, rfl, h1, h2⟩ := h
    exact ⟨a, xs, gp, rfl, rfl, by rw [k a (List.mem_cons_self ..)]; exact h1, Rps.mono t ds xs gp h2 fun b hb => k b (List.mem_cons_of_mem _ hb)⟩
  | .tuple ds, v, fp, h, k => by
    simp only [Rp] at h ⊢
    obtain ⟨a, xs, rfl, h1, h2⟩ := h
    exact ⟨a, xs, rfl, t.sqd h1, Rps.mono t ds xs fp h2 k⟩
  | .dict kvs, v, fp, h, k => by
    simp only [Rp] at h ⊢
    split
    · rename_i hs
      rw [if_pos hs] at h
      exact h
    · rename_i hs
      rw [if_neg hs] at h
      split
      · rename_i hf
        rw [if_pos hf] at h
        obtain ⟨a, y0, x0, ys, xs, rfl, rfl, ⟨o, ho⟩, h1⟩ := h
        exact ⟨a, y0, x0, ys, xs, rfl, rfl, ⟨o, t a _ ho trivial⟩, Rpk.mono t kvs (y0 :: ys) (x0 :: xs) [] h1 k⟩
      rename_i hf
      rw [if_neg hf] at h
      split
      · rename_i hd
        rw [if_pos hd] at h
        obtain ⟨a, y0, x0, ys, xs, rfl, rfl, ⟨o, u, ho, hu⟩, h1⟩ := h
        exact ⟨a, y0, x0, ys, xs, rfl, rfl, ⟨o, u, t a _ ho trivial, hu⟩, Rpk.mono t kvs (y0 :: ys) (x0 :: xs) [] h1 k⟩
      rename_i hd
      rw [if_neg hd] at h
      obtain ⟨a, ys, xs, gp, rfl, rfl, h1, u, hu, hd⟩ := h
      exact ⟨a, ys, xs, gp, rfl, rfl, Rpk.mono t kvs ys xs gp h1 fun b hb => k b (List.mem_cons_of_mem _ hb), u, by rw [k a (List.mem_cons_self ..)]; exact hu, hd⟩
theorem Rps.mono (t : Tk H H') : ∀ (ds : List D) (xs : List V) (fp : List Addr), Rps c H ds xs fp → (∀ a ∈ fp, H' a = H a) → Rps c H' ds xs fp
  | [], _, _, h, _ => by simp only [Rps] at h ⊢; exact h
  | d :: ds, xs, fp, h, k => by
    simp only [Rps] at h ⊢
    obtain ⟨x, ys, f1, f2, rfl, rfl, h1, h2⟩ := h
    exact ⟨x, ys, f1, f2, rfl, rfl, Rp.mono t d x f1 h1 fun a ha => k a (List.mem_append_left _ ha), Rps.mono t ds ys f2 h2 fun a ha => k a (List.mem_append_right _ ha)⟩
theorem Rpk.mono (t : Tk H H') : ∀ (ds : List (D × D)) (ys xs : List V) (fp : List Addr), Rpk c H ds ys xs fp → (∀ a ∈ fp, H' a = H a) → Rpk c H' ds ys xs fp
  | [], _, _, _, h, _ => by simp only [Rpk] at h ⊢; exact h
  | (e, d) :: ds, ys, xs, fp, h, k => by
    simp only [Rpk] at h ⊢
    obtain ⟨y, ys', x, xs', f1, f2, rfl, rfl, rfl, h0, h1, h2⟩ := h
    exact ⟨y, ys', x, xs', f1, f2, rfl, rfl, rfl, Rp.mono t e y [] h0 (fun a ha => by cases ha), Rp.mono t d x f1 h1 fun a ha => k a (List.mem_append_left _ ha), Rpk.mono t ds ys' xs' f2 h2 fun a ha => k a (List.mem_append_right _ ha)⟩
end
mutual
theorem Rp.there : ∀ (d : D) (v : V) (fp : List Addr), Rp c H d v fp → ∀ a ∈ fp, ∃ o, H a = some o ∧ ¬ Fix o
  | .none, _, _, h => by simp only [Rp] at h; rw [h.2]; intro a ha; cases ha
  | .bool b, _, _, h => by simp only [Rp] at h; rw [h.2]; intro a ha; cases ha
  | .int i, _, _, h => by simp only [Rp] at h; rw [h.2]; intro a ha; cases ha
  | .str x, _, _, h => by simp only [Rp] at h; rw [h.2]; intro a ha; cases ha
  | .list ds, v, fp, h => by
    simp only [Rp] at h
    obtain ⟨a, xs, gp, rfl, rfl, h1, h2⟩ := h
    intro b hb
    rcases List.mem_cons.mp hb with rfl | hb
    · exact ⟨_, h1, id⟩
    · exact Rps.there ds xs gp h2 b hb
  | .tuple ds, v, fp, h => by
    simp only [Rp] at h
    obtain ⟨a, xs, rfl, h1, h2⟩ := h
    exact Rps.there ds xs fp h2
  | .dict kvs, v, fp, h => by
    simp only [Rp] at h
    split at h
    · obtain ⟨p, _, _, e⟩ := h
      rw [e]; intro a ha; cases ha
    split at h
    · obtain ⟨a, y0, x0, ys, xs, _, e, _⟩ := h
      rw [e]; intro a ha; cases ha
    split at h
    · obtain ⟨a, y0, x0, ys, xs, _, e, _⟩ := h
      rw [e]; intro a ha; cases ha
    · obtain ⟨a, ys, xs, gp, rfl, rfl, h1, u, e4, hu⟩ := h
      intro b hb
      rcases List.mem_cons.mp hb with rfl | hb
      · obtain ⟨_, n1, n2⟩ := hu.not_fix
        refine ⟨_, e4, fun hz => ?_⟩
        cases u with
        | tup zs => exact n1 zs rfl
        | frz o z => exact n2 o z rfl
        | _ => exact hz
      · exact Rpk.there kvs ys xs gp h1 b hb
theorem Rps.there : ∀ (ds : List D) (xs : List V) (fp : List Addr), Rps c H ds xs fp → ∀ a ∈ fp, ∃ o, H a = some o ∧ ¬ Fix o
  | [], _, _, h => by simp only [Rps] at h; rw [h.2]; intro a ha; cases ha
  | d :: ds, xs, fp, h => by
    simp only [Rps] at h
    obtain ⟨x, ys, f1, f2, rfl, rfl, h1, h2⟩ := h
    intro a ha
    rcases List.mem_append.mp ha with ha | ha
    · exact Rp.there d x f1 h1 a ha
    · exact Rps.there ds ys f2 h2 a ha
theorem Rpk.there : ∀ (ds : List (D × D)) (ys xs : List V) (fp : List Addr), Rpk c H ds ys xs fp → ∀ a ∈ fp, ∃ o, H a = some o ∧ ¬ Fix o
  | [], _, _, _, h => by simp only [Rpk] at h; rw [h.2.2]; intro a ha; cases ha
  | (_, d) :: ds, ys, xs, fp, h => by
    simp only [Rpk] at h
    obtain ⟨y, ys', x, xs', f1, f2, rfl, rfl, rfl, h0, h1, h2⟩ := h
    intro a ha
    rcases List.mem_append.mp ha with ha | ha
    · exact Rp.there d x f1 h1 a ha
    · exact Rpk.there ds ys' xs' f2 h2 a ha
end
mutual
theorem Rp.solid : ∀ (d : D) (v : V) (fp : List Addr), Rp c H d v fp → solid d = true → fp = []
  | .none, _, _, h, _ => by simp only [Rp] at h; exact h.2
  | .bool b, _, _, h, _ => by simp only [Rp] at h; exact h.2
  | .int i, _, _, h, _ => by simp only [Rp] at h; exact h.2
  | .str x, _, _, h, _ => by simp only [Rp] at h; exact h.2
  | .list ds, v, fp, h, s => by simp [Z.solid] at s
  | .tuple ds, v, fp, h, s => by
    simp only [Rp] at h
    simp only [Z.solid] at s
    obtain ⟨a, xs, rfl, h1, h2⟩ := h
    exact Rps.solid ds xs fp h2 s
  | .dict kvs, v, fp, h, s => by
    simp only [Z.solid, Bool.and_eq_true, Bool.not_eq_true', Bool.or_eq_true] at s
    simp only [Rp] at h
    rw [if_neg (by rw [s.1]; simp)] at h
    split at h
    · obtain ⟨a, y0, x0, ys, xs, _, e, _⟩ := h
      exact e
    · rename_i hf
      rw [if_pos (s.2.resolve_left hf)] at h
      obtain ⟨a, y0, x0, ys, xs, _, e, _⟩ := h
      exact e
theorem Rps.solid : ∀ (ds : List D) (xs : List V) (fp : List Addr), Rps c H ds xs fp → solids ds = true → fp = []
  | [], _, _, h, _ => by simp only [Rps] at h; exact h.2
  | d :: ds, xs, fp, h, s => by
    simp only [Rps] at h
    simp only [Z.solids, Bool.and_eq_true] at s
    obtain ⟨x, ys, f1, f2, rfl, rfl, h1, h2⟩ := h
    rw [Rp.solid d x f1 h1 s.1, Rps.solid ds ys f2 h2 s.2]
    rfl
end
theorem Rps.len : ∀ {ds : List D} {xs : List V} {fp : List Addr}, Rps c H ds xs fp → xs.length = ds.length
  | [], _, _, h => by simp only [Rps] at h; rw [h.1]; rfl
  | d :: ds, xs, fp, h => by
    simp only [Rps] at h
    obtain ⟨x, ys, f1, f2, rfl, rfl, h1, h2⟩ := h
    rw [List.length_cons, List.length_cons, Rps.len h2]
/-- the i-th one -/
theorem Rps.at : ∀ {ds : List D} {xs : List V} {fp : List Addr} {i : Nat} {d : D}, Rps c H ds xs fp → ds[i]? = some d → ∃ x gp, xs[i]? = some x ∧ Rp c H d x gp ∧ (∀ a ∈ gp, a ∈ fp) ∧ (fp.Nodup → gp.Nodup)
  | [], _, _, _, _, _, e => by simp at e
  | d :: ds, xs, fp, 0, d', h, e => by
    simp only [Rps] at h
    obtain ⟨x, ys, f1, f2, rfl, rfl, h1, h2⟩ := h
    simp only [List.getElem?_cons_zero, Option.some.injEq] at e
    subst e
    exact ⟨x, f1, rfl, h1, fun a ha => List.mem_append_left _ ha, fun n => (List.nodup_append.mp n).1⟩
  | d :: ds, xs, fp, i + 1, d', h, e => by
    simp only [Rps] at h
    obtain ⟨x, ys, f1, f2, rfl, rfl, h1, h2⟩ := h
    obtain ⟨y, gp, e1, e2, e3, e4⟩ := Rps.at (i := i) h2 (by simpa using e)
    exact ⟨y, gp, by simpa using e1, e2, fun a ha => List.mem_append_right _ (e3 a ha), fun n => e4 (List.nodup_append.mp n).2.1⟩
theorem Rps.app : ∀ {ds es : List D} {xs ys : List V} {fp gp : List Addr}, Rps c H ds xs fp → Rps c H es ys gp → Rps c H (ds ++ es) (xs ++ ys) (fp ++ gp)
  | [], es, xs, ys, fp, gp, h, k => by
    simp only [Rps] at h
    rw [h.1, h.2]
    exact k
  | d :: ds, es, xs, ys, fp, gp, h, k => by
    simp only [Rps] at h
    obtain ⟨x, zs, f1, f2, rfl, rfl, h1, h2⟩ := h
    simp only [List.cons_append, List.append_assoc]
    simp only [Rps]
    exact ⟨x, zs ++ ys, f1, f2 ++ gp, rfl, rfl, h1, Rps.app h2 k⟩
theorem Rps.nil : Rps c H [] [] [] := by simp [Rps]
theorem rpk_frz {k : D} : ∀ {ds : List D} {ys xs : List V} {fp : List Addr}, Rpk c H (ds.map fun d => (k, d)) ys xs fp → Rps c H ds xs fp
  | [], ys, xs, fp, h => by
    simp only [List.map_nil, Rpk] at h
    simp only [Rps]
    exact h.2
  | d :: ds, ys, xs, fp, h => by
    simp only [List.map_cons, Rps, Rpk] at h ⊢
    obtain ⟨y, ys', x, xs', f1, f2, rfl, rfl, rfl, h0, h1, h2⟩ := h
    exact ⟨x, xs', f1, f2, rfl, rfl, h1, rpk_frz h2⟩
theorem frz_rpk {k : D} {y : V} (hk : Rp c H k y []) : ∀ {ds : List D} {xs : List V} {fp : List Addr}, Rps c H ds xs fp → Rpk c H (ds.map fun d => (k, d)) (ds.map fun _ => y) xs fp
  | [], xs, fp, h => by
    simp only [Rps] at h
    simp only [List.map_nil, Rpk]
    exact ⟨trivial, h⟩
  | d :: ds, xs, fp, h => by
    simp only [List.map_cons, Rps, Rpk] at h ⊢
    obtain ⟨x, xs', f1, f2, rfl, rfl, h1, h2⟩ := h
    exact ⟨y, _, x, xs', f1, f2, rfl, rfl, rfl, hk, h1, frz_rpk hk h2⟩
theorem rp_frz {ds : List D} {v : V} {fp : List Addr} : Rp c H (frzD ds) v fp ↔ ∃ a xs, v = .ref a ∧ fp = [] ∧ (∃ o, H a = some (.frz o (.lst xs))) ∧ Rps c H ds xs [] := by
  unfold frzD
  simp only [Rp]
  rw [if_neg (by rw [(frzK_is ds).1]; simp), if_pos (frzK_is ds).2]
  constructor
  · rintro ⟨a, y0, x0, ys, xs, rfl, rfl, ho, h⟩
    simp only [frzK, Rpk, Rp] at h
    obtain ⟨y, ys', x, xs', f1, f2, e0, e1, e2, h0, ⟨rfl, rfl⟩, h2⟩ := h
    obtain ⟨rfl, rfl⟩ := List.cons.inj e1
    obtain rfl : f2 = [] := by simpa using e2.symm
    exact ⟨a, _, rfl, rfl, ho, rpk_frz h2⟩
  · rintro ⟨a, xs, rfl, rfl, ho, h⟩
    refine ⟨a, .bl true, .non, ds.map fun _ => .bl true, xs, rfl, rfl, ho, ?_⟩
    simp only [frzK, Rpk]
    exact ⟨_, _, _, _, [], [], rfl, rfl, rfl, by simp [Rp], by simp [Rp], frz_rpk (by simp [Rp]) h⟩
/-- a dict that never changes any more -/
theorem rp_frd {kvs : List (D × D)} {v : V} {fp : List Addr} : Rp c H (frdD kvs) v fp ↔ ∃ a ys xs, v = .ref a ∧ fp = [] ∧ (∃ o u, H a = some (.frz o u) ∧ DictU a (kvs.map (·.1)) ys xs u) ∧ Rpk c H kvs ys xs [] := by
  unfold frdD
  simp only [Rp]
  rw [if_neg (by rw [(frdK_is kvs).1]; simp), if_neg (by rw [(frdK_is kvs).2.1]; simp), if_pos (frdK_is kvs).2.2]
  constructor
  · rintro ⟨a, y0, x0, ys, xs, rfl, rfl, ho, h⟩
    simp only [frdK, Rpk, Rp] at h
    obtain ⟨y, ys', x, xs', f1, f2, e0, e1, e2, h0, ⟨rfl, rfl⟩, h2⟩ := h
    obtain ⟨rfl, rfl⟩ := List.cons.inj e1
    obtain ⟨rfl, rfl⟩ := List.cons.inj e0
    obtain rfl : f2 = [] := by simpa using e2.symm
    exact ⟨a, _, _, rfl, rfl, ho, h2⟩
  · rintro ⟨a, ys, xs, rfl, rfl, ho, h⟩
    refine ⟨a, .bl false, .non, ys, xs, rfl, rfl, ho, ?_⟩
    simp only [frdK, Rpk]
    exact ⟨_, _, _, _, [], [], rfl, rfl, rfl, by simp [Rp], by simp [Rp], h⟩
theorem solid_frd (kvs : List (D × D)) : Z.solid (frdD kvs) = true := by
  unfold frdD
  simp only [Z.solid, (frdK_is kvs).1, (frdK_is kvs).2.2]
  simp
theorem solid_frz (ds : List D) : Z.solid (frzD ds) = true := by
  unfold frzD
  simp only [Z.solid, (frzK_is ds).1, (frzK_is ds).2]
  simp
theorem Rps.cons {d : D} {ds : List D} {x : V} {xs : List V} {fp gp : List Addr} (h : Rp c H d x fp) (k : Rps c H ds xs gp) : Rps c H (d :: ds) (x :: xs) (fp ++ gp) := by
  simp only [Rps]; exact ⟨x, xs, fp, gp, rfl, rfl, h, k⟩
theorem Rps.one {d : D} {x : V} {fp : List Addr} (h : Rp c H d x fp) : Rps c H [d] [x] fp := by
  have := Rps.cons h (Rps.nil (c := c) (H := H))
  rwa [List.append_nil] at this
end
/-! ### the source -/
/-- the source's own objects -/
def SrcAt (c : Zc) (H : Hp) : Prop := ∀ p, c.S = some p → p.1 ≠ p.2 ∧ ∃ (ns : List Int) (l m t : Int), ns.length ≤ 63 ∧ (∀ n ∈ ns, 0 ≤ n) ∧ 0 ≤ l ∧ 0 ≤ m ∧ m < 2147483648 ∧ 0 ≤ t ∧
  H p.1 = some (.dK [(Sum.inr "cells", .ref p.2), (Sum.inr "left", .int l), (Sum.inr "mixed", .int m), (Sum.inr "turn", .int t)]) ∧ H p.2 = some (.lst (ns.map V.int))
/-- all that was tracked is as it was, but the source -/
def Ext (c : Zc) (H H' : Hp) : Prop := ∀ a o, H a = some o → ¬ c.has a → H' a = some o
theorem Ext.refl (c : Zc) (H : Hp) : Ext c H H := fun _ _ h _ => h
theorem Ext.trans {c : Zc} {H H1 H2 : Hp} (a : Ext c H H1) (b : Ext c H1 H2) : Ext c H H2 := fun x o h n => b x o (a x o h n) n
theorem Ext.new {c : Zc} {H : Hp} {p : Addr} {o : HO} (h : H p = none) : Ext c H (upd H p o) := fun a u e _ => by
  rw [upd_ne (ne_of_none e h)]
  exact e
theorem Ext.free {c : Zc} {H H' : Hp} (e : Ext c H H') {p : Addr} (h : H' p = none) (n : ¬ c.has p) : H p = none := by
  cases q : H p with
  | none => rfl
  | some o =>
    rw [e p o q n] at h
    cases h
theorem SrcAt.not_fix {c : Zc} {H : Hp} (s : SrcAt c H) {a : Addr} {o : HO} (h : H a = some o) (f : Fix o) : ¬ c.has a := by
  rintro ⟨p, hp, e⟩
  obtain ⟨_, ns, l, m, t, _, _, _, _, _, _, h1, h2⟩ := s p hp
  rcases e with rfl | rfl
  · rw [h1] at h; cases h; exact f
  · rw [h2] at h; cases h; exact f
theorem Ext.tk {c : Zc} {H H' : Hp} (e : Ext c H H') (s : SrcAt c H) : Tk H H' := fun a o h f => e a o h (s.not_fix h f)
theorem SrcAt.there {c : Zc} {H : Hp} (s : SrcAt c H) {a : Addr} (h : c.has a) : ∃ o, H a = some o := by
  obtain ⟨p, hp, e⟩ := h
  obtain ⟨_, ns, l, m, t, _, _, _, _, _, _, h1, h2⟩ := s p hp
  rcases e with rfl | rfl
  · exact ⟨_, h1⟩
  · exact ⟨_, h2⟩
theorem SrcAt.fresh {c : Zc} {H : Hp} (s : SrcAt c H) {a : Addr} (h : H a = none) : ¬ c.has a := fun k => by
  obtain ⟨o, e⟩ := s.there k
  rw [h] at e; cases e
theorem SrcAt.new {c : Zc} {H : Hp} (s : SrcAt c H) {a : Addr} {o : HO} (h : H a = none) : SrcAt c (upd H a o) := fun p hp => by
  obtain ⟨n, ns, l, m, t, a1, a2, a3, a4, a5, a6, h1, h2⟩ := s p hp
  exact ⟨n, ns, l, m, t, a1, a2, a3, a4, a5, a6, by rw [upd_ne (ne_of_none h1 h)]; exact h1, by rw [upd_ne (ne_of_none h2 h)]; exact h2⟩
/-- an own list or dict is changed -/
theorem SrcAt.own {c : Zc} {H : Hp} (s : SrcAt c H) {a : Addr} {o : HO} (h : ¬ c.has a) : SrcAt c (upd H a o) := fun p hp => by
  obtain ⟨n, ns, l, m, t, a1, a2, a3, a4, a5, a6, h1, h2⟩ := s p hp
  exact ⟨n, ns, l, m, t, a1, a2, a3, a4, a5, a6, by rw [upd_ne (fun z => h ⟨p, hp, .inl z.symm⟩)]; exact h1, by rw [upd_ne (fun z => h ⟨p, hp, .inr z.symm⟩)]; exact h2⟩
/-- no address of the source's -/
def NoS (c : Zc) (fp : List Addr) : Prop := ∀ a ∈ fp, ¬ c.has a
theorem Rp.ext {c : Zc} {H H' : Hp} {d : D} {v : V} {fp : List Addr} (h : Rp c H d v fp) (n : NoS c fp) (e : Ext c H H') (s : SrcAt c H) : Rp c H' d v fp :=
  h.mono (e.tk s) _ _ _ fun a ha => by
    obtain ⟨o, ho, _⟩ := h.there _ _ _ a ha
    rw [ho]
    exact e a o ho (n a ha)
theorem Rps.ext {c : Zc} {H H' : Hp} {d : List D} {v : List V} {fp : List Addr} (h : Rps c H d v fp) (n : NoS c fp) (e : Ext c H H') (s : SrcAt c H) : Rps c H' d v fp :=
  h.mono (e.tk s) _ _ _ fun a ha => by
    obtain ⟨o, ho, _⟩ := h.there _ _ _ a ha
    rw [ho]
    exact e a o ho (n a ha)
/-! ### environments -/
inductive Sl where
  | unk | val (d : D) | own (d : D)
abbrev En := List Sl
def SlotOk (c : Zc) (G H : Hp) : Sl → Option (Option V) → List Addr → Prop
  | .unk, _, fp => fp = []
  | .val d, o, fp => ∃ v, o = some (some v) ∧ Rp c H d v fp ∧ NoS c fp
  | .own d, o, fp => ∃ v, o = some (some v) ∧ Rp c H d v fp ∧ NoS c fp ∧ fp.Nodup ∧ ∀ a ∈ fp, G a = none
def isOwn : Option Sl → Prop
  | some (.own _) => True
  | _ => False
structure EnvAt (c : Zc) (G H : Hp) (ρ : En) (σ : L2.St) (fps : Nat → List Addr) : Prop where
  len : σ.length = ρ.length
  ext : Ext c G H
  src : SrcAt c H
  ok : ∀ i s, ρ[i]? = some s → SlotOk c G H s σ[i]? (fps i)
  sep : ∀ i j, i ≠ j → i < ρ.length → j < ρ.length → isOwn ρ[i]? → ∀ a ∈ fps i, a ∉ fps j
theorem SlotOk.there {c : Zc} {G H : Hp} {s : Sl} {o : Option (Option V)} {fp : List Addr} (h : SlotOk c G H s o fp) : ∀ a ∈ fp, ∃ u, H a = some u ∧ ¬ Fix u := by
  cases s with
  | unk =>
    have e : fp = [] := h
    rw [e]; intro a ha; cases ha
  | val d => obtain ⟨v, _, h1, _⟩ := h; exact h1.there
  | own d => obtain ⟨v, _, h1, _⟩ := h; exact h1.there
theorem SlotOk.noS {c : Zc} {G H : Hp} {s : Sl} {o : Option (Option V)} {fp : List Addr} (h : SlotOk c G H s o fp) : NoS c fp := by
  cases s with
  | unk =>
    have e : fp = [] := h
    rw [e]; intro a ha; cases ha
  | val d => obtain ⟨v, _, _, h1⟩ := h; exact h1
  | own d => obtain ⟨v, _, _, h1, _⟩ := h; exact h1
theorem SlotOk.ext {c : Zc} {G H H' : Hp} {s : Sl} {o : Option (Option V)} {fp : List Addr} (h : SlotOk c G H s o fp) (e : Ext c H H') (sr : SrcAt c H) : SlotOk c G H' s o fp := by
  cases s with
  | unk => exact h
  | val d => obtain ⟨v, h0, h1, h2⟩ := h; exact ⟨v, h0, h1.ext h2 e sr, h2⟩
  | own d => obtain ⟨v, h0, h1, h2, h3⟩ := h; exact ⟨v, h0, h1.ext h2 e sr, h2, h3⟩
theorem EnvAt.step {c : Zc} {G H H' : Hp} {ρ : En} {σ : St} {fps : Nat → List Addr} (E : EnvAt c G H ρ σ fps) (e : Ext c H H') (s : SrcAt c H') : EnvAt c G H' ρ σ fps :=
  ⟨E.len, E.ext.trans e, s, fun i sl h => (E.ok i sl h).ext e E.src, E.sep⟩
theorem EnvAt.thereAt {c : Zc} {G H : Hp} {ρ : En} {σ : St} {fps : Nat → List Addr} (E : EnvAt c G H ρ σ fps) {i : Nat} (hi : i < ρ.length) : ∀ a ∈ fps i, ∃ u, H a = some u ∧ ¬ Fix u :=
  (E.ok i ρ[i] (List.getElem?_eq_getElem hi)).there
theorem EnvAt.noS {c : Zc} {G H : Hp} {ρ : En} {σ : St} {fps : Nat → List Addr} (E : EnvAt c G H ρ σ fps) {i : Nat} (hi : i < ρ.length) : NoS c (fps i) :=
  (E.ok i ρ[i] (List.getElem?_eq_getElem hi)).noS
/-! ### judgements -/
/-- the addresses come out of new objects, or out of the slots U -/
def From (H : Hp) (fps : Nat → List Addr) (n : Nat) (U : List Nat) (fp : List Addr) : Prop := (∀ a ∈ fp, H a = none ∨ ∃ u ∈ U, u < n ∧ a ∈ fps u) ∧ (U = [] → fp.Nodup)
abbrev DM := En → (D → Prop) → Prop
/-- the reading te gives a datum as m says -/
def DE (K : PySem.W.Frag) (S : Option (Addr × Addr)) (te : TE) (m : DM) (U : List Nat) : Prop :=
  ∀ (G H : Hp) (ρ : En) (σ : L2.St) (fps : Nat → List Addr), EnvAt ⟨K, S⟩ G H ρ σ fps → ∀ R : D → Prop, m ρ R → ∀ Q : VK,
    (∀ d v H' fp, R d → Ext ⟨K, S⟩ H H' → SrcAt ⟨K, S⟩ H' → Rp ⟨K, S⟩ H' d v fp → NoS ⟨K, S⟩ fp → From H fps ρ.length U fp → Q v H') → te σ H Q
abbrev DMs := En → (List D → Prop) → Prop
def DA (K : PySem.W.Frag) (S : Option (Addr × Addr)) (ta : TA) (m : DMs) (U : List Nat) : Prop :=
  ∀ (G H : Hp) (ρ : En) (σ : L2.St) (fps : Nat → List Addr), EnvAt ⟨K, S⟩ G H ρ σ fps → ∀ R : List D → Prop, m ρ R → ∀ Q : List V → Hp → Prop,
    (∀ ds vs H' fp, R ds → Ext ⟨K, S⟩ H H' → SrcAt ⟨K, S⟩ H' → Rps ⟨K, S⟩ H' ds vs fp → NoS ⟨K, S⟩ fp → From H fps ρ.length U fp → Q vs H') → ta σ H Q
abbrev DMt := En → (Bool → Prop) → Prop
def DT (K : PySem.W.Frag) (S : Option (Addr × Addr)) (tt : TT) (m : DMt) : Prop :=
  ∀ (G H : Hp) (ρ : En) (σ : L2.St) (fps : Nat → List Addr), EnvAt ⟨K, S⟩ G H ρ σ fps → ∀ R : Bool → Prop, m ρ R → ∀ Q : Bool → Hp → Prop,
    (∀ b H', R b → Ext ⟨K, S⟩ H H' → SrcAt ⟨K, S⟩ H' → Q b H') → tt σ H Q
structure DEnds where
  nx : En → Prop
  rt : D → Prop
  bk : En → Prop := fun _ => False
  ct : En → Prop := fun _ => False
/-- all slots but those of W as they were -/
structure Off (W : List Nat) (σ σ' : L2.St) : Prop where
  len : σ'.length = σ.length
  off : ∀ j, j ∉ W → σ'[j]? = σ[j]?
structure EndsOk (K : PySem.W.Frag) (S : Option (Addr × Addr)) (G : Hp) (W : List Nat) (σ : L2.St) (R : DEnds) (D : Ends) : Prop where
  nx : ∀ ρ' σ' H' fps', R.nx ρ' → EnvAt ⟨K, S⟩ G H' ρ' σ' fps' → Off W σ σ' → D.nx σ' H'
  bk : ∀ ρ' σ' H' fps', R.bk ρ' → EnvAt ⟨K, S⟩ G H' ρ' σ' fps' → Off W σ σ' → D.bk σ' H'
  ct : ∀ ρ' σ' H' fps', R.ct ρ' → EnvAt ⟨K, S⟩ G H' ρ' σ' fps' → Off W σ σ' → D.ct σ' H'
  rt : ∀ d v H' fp, R.rt d → Ext ⟨K, S⟩ G H' → SrcAt ⟨K, S⟩ H' → Rp ⟨K, S⟩ H' d v fp → NoS ⟨K, S⟩ fp → fp.Nodup → (∀ a ∈ fp, G a = none) → D.rt v H'
abbrev DMS := En → DEnds → Prop
/-- the statement's reading, as m says; W: the slots that it stores or whose objects it changes -/
def DS (K : PySem.W.Frag) (S : Option (Addr × Addr)) (ts : TS) (m : DMS) (W : List Nat) : Prop :=
  ∀ (G H : Hp) (ρ : En) (σ : L2.St) (fps : Nat → List Addr), EnvAt ⟨K, S⟩ G H ρ σ fps → ∀ R : DEnds, m ρ R → ∀ D : Ends, EndsOk K S G W σ R D → ts D σ H
end Z
set_option Elab.async false
set_option linter.all false
set_option maxRecDepth 100000
set_option maxHeartbeats 2000000
/-! Z1: expressions, arguments, tests. -/
namespace Z
open PySem L2
section
variable {K : PySem.W.Frag} {S : Option (Addr × Addr)} {fps : Nat → List Addr} {n : Nat}
/-! ### where addresses come from -/
theorem From.nil {H : Hp} {U : List Nat} : From H fps n U [] := ⟨fun a h => (by cases h), fun _ => List.nodup_nil⟩
theorem From.fresh {H : Hp} {U : List Nat} {fp : List Addr} (h : ∀ a ∈ fp, H a = none) (d : fp.Nodup) : From H fps n U fp := ⟨fun a ha => .inl (h a ha), fun _ => d⟩
theorem From.new {H : Hp} {U : List Nat} {a : Addr} (h : H a = none) : From H fps n U [a] := .fresh (fun b hb => by rw [List.mem_singleton.mp hb]; exact h) (List.pairwise_singleton _ _)
theorem From.back {c : Zc} {H H1 : Hp} {U : List Nat} {fp : List Addr} (f : From H1 fps n U fp) (e : Ext c H H1) (ns : NoS c fp) : From H fps n U fp :=
  ⟨fun a ha => (f.1 a ha).imp (fun z => e.free z (ns a ha)) id, f.2⟩
theorem From.sub {H : Hp} {U V : List Nat} {fp : List Addr} (f : From H fps n U fp) (h : ∀ u ∈ U, u ∈ V) (hne : V = [] → U = []) : From H fps n V fp :=
  ⟨fun a ha => (f.1 a ha).imp id fun ⟨u, hu, e⟩ => ⟨u, h u hu, e⟩, fun z => f.2 (hne z)⟩
theorem From.part {H : Hp} {U : List Nat} {fp gp : List Addr} (f : From H fps n U fp) (h : ∀ a ∈ gp, a ∈ fp) (hn : fp.Nodup → gp.Nodup) : From H fps n U gp :=
  ⟨fun a ha => f.1 a (h a ha), fun z => hn (f.2 z)⟩
theorem From.off {H : Hp} {fp : List Addr} (f : From H fps n [] fp) : ∀ a ∈ fp, H a = none := fun a ha => by
  rcases f.1 a ha with z | ⟨u, hu, _⟩
  · exact z
  · cases hu
/-- one after the other -/
theorem From.app {c : Zc} {H H1 : Hp} {U V : List Nat} {fp gp : List Addr} (f : From H fps n U fp) (g : From H1 fps n V gp) (e : Ext c H H1) (ns : NoS c gp) (th : ∀ a ∈ fp, ∃ o, H1 a = some o) : From H fps n (U ++ V) (fp ++ gp) := by
  have g' := g.back e ns
  refine ⟨fun a ha => ?_, fun z => ?_⟩
  · rcases List.mem_append.mp ha with ha | ha
    · exact (f.1 a ha).imp id fun ⟨u, hu, q⟩ => ⟨u, List.mem_append_left _ hu, q⟩
    · exact (g'.1 a ha).imp id fun ⟨u, hu, q⟩ => ⟨u, List.mem_append_right _ hu, q⟩
  · obtain ⟨z1, z2⟩ := List.append_eq_nil_iff.mp z
    subst z1 z2
    refine List.nodup_append.mpr ⟨f.2 rfl, g.2 rfl, fun a ha b hb q => ?_⟩
    subst q
    obtain ⟨o, ho⟩ := th a ha
    rw [g.off a hb] at ho
    cases ho
theorem NoS.app {c : Zc} {fp gp : List Addr} (h : NoS c fp) (k : NoS c gp) : NoS c (fp ++ gp) := fun a ha => (List.mem_append.mp ha).elim (h a) (k a)
theorem NoS.nil {c : Zc} : NoS c [] := fun a h => by cases h
/-! ### names, constants -/
def look (s : Option Sl) (R : D → Prop) : Prop := match s with
  | some (.val d) => R d
  | some (.own d) => R d
  | _ => False
def dVar (i : Nat) : DM := fun ρ R => look ρ[i]? R
theorem de_var (i : Nat) : DE K S (tVar i) (dVar i) [i] := fun G H ρ σ fps E R hm Q q => by
  unfold dVar look at hm
  have key : ∀ d sl, ρ[i]? = some sl → (sl = .val d ∨ sl = .own d) → R d → tVar i σ H Q := fun d sl e hs hR => by
    have hi : i < ρ.length := (List.getElem?_eq_some_iff.mp e).1
    have ok := E.ok i sl e
    have th := E.thereAt hi
    rcases hs with rfl | rfl
    · obtain ⟨v, e1, h1, h2⟩ := ok
      exact ⟨v, e1, q d v H _ hR (Ext.refl _ _) E.src h1 h2 ⟨fun a ha => .inr ⟨i, List.mem_singleton.mpr rfl, hi, ha⟩, fun z => by cases z⟩⟩
    · obtain ⟨v, e1, h1, h2, _⟩ := ok
      exact ⟨v, e1, q d v H _ hR (Ext.refl _ _) E.src h1 h2 ⟨fun a ha => .inr ⟨i, List.mem_singleton.mpr rfl, hi, ha⟩, fun z => by cases z⟩⟩
  split at hm
  · rename_i d e; exact key d _ e (.inl rfl) hm
  · rename_i d e; exact key d _ e (.inr rfl) hm
  · exact hm.elim
def dC (d : D) : DM := fun _ R => R d
theorem de_c {d : D} {v : V} (h : ∀ H : Hp, Rp ⟨K, S⟩ H d v []) : DE K S (tC v) (dC d) [] := fun G H ρ σ fps E R hm Q q => q d v H [] hm (Ext.refl _ _) E.src (h H) .nil .nil
theorem de_int {i : Int} : DE K S (tC (.int i)) (dC (.int i)) [] := de_c fun H => by simp [Rp]
theorem de_bl {b : Bool} : DE K S (tC (.bl b)) (dC (.bool b)) [] := de_c fun H => by simp [Rp]
/-- nothing in it can change -/
def dSolid (m : DM) : DM := fun ρ R => m ρ fun d => solid d = true ∧ R d
theorem de_solid {te : TE} {m : DM} {U : List Nat} (h : DE K S te m U) : DE K S te (dSolid m) [] := fun G H ρ σ fps E R hm Q q =>
  h G H ρ σ fps E _ hm Q fun d v H' fp hR e s r ns f => by
    have z := r.solid _ _ _ hR.1
    subst z
    exact q d v H' [] hR.2 e s r ns .nil
theorem DE.up {te : TE} {m : DM} {U V : List Nat} (h : DE K S te m U) (hs : ∀ u ∈ U, u ∈ V) (hne : V = [] → U = []) : DE K S te m V := fun G H ρ σ fps E R hm Q q =>
  h G H ρ σ fps E R hm Q fun d v H' fp hR e s r ns f => q d v H' fp hR e s r ns (f.sub hs hne)
/-! ### argument lists -/
def dNil : DMs := fun _ R => R []
def dCons (m : DM) (ms : DMs) : DMs := fun ρ R => m ρ fun d => ms ρ fun ds => R (d :: ds)
theorem da_nil : DA K S tNil dNil [] := fun G H ρ σ fps E R hm Q q => q [] [] H [] hm (Ext.refl _ _) E.src .nil .nil .nil
theorem da_cons {te : TE} {t : TA} {m : DM} {ms : DMs} {U V : List Nat} (h1 : DE K S te m U) (h2 : DA K S t ms V) : DA K S (tCons te t) (dCons m ms) (U ++ V) := fun G H ρ σ fps E R hm Q q =>
  h1 G H ρ σ fps E _ hm _ fun d v H1 fp hR e1 s1 r1 n1 f1 =>
    h2 G H1 ρ σ fps (E.step e1 s1) _ hR _ fun ds vs H2 gp hR2 e2 s2 r2 n2 f2 =>
      q (d :: ds) (v :: vs) H2 (fp ++ gp) hR2 (e1.trans e2) s2 (.cons (r1.ext n1 e2 s1) r2) (n1.app n2) (f1.app f2 e1 n2 fun a ha => let ⟨o, ho, _⟩ := r1.there _ _ _ a ha; ⟨o, ho⟩)
/-! ### operations on values -/
/-- of two data, a new datum -/
def OpD (K : PySem.W.Frag) (S : Option (Addr × Addr)) (r : R2) (f : D → D → (D → Prop) → Prop) : Prop :=
  ∀ (H : Hp) (x y : V) (d e : D) (f1 f2 : List Addr), SrcAt ⟨K, S⟩ H → Rp ⟨K, S⟩ H d x f1 → NoS ⟨K, S⟩ f1 → Rp ⟨K, S⟩ H e y f2 → NoS ⟨K, S⟩ f2 → ∀ R, f d e R → ∀ Q : VK,
    (∀ z v H' fp, R z → Ext ⟨K, S⟩ H H' → SrcAt ⟨K, S⟩ H' → Rp ⟨K, S⟩ H' z v fp → NoS ⟨K, S⟩ fp → fp.Nodup → (∀ a ∈ fp, H a = none) → Q v H') → r x y H Q
/-- of a list of data, a new datum -/
def CallD (K : PySem.W.Frag) (S : Option (Addr × Addr)) (r : List V → Hp → VK → Prop) (f : List D → (D → Prop) → Prop) : Prop :=
  ∀ (H : Hp) (xs : List V) (ds : List D) (fp0 : List Addr), SrcAt ⟨K, S⟩ H → Rps ⟨K, S⟩ H ds xs fp0 → NoS ⟨K, S⟩ fp0 → ∀ R, f ds R → ∀ Q : VK,
    (∀ z v H' fp, R z → Ext ⟨K, S⟩ H H' → SrcAt ⟨K, S⟩ H' → Rp ⟨K, S⟩ H' z v fp → NoS ⟨K, S⟩ fp → fp.Nodup → (∀ a ∈ fp, H a = none) → Q v H') → r xs H Q
def UnD (K : PySem.W.Frag) (S : Option (Addr × Addr)) (r : V → Hp → VK → Prop) (f : D → (D → Prop) → Prop) : Prop :=
  ∀ (H : Hp) (x : V) (d : D) (fp0 : List Addr), SrcAt ⟨K, S⟩ H → Rp ⟨K, S⟩ H d x fp0 → NoS ⟨K, S⟩ fp0 → ∀ R, f d R → ∀ Q : VK,
    (∀ z v H' fp, R z → Ext ⟨K, S⟩ H H' → SrcAt ⟨K, S⟩ H' → Rp ⟨K, S⟩ H' z v fp → NoS ⟨K, S⟩ fp → fp.Nodup → (∀ a ∈ fp, H a = none) → Q v H') → r x H Q
/-- .. whose lists are the first operand's -/
def OpA (K : PySem.W.Frag) (S : Option (Addr × Addr)) (r : R2) (f : D → D → (D → Prop) → Prop) : Prop :=
  ∀ (H : Hp) (x y : V) (d e : D) (f1 f2 : List Addr), SrcAt ⟨K, S⟩ H → Rp ⟨K, S⟩ H d x f1 → NoS ⟨K, S⟩ f1 → Rp ⟨K, S⟩ H e y f2 → NoS ⟨K, S⟩ f2 → ∀ R, f d e R → ∀ Q : VK,
    (∀ z v fp, R z → Rp ⟨K, S⟩ H z v fp → (∀ a ∈ fp, a ∈ f1) → (f1.Nodup → fp.Nodup) → Q v H) → r x y H Q
def dBin (f : D → D → (D → Prop) → Prop) (ma mb : DM) : DM := fun ρ R => ma ρ fun x => mb ρ fun y => f x y R
def dUn (f : D → (D → Prop) → Prop) (ma : DM) : DM := fun ρ R => ma ρ fun x => f x R
/-- a mark whose type names R: simp leaves R as it is -/
inductive Hold {α : Type} (R : α) : Type
  | mk : Hold R
/-- what is made of an answer, held back until the answer's form is known -/
def kont (R : D → Prop) (_ : Hold R) : D → Prop := R
section
variable {R : D → Prop} {t : Hold R}
theorem kont_none : kont R t .none = R .none := rfl
theorem kont_bool {b : Bool} : kont R t (.bool b) = R (.bool b) := rfl
theorem kont_int {i : Int} : kont R t (.int i) = R (.int i) := rfl
theorem kont_str {x : Str} : kont R t (.str x) = R (.str x) := rfl
theorem kont_list {xs : List D} : kont R t (.list xs) = R (.list xs) := rfl
theorem kont_tuple {xs : List D} : kont R t (.tuple xs) = R (.tuple xs) := rfl
end
def dCall (f : List D → (D → Prop) → Prop) (ms : DMs) : DM := fun ρ R => ms ρ fun ds => f ds R
theorem de_op {r : R2} {f : D → D → (D → Prop) → Prop} {ta tb : TE} {ma mb : DM} {U V : List Nat} (h : OpD K S r f) (h1 : DE K S ta ma U) (h2 : DE K S tb mb V) : DE K S (tOp r ta tb) (dBin f ma mb) [] := fun G H ρ σ fps E R hm Q q =>
  h1 G H ρ σ fps E _ hm _ fun d v H1 fp hR e1 s1 r1 n1 f1 =>
    h2 G H1 ρ σ fps (E.step e1 s1) _ hR _ fun e w H2 gp hR2 e2 s2 r2 n2 f2 =>
      h H2 v w d e fp gp s2 (r1.ext n1 e2 s1) n1 r2 n2 _ hR2 _ fun z u H3 kp hz e3 s3 r3 n3 nd fr =>
        q z u H3 kp hz ((e1.trans e2).trans e3) s3 r3 n3 (.fresh (fun a ha => (e1.trans e2).free (fr a ha) (n3 a ha)) nd)
theorem de_opA {r : R2} {f : D → D → (D → Prop) → Prop} {ta tb : TE} {ma mb : DM} {U V : List Nat} (h : OpA K S r f) (h1 : DE K S ta ma U) (h2 : DE K S tb mb V) : DE K S (tOp r ta tb) (dBin f ma mb) U := fun G H ρ σ fps E R hm Q q =>
  h1 G H ρ σ fps E _ hm _ fun d v H1 fp hR e1 s1 r1 n1 f1 =>
    h2 G H1 ρ σ fps (E.step e1 s1) _ hR _ fun e w H2 gp hR2 e2 s2 r2 n2 f2 =>
      h H2 v w d e fp gp s2 (r1.ext n1 e2 s1) n1 r2 n2 _ hR2 _ fun z u kp hz r3 sub nd =>
        q z u H2 kp hz (e1.trans e2) s2 r3 (fun a ha => n1 a (sub a ha)) (f1.part sub nd)
theorem de_un {r : V → Hp → VK → Prop} {f : D → (D → Prop) → Prop} {ta : TE} {ma : DM} {U : List Nat} (h : UnD K S r f) (h1 : DE K S ta ma U) : DE K S (tUn r ta) (dUn f ma) [] := fun G H ρ σ fps E R hm Q q =>
  h1 G H ρ σ fps E _ hm _ fun d v H1 fp hR e1 s1 r1 n1 f1 =>
    h H1 v d fp s1 r1 n1 _ hR _ fun z u H3 kp hz e3 s3 r3 n3 nd fr =>
      q z u H3 kp hz (e1.trans e3) s3 r3 n3 (.fresh (fun a ha => e1.free (fr a ha) (n3 a ha)) nd)
theorem de_cb {r : List V → Hp → VK → Prop} {f : List D → (D → Prop) → Prop} {t : TA} {ms : DMs} {U : List Nat} (h : CallD K S r f) (h1 : DA K S t ms U) : DE K S (tCB r t) (dCall f ms) [] := fun G H ρ σ fps E R hm Q q =>
  h1 G H ρ σ fps E _ hm _ fun d v H1 fp hR e1 s1 r1 n1 f1 =>
    h H1 v d fp s1 r1 n1 _ hR _ fun z u H3 kp hz e3 s3 r3 n3 nd fr =>
      q z u H3 kp hz (e1.trans e3) s3 r3 n3 (.fresh (fun a ha => e1.free (fr a ha) (n3 a ha)) nd)
/-- answers without objects -/
theorem OpD.pure {r : R2} {f : D → D → (D → Prop) → Prop} (h : ∀ (H : Hp) (x y : V) (d e : D) (f1 f2 : List Addr), Rp ⟨K, S⟩ H d x f1 → Rp ⟨K, S⟩ H e y f2 → ∀ R, f d e R → ∀ Q : VK, (∀ z v, R z → (∀ H, Rp ⟨K, S⟩ H z v []) → Q v H) → r x y H Q) : OpD K S r f :=
  fun H x y d e f1 f2 s r1 n1 r2 n2 R hf Q q => h H x y d e f1 f2 r1 r2 R hf Q fun z v hz rz => q z v H [] hz (Ext.refl _ _) s (rz H) .nil List.nodup_nil fun a ha => by cases ha
theorem CallD.pure {r : List V → Hp → VK → Prop} {f : List D → (D → Prop) → Prop} (h : ∀ (H : Hp) (xs : List V) (ds : List D) (fp : List Addr), Rps ⟨K, S⟩ H ds xs fp → ∀ R, f ds R → ∀ Q : VK, (∀ z v, R z → (∀ H, Rp ⟨K, S⟩ H z v []) → Q v H) → r xs H Q) : CallD K S r f :=
  fun H xs ds fp s r1 n1 R hf Q q => h H xs ds fp r1 R hf Q fun z v hz rz => q z v H [] hz (Ext.refl _ _) s (rz H) .nil List.nodup_nil fun a ha => by cases ha
theorem UnD.pure {r : V → Hp → VK → Prop} {f : D → (D → Prop) → Prop} (h : ∀ (H : Hp) (x : V) (d : D) (fp : List Addr), Rp ⟨K, S⟩ H d x fp → ∀ R, f d R → ∀ Q : VK, (∀ z v, R z → (∀ H, Rp ⟨K, S⟩ H z v []) → Q v H) → r x H Q) : UnD K S r f :=
  fun H x d fp s r1 n1 R hf Q q => h H x d fp r1 R hf Q fun z v hz rz => q z v H [] hz (Ext.refl _ _) s (rz H) .nil List.nodup_nil fun a ha => by cases ha
/-! ### ints -/
def asI (d : D) (k : Int → Prop) : Prop := match d with
  | .int i => k i
  | _ => False
theorem asI_ok {d : D} {k : Int → Prop} (h : asI d k) : ∃ i, d = .int i ∧ k i := by
  unfold asI at h
  split at h
  · exact ⟨_, rfl, h⟩
  · exact h.elim
theorem rp_int {c : Zc} {H : Hp} {i : Int} {v : V} {fp : List Addr} (h : Rp c H (.int i) v fp) : v = .int i := by simp only [Rp] at h; exact h.1
theorem int_rp {c : Zc} {i : Int} (H : Hp) : Rp c H (.int i) (.int i) [] := by simp [Rp]
theorem bl_rp {c : Zc} {b : Bool} (H : Hp) : Rp c H (.bool b) (.bl b) [] := by simp [Rp]
theorem str_rp {c : Zc} {x : Str} (H : Hp) : Rp c H (.str x) (.str x) [] := by simp [Rp]
theorem non_rp {c : Zc} (H : Hp) : Rp c H .none .non [] := by simp [Rp]
def f2I (g : Int → Int → D) : D → D → (D → Prop) → Prop := fun x y R => asI x fun i => asI y fun j => R (g i j)
def f2IC (C : Int → Int → Prop) (g : Int → Int → D) : D → D → (D → Prop) → Prop := fun x y R => asI x fun i => asI y fun j => C i j ∧ R (g i j)
theorem od_I0 {g : Int → Int → Int} : OpD K S (rI0 fun i j => .int (g i j)) (f2I fun i j => .int (g i j)) := .pure fun H x y d e f1 f2 r1 r2 R hf Q q => by
  obtain ⟨i, rfl, h1⟩ := asI_ok hf
  obtain ⟨j, rfl, h2⟩ := asI_ok h1
  exact ⟨i, j, rp_int r1, rp_int r2, q _ _ h2 int_rp⟩
theorem od_B0 {g : Int → Int → Bool} : OpD K S (rI0 fun i j => .bl (g i j)) (f2I fun i j => .bool (g i j)) := .pure fun H x y d e f1 f2 r1 r2 R hf Q q => by
  obtain ⟨i, rfl, h1⟩ := asI_ok hf
  obtain ⟨j, rfl, h2⟩ := asI_ok h1
  exact ⟨i, j, rp_int r1, rp_int r2, q _ _ h2 bl_rp⟩
theorem od_IC {C : Int → Int → Prop} {g : Int → Int → Int} : OpD K S (rI C fun i j => .int (g i j)) (f2IC C fun i j => .int (g i j)) := .pure fun H x y d e f1 f2 r1 r2 R hf Q q => by
  obtain ⟨i, rfl, h1⟩ := asI_ok hf
  obtain ⟨j, rfl, hc, h2⟩ := asI_ok h1
  exact ⟨i, j, rp_int r1, rp_int r2, hc, q _ _ h2 int_rp⟩
def f1I (g : Int → D) : D → (D → Prop) → Prop := fun x R => asI x fun i => R (g i)
theorem ud_I {g : Int → Int} : UnD K S (rU fun i => .int (g i)) (f1I fun i => .int (g i)) := .pure fun H x d fp r1 R hf Q q => by
  obtain ⟨i, rfl, hf⟩ := asI_ok hf
  exact ⟨i, rp_int r1, q _ _ hf int_rp⟩
/-! ### tests -/
def asB (d : D) (k : Bool → Prop) : Prop := match d with
  | .bool b => k b
  | _ => False
theorem asB_ok {d : D} {k : Bool → Prop} (h : asB d k) : ∃ i, d = .bool i ∧ k i := by
  unfold asB at h
  split at h
  · exact ⟨_, rfl, h⟩
  · exact h.elim
theorem rp_bl {c : Zc} {H : Hp} {i : Bool} {v : V} {fp : List Addr} (h : Rp c H (.bool i) v fp) : v = .bl i := by simp only [Rp] at h; exact h.1
def dTest (m : DM) : DMt := fun ρ R => m ρ fun d => asB d R
theorem dt_val {te : TE} {m : DM} {U : List Nat} (h : DE K S te m U) : DT K S (tTest te) (dTest m) := fun G H ρ σ fps E R hm Q q =>
  h G H ρ σ fps E _ hm _ fun d v H' fp hR e s r ns f => by
    obtain ⟨b, rfl, hb⟩ := asB_ok hR
    exact ⟨b, rp_bl r, q b H' hb e s⟩
def dAnd (m1 m2 : DMt) : DMt := fun ρ R => m1 ρ fun b => cond b (m2 ρ R) (R false)
def dOr (m1 m2 : DMt) : DMt := fun ρ R => m1 ρ fun b => cond b (R true) (m2 ρ R)
def dNot (m : DMt) : DMt := fun ρ R => m ρ fun b => R (!b)
theorem dt_and {t u : TT} {m1 m2 : DMt} (h1 : DT K S t m1) (h2 : DT K S u m2) : DT K S (tAnd t u) (dAnd m1 m2) := fun G H ρ σ fps E R hm Q q =>
  h1 G H ρ σ fps E _ hm _ fun b H1 hR e1 s1 => by
    cases b with
    | true => exact iteT (h2 G H1 ρ σ fps (E.step e1 s1) R hR Q fun b H' hb e s => q b H' hb (e1.trans e) s)
    | false => exact iteF (q false H1 hR e1 s1)
theorem dt_or {t u : TT} {m1 m2 : DMt} (h1 : DT K S t m1) (h2 : DT K S u m2) : DT K S (tOr t u) (dOr m1 m2) := fun G H ρ σ fps E R hm Q q =>
  h1 G H ρ σ fps E _ hm _ fun b H1 hR e1 s1 => by
    cases b with
    | false => exact iteF (h2 G H1 ρ σ fps (E.step e1 s1) R hR Q fun b H' hb e s => q b H' hb (e1.trans e) s)
    | true => exact iteT (q true H1 hR e1 s1)
def dYes : DMt := fun _ R => R true
theorem dt_yes : DT K S tYes dYes := fun G H ρ σ fps E R hm Q q => q true H hm (Ext.refl _ _) E.src
/-- and, or, not as values -/
def dAndV (m1 m2 : DM) : DM := fun ρ R => m1 ρ fun d => asB d fun b => cond b (m2 ρ R) (R (.bool false))
def dOrV (m1 m2 : DM) : DM := fun ρ R => m1 ρ fun d => asB d fun b => cond b (R (.bool true)) (m2 ρ R)
def dNotV (m : DM) : DM := fun ρ R => m ρ fun d => asB d fun b => R (.bool (!b))
theorem de_andV {ta tb : TE} {ma mb : DM} {U V : List Nat} (h1 : DE K S ta ma U) (h2 : DE K S tb mb V) : DE K S (tAndV ta tb) (dAndV ma mb) V := fun G H ρ σ fps E R hm Q q =>
  h1 G H ρ σ fps E _ hm _ fun d v H1 fp hR e1 s1 r1 n1 f1 => by
    obtain ⟨b, rfl, hb⟩ := asB_ok hR
    refine ⟨b, rp_bl r1, ?_⟩
    cases b with
    | true => exact iteT (h2 G H1 ρ σ fps (E.step e1 s1) R hb Q fun d v H' fp hd e s r ns f => q d v H' fp hd (e1.trans e) s r ns (f.back e1 ns))
    | false => exact iteF (q _ _ H1 [] hb e1 s1 (bl_rp H1) .nil .nil)
def dIf (c : DMt) (m1 m2 : DM) : DM := fun ρ R => c ρ fun b => cond b (m1 ρ R) (m2 ρ R)
theorem de_if {t : TT} {ta tb : TE} {mc : DMt} {ma mb : DM} {U V : List Nat} (hc : DT K S t mc) (h1 : DE K S ta ma U) (h2 : DE K S tb mb V) : DE K S (tIf t ta tb) (dIf mc ma mb) (U ++ V) := fun G H ρ σ fps E R hm Q q =>
  hc G H ρ σ fps E _ hm _ fun b H1 hR e1 s1 => by
    cases b with
    | true => exact iteT (h1 G H1 ρ σ fps (E.step e1 s1) R hR Q fun d v H' fp hd e s r ns f => q d v H' fp hd (e1.trans e) s r ns ((f.back e1 ns).sub (fun u hu => List.mem_append_left _ hu) fun z => (List.append_eq_nil_iff.mp z).1))
    | false => exact iteF (h2 G H1 ρ σ fps (E.step e1 s1) R hR Q fun d v H' fp hd e s r ns f => q d v H' fp hd (e1.trans e) s r ns ((f.back e1 ns).sub (fun u hu => List.mem_append_right _ hu) fun z => (List.append_eq_nil_iff.mp z).2))
/-! ### displays -/
theorem lim_ok {n : Nat} (h : n ≤ 10000000) : n ≤ sizeLine := Nat.le_trans h (by rw [sizeLine_eq]; decide)
/-- a tuple's display: a known object -/
def tTupF (t : TA) : TE := fun σ H Q => t σ H fun xs H1 => xs.length ≤ sizeLine ∧ ∀ p o, H1 p = none → o.dict = none → Q (.ref p) (upd H1 p (.frz o (.tup xs)))
theorem pe_tupF {X : Cx} {es : List Expr} {t : TA} {pos : Pos} {x1 : Nat} (h : PA X es t) : PE X (.Tuple es x1 pos) (tTupF t) := ⟨fun pins s σ H Q I hq =>
  wpAny_Tuple_spliced (thn (h.run pos pins s σ H _ I hq) fun us s1 w => by
    obtain ⟨xs, H1, I1, r, z, q⟩ := w
    have e := Heap.get?_push_size s1.heap (o := { cls := .type "tuple", data := .seq us.toArray }) rfl
    refine ⟨by rw [← r.length]; exact z, .ref s1.heap.objs.size, _, I1.laid (t' := s1.toks) (o := .frz { cls := .type "tuple", data := .seq us.toArray } (.tup xs)) (fun b u k => Heap.get?_push_of_some _ k) (Nat.le_refl _) ⟨e, z, us, r, ⟨_, e, rfl, _, rfl⟩⟩, rfl, q _ _ (I1.hok.fresh (Nat.le_refl _)) rfl⟩)⟩
def dTup (ms : DMs) : DM := fun ρ R => ms ρ fun ds => ds.length ≤ 10000000 ∧ R (.tuple ds)
theorem de_tup {t : TA} {ms : DMs} {U : List Nat} (h : DA K S t ms U) : DE K S (tTupF t) (dTup ms) U := fun G H ρ σ fps E R hm Q q =>
  h G H ρ σ fps E _ hm _ fun ds vs H1 fp hR e1 s1 r1 n1 f1 => ⟨by rw [r1.len]; exact lim_ok hR.1, fun p o hp ho => by
    have e2 : Ext ⟨K, S⟩ H1 (upd H1 p (.frz o (.tup vs))) := Ext.new hp
    refine q (.tuple ds) (.ref p) _ fp hR.2 (e1.trans e2) (s1.new hp) ?_ n1 f1
    simp only [Rp]
    exact ⟨p, vs, rfl, .new ho, r1.ext n1 e2 s1⟩⟩
def dLst (ms : DMs) : DM := fun ρ R => ms ρ fun ds => ds.length ≤ 10000000 ∧ R (.list ds)
theorem de_lst {t : TA} {ms : DMs} {U : List Nat} (h : DA K S t ms U) : DE K S (tLst t) (dLst ms) U := fun G H ρ σ fps E R hm Q q =>
  h G H ρ σ fps E _ hm _ fun ds vs H1 fp hR e1 s1 r1 n1 f1 => ⟨by rw [r1.len]; exact lim_ok hR.1, fun p hp => by
    have e2 : Ext ⟨K, S⟩ H1 (upd H1 p (.lst vs)) := Ext.new hp
    have hpn := s1.fresh hp
    refine q (.list ds) (.ref p) _ (p :: fp) hR.2 (e1.trans e2) (s1.new hp) ?_ ?_ ⟨fun a ha => ?_, fun z => ?_⟩
    · simp only [Rp]
      exact ⟨p, vs, fp, rfl, rfl, upd_same, r1.ext n1 e2 s1⟩
    · intro a ha
      rcases List.mem_cons.mp ha with rfl | ha
      · exact hpn
      · exact n1 a ha
    · rcases List.mem_cons.mp ha with rfl | ha
      · exact .inl (e1.free hp hpn)
      · exact f1.1 a ha
    · refine List.nodup_cons.mpr ⟨fun hm => ?_, f1.2 z⟩
      obtain ⟨o, ho, _⟩ := r1.there _ _ _ p hm
      rw [hp] at ho
      cases ho⟩
end
end Z
set_option Elab.async false
set_option linter.all false
set_option maxRecDepth 100000
set_option maxHeartbeats 2000000
/-! Z2: what is walked; targets; comprehensions. -/
namespace Z
open PySem L2
section
variable {K : PySem.W.Frag} {S : Option (Addr × Addr)}
/-! ### what is walked -/
/-- a value that stands for a datum; w: a tuple whose object may have a dict, too -/
def RpW (w : Bool) (c : Zc) (H : Hp) (d : D) (v : V) (fp : List Addr) : Prop := Rp c H d v fp ∨ (w = true ∧ ∃ ds a xs, d = .tuple ds ∧ v = .ref a ∧ SqT c.K H a xs ∧ Rps c H ds xs fp)
theorem RpW.strong {c : Zc} {H : Hp} {d : D} {v : V} {fp : List Addr} (h : RpW false c H d v fp) : Rp c H d v fp := h.resolve_right fun z => by cases z.1
theorem RpW.tup {w : Bool} {c : Zc} {H : Hp} {ds : List D} {v : V} {fp : List Addr} (h : RpW w c H (.tuple ds) v fp) : ∃ a xs, v = .ref a ∧ SqT c.K H a xs ∧ Rps c H ds xs fp := by
  rcases h with h | ⟨_, es, a, xs, e, h1, h2, h3⟩
  · simp only [Rp] at h
    obtain ⟨a, xs, h1, h2, h3⟩ := h
    exact ⟨a, xs, h1, h2.t, h3⟩
  · cases e
    exact ⟨a, xs, h1, h2, h3⟩
/-- J gives ds, one by one, while the objects at FP stay -/
def IterOk (w : Bool) (c : Zc) (J : It) (H1 : Hp) (ds : List D) (FP : List Addr) : Prop :=
  Walk J ds.length (fun H' => Tk H1 H' ∧ (∀ a ∈ FP, H' a = H1 a) ∧ SrcAt c H') (fun i H' x H'' => Ext c H' H'' ∧ SrcAt c H'' ∧ ∃ d fp, ds[i]? = some d ∧ RpW w c H'' d x fp ∧ ∀ a ∈ fp, a ∈ FP)
def DI (w : Bool) (K : PySem.W.Frag) (S : Option (Addr × Addr)) (wi : TI) (m : DMs) (U : List Nat) : Prop :=
  ∀ (G H : Hp) (ρ : En) (σ : L2.St) (fps : Nat → List Addr), EnvAt ⟨K, S⟩ G H ρ σ fps → ∀ R : List D → Prop, m ρ R → ∀ Q : It → Hp → Prop,
    (∀ ds J H1 FP, R ds → Ext ⟨K, S⟩ H H1 → SrcAt ⟨K, S⟩ H1 → IterOk w ⟨K, S⟩ J H1 ds FP → NoS ⟨K, S⟩ FP → (∀ a ∈ FP, ∃ o, H1 a = some o) → From H fps ρ.length U FP → Q J H1) → wi σ H Q
theorem Rps.atV {c : Zc} {H : Hp} : ∀ {ds : List D} {xs : List V} {fp : List Addr} {i : Nat} {x : V}, Rps c H ds xs fp → xs[i]? = some x → ∃ d gp, ds[i]? = some d ∧ Rp c H d x gp ∧ (∀ a ∈ gp, a ∈ fp)
  | [], xs, fp, i, x, h, e => by
    simp only [Rps] at h
    rw [h.1] at e
    simp at e
  | d :: ds, xs, fp, i, x, h, e => by
    have hl := h.len
    have hi : i < (d :: ds).length := by rw [← hl]; exact (List.getElem?_eq_some_iff.mp e).1
    obtain ⟨y, gp, e1, h1, h2, _⟩ := h.at (List.getElem?_eq_getElem hi)
    rw [e] at e1
    cases e1
    exact ⟨_, gp, List.getElem?_eq_getElem hi, h1, h2⟩
/-- a list, a tuple, a text: its items -/
def items : D → Option (List D)
  | .list ds => some ds
  | .tuple ds => some ds
  | .str z => some (z.cps.toList.map fun c => .str ⟨#[c]⟩)
  | _ => none
def asItems (d : D) (k : List D → Prop) : Prop := match items d with
  | some ds => k ds
  | none => False
def iSeq (K : PySem.W.Frag) (tl : TE) : TI := fun σ H R => tl σ H fun x H1 =>
  (∃ a xs, x = .ref a ∧ SqL K H1 a xs ∧ R (Itl K a) H1) ∨ (∃ a xs, x = .ref a ∧ SqT K H1 a xs ∧ R (Itt K a) H1) ∨ (∃ z, x = .str z ∧ R (Its z) H1)
theorem pi_seq {X : Cx} {tg l : Expr} {tl : TE} (hl : PE X l tl) : PI X tg l (iSeq X.K tl) := ⟨fun pins s σ H R I h => by
  refine thn (hl.run pins s σ H _ I h) fun v s1 ⟨x, H1, I1, r1, q1⟩ => ?_
  have hf : ∀ b ∈ [s1.heap.objs.size], FpOk X pins H1 b := fun b hb => by
    rw [List.mem_singleton.mp hb]
    exact I1.fpOk (Nat.le_refl _) (I1.hok.fresh (Nat.le_refl _))
  rcases q1 with ⟨a, xs, rfl, hq, q⟩ | ⟨a, xs, rfl, hq, q⟩ | ⟨z, rfl, q⟩
  · cases r1
    obtain ⟨its, rv, pl, _⟩ := I1.list hq
    exact wpAny_pyIter_list pl.isList ⟨_, [_], _, _, H1, rfl, I1.kept (t' := s1.toks) fun b o e => Heap.get?_push_of_some _ e, turn_list a _, ⟨_, Heap.get?_push_size _ rfl, rfl, rfl⟩, hf, q⟩
  · cases r1
    obtain ⟨its, rv, pl, _⟩ := I1.tuple hq
    exact wpAny_pyIter_tuple (show s1.heap.IsTuple a its.toArray from pl) ⟨_, [_], _, _, H1, rfl, I1.kept (t' := s1.toks) fun b o e => Heap.get?_push_of_some _ e, turn_tuple a _, ⟨_, Heap.get?_push_size _ rfl, rfl, rfl⟩, hf, q⟩
  · obtain ⟨t, rfl⟩ := r1
    cases hw : z.cps.all (· < 128) with
    | false => exact PySem.wpAny_pyIter_wide hw (pi_one (tk := s1.toks) I1 _ (turn_str _ z t "str_iterator" (.inr rfl)) ⟨_, Heap.get?_push_size _ rfl, rfl, rfl⟩ q)
    | true => exact PySem.wpAny_pyIter_ascii hw (pi_one (tk := s1.toks) I1 _ (turn_str _ z t "str_ascii_iterator" (.inl rfl)) ⟨_, Heap.get?_push_size _ rfl, rfl, rfl⟩ q)⟩
def dItems (m : DM) : DMs := fun ρ R => m ρ fun d => asItems d R
theorem asItems_ok {d : D} {k : List D → Prop} (h : asItems d k) : ∃ ds, items d = some ds ∧ k ds := by
  unfold asItems at h
  split at h
  · exact ⟨_, by assumption, h⟩
  · exact h.elim
theorem iter_list {c : Zc} {H1 : Hp} {a : Addr} {xs : List V} {ds : List D} {gp FP : List Addr} (h : SqL c.K H1 a xs) (hk : ∀ H', Tk H1 H' → (∀ b ∈ FP, H' b = H1 b) → SqL c.K H' a xs) (r : Rps c H1 ds xs gp) (sub : ∀ b ∈ gp, b ∈ FP) : IterOk false c (Itl c.K a) H1 ds FP := by
  have w := walk_list (K := c.K) (a := a) (xs := xs)
  rw [r.len] at w
  refine w.mono (fun H' g => hk H' g.1 g.2.1) fun i H' x H'' hi g y => ?_
  obtain ⟨rfl, e⟩ := y
  obtain ⟨d, fp, e1, e2, e3⟩ := (r.mono g.1 _ _ _ fun b hb => g.2.1 b (sub b hb)).atV e
  exact ⟨Ext.refl _ _, g.2.2, d, fp, e1, .inl e2, fun b hb => sub b (e3 b hb)⟩
theorem iter_tup {c : Zc} {H1 : Hp} {a : Addr} {xs : List V} {ds : List D} {FP : List Addr} (h : SqT c.K H1 a xs) (r : Rps c H1 ds xs FP) : IterOk false c (Itt c.K a) H1 ds FP := by
  have w := walk_tup (K := c.K) (a := a) (xs := xs)
  rw [r.len] at w
  refine w.mono (fun H' g => g.1.sq h) fun i H' x H'' hi g y => ?_
  obtain ⟨rfl, e⟩ := y
  obtain ⟨d, fp, e1, e2, e3⟩ := (r.mono g.1 _ _ _ g.2.1).atV e
  exact ⟨Ext.refl _ _, g.2.2, d, fp, e1, .inl e2, e3⟩
theorem di_seq {te : TE} {m : DM} {U : List Nat} (h : DE K S te m U) : DI false K S (iSeq K te) (dItems m) U := fun G H ρ σ fps E R hm Q q =>
  h G H ρ σ fps E _ hm _ fun d v H1 fp hR e1 s1 r1 n1 f1 => by
    obtain ⟨ds, hi, hR⟩ := asItems_ok hR
    have th : ∀ a ∈ fp, ∃ o, H1 a = some o := fun a ha => let ⟨o, ho, _⟩ := r1.there _ _ _ a ha; ⟨o, ho⟩
    cases d with
    | list es =>
      cases hi
      simp only [Rp] at r1
      obtain ⟨a, xs, gp, rfl, rfl, h1, h2⟩ := r1
      exact .inl ⟨a, xs, rfl, .of h1, q ds _ H1 _ hR e1 s1 (iter_list (c := ⟨K, S⟩) (.of h1) (fun H' _ k => .of (by rw [k a (List.mem_cons_self ..)]; exact h1)) h2 fun b hb => List.mem_cons_of_mem _ hb) n1 th f1⟩
    | tuple es =>
      cases hi
      simp only [Rp] at r1
      obtain ⟨a, xs, rfl, h1, h2⟩ := r1
      exact .inr (.inl ⟨a, xs, rfl, h1.t, q ds _ H1 _ hR e1 s1 (iter_tup (c := ⟨K, S⟩) h1.t h2) n1 th f1⟩)
    | str z =>
      cases hi
      simp only [Rp] at r1
      obtain ⟨rfl, rfl⟩ := r1
      refine .inr (.inr ⟨z, rfl, q _ _ H1 [] hR e1 s1 ?_ n1 th f1⟩)
      have w := walk_str (z := z)
      rw [show z.cps.size = (z.cps.toList.map fun c => (.str ⟨#[c]⟩ : D)).length by simp] at w
      refine w.mono (fun _ _ => trivial) fun i H' x H'' hi g y => ?_
      obtain ⟨rfl, c, e1, rfl⟩ := y
      exact ⟨Ext.refl _ _, g.2.2, .str ⟨#[c]⟩, [], by simp [e1], .inl (str_rp _), fun a ha => ha⟩
    | none => cases hi
    | bool b => cases hi
    | int i => cases hi
    | dict kvs => cases hi
/-- range -/
def rangeD (lo : Int) (n : Nat) (c : Int) : List D := (List.range n).map fun i => .int (lo + (i : Nat) * c)
def dRng1 (ms : DMs) : DMs := fun ρ R => ms ρ fun ds => match ds with
  | [.int j] => (-1000000000 ≤ j ∧ j ≤ 1000000000) ∧ R (rangeD 0 j.toNat 1)
  | _ => False
def dRng2 (ms : DMs) : DMs := fun ρ R => ms ρ fun ds => match ds with
  | [.int i, .int j] => (-1000000000 ≤ i ∧ i ≤ 1000000000 ∧ -1000000000 ≤ j ∧ j ≤ 1000000000) ∧ R (rangeD i (j - i).toNat 1)
  | _ => False
theorem iter_range {c : Zc} {H1 : Hp} {lo : Int} {n : Nat} : IterOk false c (Itr lo n) H1 (rangeD lo n 1) [] := by
  have w := walk_range (lo := lo) (n := n)
  have e : (rangeD lo n 1).length = n := by simp [rangeD]
  unfold IterOk
  rw [e]
  refine w.mono (fun _ _ => trivial) fun i H' x H'' hi g y => ?_
  obtain ⟨rfl, rfl⟩ := y
  exact ⟨Ext.refl _ _, g.2.2, .int (lo + i), [], by simp [rangeD, hi], .inl (int_rp _), fun a ha => ha⟩
theorem di_rng1 {t : TA} {ms : DMs} {U : List Nat} (h : DA K S t ms U) : DI false K S (iRng1 t) (dRng1 ms) [] := fun G H ρ σ fps E R hm Q q =>
  h G H ρ σ fps E _ hm _ fun ds vs H1 fp hR e1 s1 r1 n1 f1 => by
    split at hR
    · rename_i j
      simp only [Rps] at r1
      obtain ⟨x, ys, g1, g2, rfl, rfl, h1, rfl, rfl⟩ := r1
      exact ⟨j, by rw [rp_int h1], by omega, by omega, q _ _ H1 [] hR.2 e1 s1 iter_range .nil (fun a ha => by cases ha) .nil⟩
    · exact hR.elim
theorem di_rng2 {t : TA} {ms : DMs} {U : List Nat} (h : DA K S t ms U) : DI false K S (iRng2 t) (dRng2 ms) [] := fun G H ρ σ fps E R hm Q q =>
  h G H ρ σ fps E _ hm _ fun ds vs H1 fp hR e1 s1 r1 n1 f1 => by
    split at hR
    · rename_i i j
      simp only [Rps] at r1
      obtain ⟨x, ys, g1, g2, rfl, rfl, h1, y, zs, g3, g4, rfl, rfl, h2, rfl, rfl⟩ := r1
      exact ⟨i, j, by rw [rp_int h1, rp_int h2], by omega, q _ _ H1 [] hR.2 e1 s1 iter_range .nil (fun a ha => by cases ha) .nil⟩
    · exact hR.elim
/-! ### targets -/
/-- only the slots of W are stored: they hold what lies in fp -/
structure GOk (W : List Nat) (fp : List Addr) (ρ : En) (σ : L2.St) (fps : Nat → List Addr) (ρ' : En) (σ' : L2.St) (fps' : Nat → List Addr) : Prop where
  len : ρ'.length = ρ.length
  off : ∀ j, j ∉ W → σ'[j]? = σ[j]? ∧ ρ'[j]? = ρ[j]? ∧ fps' j = fps j
  on : ∀ j, j ∈ W → j < ρ.length → (∀ a ∈ fps' j, a ∈ fp) ∧ ¬ isOwn ρ'[j]?
abbrev DMg := D → En → (En → Prop) → Prop
/-- the target g takes a datum that shares no list with an own one -/
def DG (w : Bool) (K : PySem.W.Frag) (S : Option (Addr × Addr)) (g : TG) (m : DMg) (W : List Nat) : Prop :=
  ∀ (G H : Hp) (ρ : En) (σ : L2.St) (fps : Nat → List Addr), EnvAt ⟨K, S⟩ G H ρ σ fps → ∀ (d : D) (v : V) (fp : List Addr), RpW w ⟨K, S⟩ H d v fp → NoS ⟨K, S⟩ fp → (∀ i, i < ρ.length → isOwn ρ[i]? → ∀ a ∈ fps i, a ∉ fp) →
    ∀ R : En → Prop, m d ρ R → ∀ Nn : L2.St → Hp → Prop, (∀ ρ' σ' fps', R ρ' → EnvAt ⟨K, S⟩ G H ρ' σ' fps' → GOk W fp ρ σ fps ρ' σ' fps' → Nn σ' H) → g v σ H Nn
theorem EnvAt.setVal {c : Zc} {G H : Hp} {ρ : En} {σ : L2.St} {fps : Nat → List Addr} (E : EnvAt c G H ρ σ fps) {d : D} {v : V} {fp : List Addr} (r : Rp c H d v fp) (ns : NoS c fp) (sep : ∀ i, i < ρ.length → isOwn ρ[i]? → ∀ a ∈ fps i, a ∉ fp) (i : Nat) :
    EnvAt c G H (ρ.set i (.val d)) (σ.set i (some v)) (fun j => if j = i then fp else fps j) := by
  refine ⟨by simp [E.len], E.ext, E.src, fun j sl h => ?_, fun j k hne hj hk ho a ha hb => ?_⟩
  · by_cases hji : j = i
    · subst hji
      have hl : j < ρ.length := by
        have := (List.getElem?_eq_some_iff.mp h).1
        simpa using this
      rw [List.getElem?_set_self hl] at h
      cases h
      have hl2 : j < σ.length := by rw [E.len]; exact hl
      rw [List.getElem?_set_self hl2]
      simp only [if_true]
      exact ⟨v, rfl, r, ns⟩
    · rw [List.getElem?_set_ne (Ne.symm hji)] at h ⊢
      simp only [if_neg hji]
      exact E.ok j sl h
  · have hj' : j < ρ.length := by simpa using hj
    have hk' : k < ρ.length := by simpa using hk
    by_cases hji : j = i
    · subst hji
      rw [List.getElem?_set_self hj'] at ho
      exact ho
    · rw [List.getElem?_set_ne (Ne.symm hji)] at ho
      simp only [if_neg hji] at ha
      by_cases hki : k = i
      · simp only [if_pos hki] at hb
        exact sep j hj' ho a ha hb
      · simp only [if_neg hki] at hb
        exact E.sep j k hne hj' hk' ho a ha hb
def dgName (i : Nat) : DMg := fun d ρ R => R (ρ.set i (.val d))
theorem dg_name (i : Nat) : DG false K S (gName i) (dgName i) [i] := fun G H ρ σ fps E d v fp r ns sep R hm Nn q => by
  refine q _ _ _ hm (E.setVal r.strong ns sep i) ⟨by simp, fun j hj => ?_, fun j hj hl => ?_⟩
  · have hji : j ≠ i := fun e => hj (List.mem_singleton.mpr e)
    refine ⟨List.getElem?_set_ne (Ne.symm hji), List.getElem?_set_ne (Ne.symm hji), if_neg hji⟩
  · have e := List.mem_singleton.mp hj
    subst e
    refine ⟨fun a ha => by simpa using ha, ?_⟩
    rw [List.getElem?_set_self hl]
    exact id
/-- several targets -/
abbrev DMgs := List D → En → (En → Prop) → Prop
def DGs (K : PySem.W.Frag) (S : Option (Addr × Addr)) (g : TGs) (m : DMgs) (W : List Nat) : Prop :=
  ∀ (G H : Hp) (ρ : En) (σ : L2.St) (fps : Nat → List Addr), EnvAt ⟨K, S⟩ G H ρ σ fps → ∀ (ds : List D) (vs : List V) (fp : List Addr), Rps ⟨K, S⟩ H ds vs fp → NoS ⟨K, S⟩ fp → (∀ i, i < ρ.length → isOwn ρ[i]? → ∀ a ∈ fps i, a ∉ fp) →
    ∀ R : En → Prop, m ds ρ R → ∀ Nn : L2.St → Hp → Prop, (∀ ρ' σ' fps', R ρ' → EnvAt ⟨K, S⟩ G H ρ' σ' fps' → GOk W fp ρ σ fps ρ' σ' fps' → Nn σ' H) → g vs σ H Nn
def dgNil : DMgs := fun ds ρ R => ds = [] ∧ R ρ
def dgCons (m : DMg) (ms : DMgs) : DMgs := fun ds ρ R => match ds with
  | d :: r => m d ρ fun ρ' => ms r ρ' R
  | [] => False
theorem dgs_nil : DGs K S gNil dgNil [] := fun G H ρ σ fps E ds vs fp r ns sep R hm Nn q => by
  obtain ⟨rfl, hm⟩ := hm
  simp only [Rps] at r
  exact ⟨r.1, q ρ σ fps hm E ⟨rfl, fun j _ => ⟨rfl, rfl, rfl⟩, fun j hj => by cases hj⟩⟩
theorem dgs_cons {g : TG} {gs : TGs} {m : DMg} {ms : DMgs} {W1 W2 : List Nat} (h1 : DG false K S g m W1) (h2 : DGs K S gs ms W2) : DGs K S (gCons g gs) (dgCons m ms) (W1 ++ W2) := fun G H ρ σ fps E ds vs fp r ns sep R hm Nn q => by
  cases ds with
  | nil => exact hm.elim
  | cons d ds =>
    simp only [Rps] at r
    obtain ⟨x, ys, f1, f2, rfl, rfl, r1, r2⟩ := r
    refine ⟨x, ys, rfl, h1 G H ρ σ fps E d x f1 (.inl r1) (fun a ha => ns a (List.mem_append_left _ ha)) (fun i hi ho a ha hb => sep i hi ho a ha (List.mem_append_left _ hb)) _ hm _ fun ρ1 σ1 fps1 hR E1 g1 => ?_⟩
    refine h2 G H ρ1 σ1 fps1 E1 ds ys f2 r2 (fun a ha => ns a (List.mem_append_right _ ha)) (fun i hi ho a ha hb => ?_) _ hR _ fun ρ2 σ2 fps2 hR2 E2 g2 => q ρ2 σ2 fps2 hR2 E2 ⟨g2.len.trans g1.len, fun j hj => ?_, fun j hj hl => ?_⟩
    · rw [g1.len] at hi
      by_cases hw : i ∈ W1
      · exact (g1.on i hw hi).2 ho
      · obtain ⟨e1, e2, e3⟩ := g1.off i hw
        rw [e2] at ho
        rw [e3] at ha
        exact sep i hi ho a ha (List.mem_append_right _ hb)
    · have n1 : j ∉ W1 := fun z => hj (List.mem_append_left _ z)
      have n2 : j ∉ W2 := fun z => hj (List.mem_append_right _ z)
      obtain ⟨a1, a2, a3⟩ := g1.off j n1
      obtain ⟨b1, b2, b3⟩ := g2.off j n2
      exact ⟨b1.trans a1, b2.trans a2, b3.trans a3⟩
    · by_cases hw : j ∈ W2
      · have := g2.on j hw (by rw [g1.len]; exact hl)
        exact ⟨fun a ha => List.mem_append_right _ (this.1 a ha), this.2⟩
      · have hw1 : j ∈ W1 := (List.mem_append.mp hj).resolve_right hw
        obtain ⟨b1, b2, b3⟩ := g2.off j hw
        rw [b2, b3]
        exact ⟨fun a ha => List.mem_append_left _ ((g1.on j hw1 hl).1 a ha), (g1.on j hw1 hl).2⟩
def asT (d : D) (k : List D → Prop) : Prop := match d with
  | .tuple ds => k ds
  | _ => False
def dgTup (n : Nat) (ms : DMgs) : DMg := fun d ρ R => asT d fun ds => ds.length = n ∧ ms ds ρ R
theorem dg_tup {w : Bool} {n : Nat} {gs : TGs} {ms : DMgs} {W : List Nat} (h : DGs K S gs ms W) : DG w K S (gTup K n gs) (dgTup n ms) W := fun G H ρ σ fps E d v fp r ns sep R hm Nn q => by
  cases d with
  | tuple ds =>
    obtain ⟨a, xs, rfl, h1, h2⟩ := r.tup
    obtain ⟨hl, hm⟩ := hm
    exact ⟨a, xs, rfl, h1, by rw [h2.len]; exact hl, h G H ρ σ fps E ds xs fp h2 ns sep R hm Nn q⟩
  | _ => exact hm.elim
/-! ### comprehensions -/
/-- inside a comprehension: its own names empty, nothing is changed -/
def demote : En → En := List.map fun s => match s with
  | .own d => .val d
  | s => s
def hide : List Nat → En → En
  | [], ρ => ρ
  | i :: vs, ρ => (hide vs ρ).set i .unk
theorem hide_length (ρ : En) : ∀ vs : List Nat, (hide vs ρ).length = ρ.length
  | [] => rfl
  | v :: vs => by unfold hide; rw [List.length_set, hide_length ρ vs]
theorem hide_out {ρ : En} {i : Nat} : ∀ {vs : List Nat}, i ∉ vs → (hide vs ρ)[i]? = ρ[i]?
  | [], _ => rfl
  | v :: vs, h => by
    unfold hide
    rw [List.getElem?_set_ne fun e => h (by rw [e]; exact List.mem_cons_self)]
    exact hide_out fun m => h (List.mem_cons_of_mem _ m)
theorem hide_in {ρ : En} {i : Nat} : ∀ {vs : List Nat} {s : Sl}, i ∈ vs → (hide vs ρ)[i]? = some s → s = .unk
  | [], s, h, e => by cases h
  | v :: vs, s, h, e => by
    unfold hide at e
    by_cases hv : v = i
    · subst hv
      have hl : v < (hide vs ρ).length := by
        have := (List.getElem?_eq_some_iff.mp e).1
        simpa using this
      rw [List.getElem?_set_self hl] at e
      exact (Option.some.inj e).symm
    · rw [List.getElem?_set_ne hv] at e
      exact hide_in ((List.mem_cons.mp h).resolve_left (Ne.symm hv)) e
theorem demote_length (ρ : En) : (demote ρ).length = ρ.length := by simp [demote]
theorem demote_own {ρ : En} {i : Nat} : ¬ isOwn (demote ρ)[i]? := by
  unfold demote
  rw [List.getElem?_map]
  cases ρ[i]? with
  | none => exact id
  | some s => cases s <;> exact id
theorem EnvAt.inner {c : Zc} {G H : Hp} {ρ : En} {σ : L2.St} {fps : Nat → List Addr} (E : EnvAt c G H ρ σ fps) (vs : List Nat) :
    EnvAt c (fun _ => none) H (hide vs (demote ρ)) (wipe σ vs) (fun j => if j ∈ vs then [] else fps j) := by
  refine ⟨by rw [wipe_length, hide_length, demote_length]; exact E.len, fun a o h _ => (by cases h), E.src, fun j sl h => ?_, fun j k _ _ _ ho => ?_⟩
  · by_cases hj : j ∈ vs
    · rw [hide_in hj h]
      simp only [if_pos hj]
      rfl
    · rw [hide_out hj] at h
      rw [wipe_out hj]
      simp only [if_neg hj]
      unfold demote at h
      rw [List.getElem?_map] at h
      cases hs : ρ[j]? with
      | none => rw [hs] at h; cases h
      | some s =>
        rw [hs] at h
        have ok := E.ok j s hs
        cases s with
        | unk => cases h; exact ok
        | val d => cases h; exact ok
        | own d => cases h; obtain ⟨v, a1, a2, a3, _⟩ := ok; exact ⟨v, a1, a2, a3⟩
  · by_cases hj : j ∈ vs
    · exfalso
      cases hs : (hide vs (demote ρ))[j]? with
      | none => rw [hs] at ho; exact ho
      | some s =>
        have := hide_in hj hs
        rw [hs, this] at ho
        exact ho
    · rw [hide_out hj] at ho
      exact (demote_own ho).elim
def compD (tg : DMg) (mt : DMt) (me : DM) (ρ : En) (R : List D → Prop) : List D → List D → Prop
  | [], acc => R acc
  | x :: xs, acc => tg x ρ fun ρ' => mt ρ' fun b => cond b (me ρ' fun y => compD tg mt me ρ R xs (acc ++ [y])) (compD tg mt me ρ R xs acc)
def dComp (mi : DMs) (tg : DMg) (mt : DMt) (me : DM) (vs : List Nat) : DM := fun ρ R => mi ρ fun xs => xs.length ≤ 10000000 ∧ compD tg mt me (hide vs (demote ρ)) (fun ys => R (.list ys)) xs []
def compU (vs Ue Ui : List Nat) : List Nat := if Ue = [] then [] else 1000 :: (Ue ++ Ui)
theorem wipe_same {σ σ2 : L2.St} : ∀ {vs : List Nat}, σ2.length = σ.length → (∀ j, j ∉ vs → σ2[j]? = σ[j]?) → wipe σ2 vs = wipe σ vs := fun {vs} hl h => by
  apply List.ext_getElem?
  intro i
  by_cases hi : i ∈ vs
  · have both : ∀ τ : L2.St, τ.length = σ.length → (wipe τ vs)[i]? = if i < σ.length then some none else none := fun τ hτ => by
      cases e : (wipe τ vs)[i]? with
      | none =>
        have := List.getElem?_eq_none_iff.mp e
        rw [wipe_length, hτ] at this
        rw [if_neg (by omega)]
      | some o =>
        have hlt := (List.getElem?_eq_some_iff.mp e).1
        rw [wipe_length, hτ] at hlt
        rw [if_pos hlt]
        cases o with
        | none => rfl
        | some x => exact absurd hi (wipe_some e).2
    rw [both σ2 hl, both σ rfl]
  · rw [wipe_out hi, wipe_out hi]
    exact h i hi
theorem wipe_wipe {σ : L2.St} {vs : List Nat} : wipe (wipe σ vs) vs = wipe σ vs := wipe_same (wipe_length σ vs) fun j hj => wipe_out hj
theorem de_lc {wi : TI} {g : TG} {tt : TT} {te : TE} {vs : List Nat} {mi : DMs} {mg : DMg} {mt : DMt} {me : DM} {Ui Ue W : List Nat} {w : Bool} (hi : DI w K S wi mi Ui) (hg : DG w K S g mg W) (ht : DT K S tt mt) (he : DE K S te me Ue) (hW : W.all (fun j => vs.contains j) = true) :
    DE K S (tLc wi g tt te vs) (dComp mi mg mt me vs) (compU vs Ue Ui) := fun G H ρ σ fps E R hm Q q =>
  hi G H ρ σ fps E _ hm _ fun ds J H1 FP hR e1 s1 J1 nF tF fF Dd hD => by
    obtain ⟨hlen, hc⟩ := hR
    have hWv : ∀ j, j ∈ W → j ∈ vs := fun j hj => by
      have := List.all_eq_true.mp hW j hj
      simpa using this
    have hDn := s1.fresh hD
    -- what holds ahead of turn i
    let Pv : Nat → Hp → Prop := fun i Hi => Ext ⟨K, S⟩ H1 Hi ∧ SrcAt ⟨K, S⟩ Hi ∧ ∃ (acc : List D) (av : List V) (fa : List Addr), Hi Dd = some (.lst av) ∧ Rps ⟨K, S⟩ Hi acc av fa ∧ NoS ⟨K, S⟩ fa ∧ Dd ∉ fa ∧ From H fps ρ.length (compU vs Ue Ui) fa ∧ acc.length ≤ i ∧
      compD mg mt me (hide vs (demote ρ)) (fun ys => R (.list ys)) (ds.drop i) acc
    refine lc_it J1 (D := Dd) Pv ?_ (fun i Hi hle p => ?_) (fun i x Hi Hi' hlt p y => ?_) fun Hn p => ?_
    · exact ⟨Ext.new hD, s1.new hD, [], [], [], upd_same, .nil, .nil, (by intro z; cases z), .nil, Nat.le_refl _, hc⟩
    · exact ⟨p.1.tk s1, fun a ha => by
        obtain ⟨o, ho⟩ := tF a ha
        rw [ho]
        exact p.1 a o ho (nF a ha), p.2.1⟩
    · obtain ⟨x1, sx, acc, av, fa, hDi, ra, na, da, frm, hal, hcc⟩ := p
      obtain ⟨y1, sy, d, fp, hd, rd, subd⟩ := y
      have E2 := ((E.step (e1.trans (x1.trans y1)) sy).inner vs)
      have hdrop : ds.drop i = d :: ds.drop (i + 1) := by
        obtain ⟨hlt', hd'⟩ := List.getElem?_eq_some_iff.mp hd
        rw [← hd']
        exact List.drop_eq_getElem_cons hlt'
      rw [hdrop] at hcc
      have nfp : NoS ⟨K, S⟩ fp := fun a ha => nF a (subd a ha)
      refine hg _ Hi' _ _ _ E2 d x fp rd nfp (fun j _ ho => ?_) _ hcc _ fun ρ2 σ2 fps2 hR2 E3 g3 => ?_
      · exfalso
        by_cases hj : j ∈ vs
        · cases hs : (hide vs (demote ρ))[j]? with
          | none => rw [hs] at ho; exact ho
          | some s =>
            have := hide_in hj hs
            rw [hs, this] at ho
            exact ho
        · rw [hide_out hj] at ho
          exact demote_own ho
      have hl2 : ρ2.length = ρ.length := by rw [g3.len, hide_length, demote_length]
      have hs2 : σ2.length = (wipe σ vs).length := by rw [E3.len, hl2, wipe_length, E.len]
      refine ⟨(wipe_same hs2 fun j hj => (g3.off j fun z => hj (hWv j z)).1).trans wipe_wipe, ?_⟩
      -- what the slots hold within, told by those outside
      have hin : ∀ u a, u < ρ2.length → a ∈ fps2 u → a ∈ FP ∨ (u < ρ.length ∧ a ∈ fps u) := fun u a hu ha => by
        rw [hl2] at hu
        by_cases hw : u ∈ W
        · exact .inl (subd a ((g3.on u hw (by rw [hide_length, demote_length]; exact hu)).1 a ha))
        · rw [(g3.off u hw).2.2] at ha
          by_cases hv : u ∈ vs
          · simp only [if_pos hv] at ha
            cases ha
          · simp only [if_neg hv] at ha
            exact .inr ⟨hu, ha⟩
      refine ht _ Hi' ρ2 σ2 fps2 E3 _ hR2 _ fun b H3 hb x3 s3 => ?_
      have E4 := E3.step x3 s3
      cases b with
      | false =>
        refine iteF ⟨x1.trans (y1.trans x3), s3, acc, av, fa, x3 _ _ (y1 _ _ hDi hDn) hDn, (ra.ext na y1 sx).ext na x3 sy, na, da, frm, Nat.le_succ_of_le hal, hb⟩
      | true =>
        refine iteT (he _ H3 ρ2 σ2 fps2 E4 _ hb _ fun y v H4 gp hc4 x4 s4 r4 n4 f4 => ?_)
        have xx : Ext ⟨K, S⟩ Hi H4 := y1.trans (x3.trans x4)
        have hD4 : H4 Dd = some (.lst av) := xx _ _ hDi hDn
        have hDg : Dd ∉ gp := fun hm => by
          rcases f4.1 Dd hm with z | ⟨u, hu, hul, z⟩
          · rw [x3 _ _ (y1 _ _ hDi hDn) hDn] at z
            cases z
          · rcases hin u Dd hul z with z | ⟨z1, z⟩
            · obtain ⟨o, ho⟩ := tF Dd z
              rw [hD] at ho
              cases ho
            · obtain ⟨o, ho, _⟩ := E.thereAt z1 Dd z
              rw [e1 _ _ ho hDn] at hD
              cases hD
        have hk : ∀ b : Addr, b ∈ fa ++ gp → upd H4 Dd (.lst (av ++ [v])) b = H4 b := fun b hb' => upd_ne fun z => by
          rcases List.mem_append.mp hb' with z' | z'
          · exact da (z ▸ z')
          · exact hDg (z ▸ z')
        have tk : Tk H4 (upd H4 Dd (.lst (av ++ [v]))) := fun b o ho hf => by
          rw [upd_ne fun z => by rw [z, hD4] at ho; cases ho; exact hf]
          exact ho
        refine ⟨av, hD4, ?_, fun b o ho hnb => ?_, s4.own hDn, acc ++ [y], av ++ [v], fa ++ gp, upd_same, ?_, na.app n4, ?_, ?_, ?_, hc4⟩
        · have h1 := ra.len
          have h2 : i < ds.length := hlt
          exact Nat.lt_of_lt_of_le (by omega : av.length < 10000000) (lim_ok (Nat.le_refl _))
        · rw [upd_ne fun z => by rw [z, hD] at ho; cases ho]
          exact (x1.trans xx) b o ho hnb
        · exact (ra.ext na xx sx).app (.one r4) |>.mono tk _ _ _ hk
        · intro hm
          rcases List.mem_append.mp hm with z | z
          · exact da z
          · exact hDg z
        · have hne : ∀ a ∈ gp, H a = none ∨ ∃ u ∈ compU vs Ue Ui, u < ρ.length ∧ a ∈ fps u := fun a ha => by
            rcases f4.1 a ha with z | ⟨u, hu, hul, z⟩
            · exact .inl ((e1.trans (x1.trans (y1.trans x3))).free z (n4 a ha))
            · have hUe : Ue ≠ [] := fun z => by rw [z] at hu; cases hu
              unfold compU
              rw [if_neg hUe]
              rcases hin u a hul z with z | ⟨z1, z⟩
              · exact (fF.1 a z).imp id fun ⟨u', hu', q'⟩ => ⟨u', List.mem_cons_of_mem _ (List.mem_append_right _ hu'), q'⟩
              · exact .inr ⟨u, List.mem_cons_of_mem _ (List.mem_append_left _ hu), z1, z⟩
          refine ⟨fun a ha => (List.mem_append.mp ha).elim (frm.1 a) (hne a), fun z => ?_⟩
          have hUe : Ue = [] := by
            unfold compU at z
            split at z
            · assumption
            · cases z
          subst hUe
          refine List.nodup_append.mpr ⟨frm.2 z, f4.2 rfl, fun a ha b hb' q' => ?_⟩
          subst q'
          have h1 := f4.off a hb'
          obtain ⟨o, ho, _⟩ := ra.there _ _ _ a ha
          rw [x3 _ _ (y1 _ _ ho (na a ha)) (na a ha)] at h1
          cases h1
        · rw [List.length_append]
          exact Nat.succ_le_succ hal
    · obtain ⟨x1, sx, acc, av, fa, hDi, ra, na, da, frm, hal, hcc⟩ := p
      rw [List.drop_eq_nil_of_le (Nat.le_refl _)] at hcc
      refine q (.list acc) (.ref Dd) Hn (Dd :: fa) hcc (e1.trans x1) sx ?_ ?_ ⟨fun a ha => ?_, fun z => ?_⟩
      · simp only [Rp]
        exact ⟨Dd, av, fa, rfl, rfl, hDi, ra⟩
      · intro a ha
        rcases List.mem_cons.mp ha with rfl | ha
        · exact hDn
        · exact na a ha
      · rcases List.mem_cons.mp ha with rfl | ha
        · exact .inl (e1.free hD hDn)
        · exact frm.1 a ha
      · exact List.nodup_cons.mpr ⟨da, frm.2 z⟩
end
end Z
set_option Elab.async false
set_option linter.all false
set_option maxRecDepth 100000
set_option maxHeartbeats 2000000
/-! Z3: statements, defs. -/
namespace Z
open PySem L2
section
variable {K : PySem.W.Frag} {S : Option (Addr × Addr)}
theorem Off.refl (W : List Nat) (σ : L2.St) : Off W σ σ := ⟨rfl, fun _ _ => rfl⟩
theorem Off.trans {V W : List Nat} {σ σ1 σ2 : L2.St} (a : Off V σ σ1) (b : Off W σ1 σ2) : Off (V ++ W) σ σ2 := ⟨b.len.trans a.len, fun j hj =>
  (b.off j fun z => hj (List.mem_append_right _ z)).trans (a.off j fun z => hj (List.mem_append_left _ z))⟩
theorem Off.up {V W : List Nat} {σ σ1 : L2.St} (a : Off V σ σ1) (h : ∀ j ∈ V, j ∈ W) : Off W σ σ1 := ⟨a.len, fun j hj => a.off j fun z => hj (h j z)⟩
theorem Off.join {W : List Nat} {σ σ1 σ2 : L2.St} (a : Off W σ σ1) (b : Off W σ1 σ2) : Off W σ σ2 := ⟨b.len.trans a.len, fun j hj => (b.off j hj).trans (a.off j hj)⟩
/-! ### small statements -/
def sNext : DMS := fun ρ R => R.nx ρ
theorem ds_next : DS K S tNext sNext [] := fun G H ρ σ fps E R hm D d => d.nx ρ σ H fps hm E (.refl _ _)
def sBreak : DMS := fun ρ R => R.bk ρ
def sCont : DMS := fun ρ R => R.ct ρ
/-- what comes next, held back until its environment is known -/
def later (b : DMS) (R : DEnds) (_ : Hold R) : En → Prop := fun ρ' => b ρ' R
theorem later_cons (b : DMS) (R : DEnds) (t : Hold R) (s : Sl) (ρ : En) : later b R t (s :: ρ) = b (s :: ρ) R := rfl
def sSeq (a b : DMS) : DMS := fun ρ R => a ρ { R with nx := later b R .mk }
theorem EndsOk.up {G : Hp} {V W : List Nat} {σ : L2.St} {R : DEnds} {D : Ends} (d : EndsOk K S G W σ R D) (h : ∀ j ∈ V, j ∈ W) : EndsOk K S G V σ R D :=
  ⟨fun ρ' σ' H' f a b o => d.nx ρ' σ' H' f a b (o.up h), fun ρ' σ' H' f a b o => d.bk ρ' σ' H' f a b (o.up h), fun ρ' σ' H' f a b o => d.ct ρ' σ' H' f a b (o.up h), d.rt⟩
theorem EndsOk.after {G : Hp} {W : List Nat} {σ σ1 : L2.St} {R : DEnds} {D : Ends} (d : EndsOk K S G W σ R D) (o : Off W σ σ1) : EndsOk K S G W σ1 R D :=
  ⟨fun ρ' σ' H' f a b o' => d.nx ρ' σ' H' f a b (o.join o'), fun ρ' σ' H' f a b o' => d.bk ρ' σ' H' f a b (o.join o'), fun ρ' σ' H' f a b o' => d.ct ρ' σ' H' f a b (o.join o'), d.rt⟩
theorem ds_seq {t u : TS} {m1 m2 : DMS} {V W : List Nat} (h1 : DS K S t m1 V) (h2 : DS K S u m2 W) : DS K S (tSeq t u) (sSeq m1 m2) (V ++ W) := fun G H ρ σ fps E R hm D d => by
  have l : ∀ j ∈ V, j ∈ V ++ W := fun j h => List.mem_append_left _ h
  have r : ∀ j ∈ W, j ∈ V ++ W := fun j h => List.mem_append_right _ h
  exact h1 G H ρ σ fps E _ hm _ ⟨fun ρ1 σ1 H1 f1 hR E1 o1 => h2 G H1 ρ1 σ1 f1 E1 R hR D ((d.after (o1.up l)).up r), (d.up l).bk, (d.up l).ct, d.rt⟩
def sIf (c : DMt) (a b : DMS) : DMS := fun ρ R => c ρ fun k => cond k (a ρ R) (b ρ R)
theorem ds_if {c : TT} {t u : TS} {mc : DMt} {m1 m2 : DMS} {V W : List Nat} (hc : DT K S c mc) (h1 : DS K S t m1 V) (h2 : DS K S u m2 W) : DS K S (tIfS c t u) (sIf mc m1 m2) (V ++ W) := fun G H ρ σ fps E R hm D d =>
  hc G H ρ σ fps E _ hm _ fun b H1 hR e1 s1 => by
    cases b with
    | true => exact iteT (h1 G H1 ρ σ fps (E.step e1 s1) R hR D (d.up fun j h => List.mem_append_left _ h))
    | false => exact iteF (h2 G H1 ρ σ fps (E.step e1 s1) R hR D (d.up fun j h => List.mem_append_right _ h))
def sDrop (m : DM) : DMS := fun ρ R => m ρ fun _ => R.nx ρ
theorem back_none {c : Zc} {G H : Hp} (e : Ext c G H) {a : Addr} (h : H a = none) (n : ¬ c.has a) : G a = none := e.free h n
def sRet (m : DM) : DMS := fun ρ R => m ρ R.rt
theorem ds_ret {te : TE} {m : DM} (h : DE K S te m []) : DS K S (tRet te) (sRet m) [] := fun G H ρ σ fps E R hm D d =>
  h G H ρ σ fps E _ hm _ fun x v H1 fp hR e1 s1 r n f => d.rt x v H1 fp hR (E.ext.trans e1) s1 r n (f.2 rfl) fun a ha => back_none E.ext (f.off a ha) (n a ha)
def sRetV (i : Nat) : DMS := fun ρ R => match ρ[i]? with
  | some (.own d) => R.rt d
  | _ => False
/-- return x, x an own list -/
theorem ds_retV (i : Nat) : DS K S (tRet (tVar i)) (sRetV i) [] := fun G H ρ σ fps E R hm D d => by
  unfold sRetV at hm
  split at hm
  · rename_i x e
    obtain ⟨v, e1, r, n, nd, g⟩ := E.ok i _ e
    exact ⟨v, e1, d.rt x v H _ hm E.ext E.src r n nd g⟩
  · exact hm.elim
def sRetN : DMS := fun ρ R => R.rt .none
/-! ### stores -/
theorem EnvAt.setOwn {c : Zc} {G H : Hp} {ρ : En} {σ : L2.St} {fps : Nat → List Addr} (E : EnvAt c G H ρ σ fps) {d : D} {v : V} {fp : List Addr} (r : Rp c H d v fp) (ns : NoS c fp) (nd : fp.Nodup) (g : ∀ a ∈ fp, G a = none) (i : Nat)
    (sep : ∀ j, j < ρ.length → j ≠ i → ∀ a ∈ fp, a ∉ fps j) : EnvAt c G H (ρ.set i (.own d)) (σ.set i (some v)) (fun j => if j = i then fp else fps j) := by
  refine ⟨by simp [E.len], E.ext, E.src, fun j sl h => ?_, fun j k hne hj hk ho a ha hb => ?_⟩
  · by_cases hji : j = i
    · subst hji
      have hl : j < ρ.length := by
        have := (List.getElem?_eq_some_iff.mp h).1
        simpa using this
      rw [List.getElem?_set_self hl] at h
      cases h
      have hl2 : j < σ.length := by rw [E.len]; exact hl
      rw [List.getElem?_set_self hl2]
      simp only [if_true]
      exact ⟨v, rfl, r, ns, nd, g⟩
    · rw [List.getElem?_set_ne (Ne.symm hji)] at h ⊢
      simp only [if_neg hji]
      exact E.ok j sl h
  · have hj' : j < ρ.length := by simpa using hj
    have hk' : k < ρ.length := by simpa using hk
    by_cases hji : j = i
    · subst hji
      simp only [if_true] at ha
      simp only [if_neg (Ne.symm hne)] at hb
      exact sep k hk' (Ne.symm hne) a ha hb
    · rw [List.getElem?_set_ne (Ne.symm hji)] at ho
      simp only [if_neg hji] at ha
      by_cases hki : k = i
      · simp only [if_pos hki] at hb
        exact sep j hj' hji a hb ha
      · simp only [if_neg hki] at hb
        exact E.sep j k hne hj' hk' ho a ha hb
theorem off_set {i : Nat} {x : Option V} {σ : L2.St} : Off [i] σ (σ.set i x) := ⟨by simp, fun j hj => List.getElem?_set_ne fun e => hj (by simp [e])⟩
def sAsg (i : Nat) (m : DM) : DMS := fun ρ R => m ρ fun d => R.nx (ρ.set i (.own d))
theorem ds_asg (i : Nat) {te : TE} {m : DM} (h : DE K S te m []) : DS K S (tAsg te (gName i)) (sAsg i m) [i] := fun G H ρ σ fps E R hm D d =>
  h G H ρ σ fps E _ hm _ fun x v H1 fp hR e1 s1 r n f => by
    have E1 := E.step e1 s1
    refine d.nx _ _ H1 _ hR (E1.setOwn r n (f.2 rfl) (fun a ha => back_none E.ext (f.off a ha) (n a ha)) i fun j hj _ a ha hb => ?_) off_set
    obtain ⟨o, ho, _⟩ := E.thereAt hj a hb
    rw [f.off a ha] at ho
    cases ho
/-- all of U hold what is only read -/
def valsAt (ρ : En) (U : List Nat) : Prop := ∀ u ∈ U, ¬ isOwn ρ[u]?
def sAsgG (U : List Nat) (m : DM) (mg : DMg) : DMS := fun ρ R => valsAt ρ U ∧ m ρ fun d => mg d ρ R.nx
/-- any target; what is stored is only read from there on -/
theorem ds_asgG {te : TE} {g : TG} {m : DM} {mg : DMg} {U W : List Nat} (h : DE K S te m U) (hg : DG false K S g mg W) : DS K S (tAsg te g) (sAsgG U m mg) W := fun G H ρ σ fps E R hm D d =>
  h G H ρ σ fps E _ hm.2 _ fun x v H1 fp hR e1 s1 r n f => by
    have E1 := E.step e1 s1
    refine hg G H1 ρ σ fps E1 x v fp (.inl r) n (fun i hi ho a ha hb => ?_) _ hR _ fun ρ' σ' fps' hR' E' g' => d.nx ρ' σ' H1 fps' hR' E' ⟨by rw [E'.len, g'.len, E.len], fun j hj => (g'.off j hj).1⟩
    rcases f.1 a hb with z | ⟨u, hu, hul, z⟩
    · obtain ⟨o, ho', _⟩ := E.thereAt hi a ha
      rw [z] at ho'
      cases ho'
    · have hne : i ≠ u := fun z' => hm.1 u hu (z' ▸ ho)
      exact E.sep i u hne hi hul ho a ha z
def sPar (i j : Nat) (ms : DMs) : DMS := fun ρ R => ms ρ fun ds => match ds with
  | [x, y] => R.nx ((ρ.set i (.own x)).set j (.own y))
  | _ => False
theorem ds_par (i j : Nat) {t : TA} {ms : DMs} (h : DA K S t ms []) (hij : i ≠ j := by decide) : DS K S (tPar i j t) (sPar i j ms) [i, j] := fun G H ρ σ fps E R hm D d =>
  h G H ρ σ fps E _ hm _ fun ds vs H1 fp hR e1 s1 r n f => by
    split at hR
    · rename_i x y
      simp only [Rps] at r
      obtain ⟨v, ys, g1, g2, rfl, rfl, r1, w, zs, g3, g4, rfl, rfl, r2, rfl, rfl⟩ := r
      rw [List.append_nil] at f n
      have E1 := E.step e1 s1
      have nd := f.2 rfl
      obtain ⟨nd1, nd2, nd3⟩ := List.nodup_append.mp nd
      have fr : ∀ a ∈ g1 ++ g3, ∀ k, k < ρ.length → a ∉ fps k := fun a ha k hk hb => by
        obtain ⟨o, ho, _⟩ := E.thereAt hk a hb
        rw [f.off a ha] at ho
        cases ho
      have gn : ∀ a ∈ g1 ++ g3, G a = none := fun a ha => back_none E.ext (f.off a ha) (n a ha)
      refine ⟨v, w, rfl, ?_⟩
      have E2 := E1.setOwn r1 (fun a ha => n a (List.mem_append_left _ ha)) nd1 (fun a ha => gn a (List.mem_append_left _ ha)) i fun k hk _ a ha hb => fr a (List.mem_append_left _ ha) k hk hb
      have E3 := E2.setOwn r2 (fun a ha => n a (List.mem_append_right _ ha)) nd2 (fun a ha => gn a (List.mem_append_right _ ha)) j fun k hk hkj a ha hb => by
        by_cases hki : k = i
        · simp only [if_pos hki] at hb
          exact nd3 a hb a ha rfl
        · simp only [if_neg hki] at hb
          exact fr a (List.mem_append_right _ ha) k (by simpa using hk) hb
      refine d.nx _ _ H1 _ hR E3 ⟨by simp, fun k hk => ?_⟩
      have k1 : j ≠ k := fun e => hk (by simp [e])
      have k2 : i ≠ k := fun e => hk (by simp [e])
      rw [List.getElem?_set_ne k1, List.getElem?_set_ne k2]
    · exact hR.elim
/-- an own list or dict, changed -/
theorem EnvAt.change {c : Zc} {G H : Hp} {ρ : En} {σ : L2.St} {fps : Nat → List Addr} (E : EnvAt c G H ρ σ fps) {i : Nat} {d d' : D} {a : Addr} {v : V} {o : HO} {fp' : List Addr} (hi : ρ[i]? = some (.own d)) (hv : σ[i]? = some (some v)) (ha : a ∈ fps i)
    (r : Rp c (upd H a o) d' v fp') (sub : ∀ b ∈ fp', b ∈ fps i ∨ (G b = none ∧ ¬ c.has b ∧ ∀ j, j < ρ.length → b ∉ fps j)) (nd : fp'.Nodup) :
    EnvAt c G (upd H a o) (ρ.set i (.own d')) σ (fun j => if j = i then fp' else fps j) := by
  have hl : i < ρ.length := (List.getElem?_eq_some_iff.mp hi).1
  have oki := E.ok i _ hi
  obtain ⟨v0, e0, r0, n0, nd0, g0⟩ := oki
  have han : ¬ c.has a := n0 a ha
  obtain ⟨o1, ho1, hf1⟩ := E.thereAt hl a ha
  have tk : Tk H (upd H a o) := fun b u hu hf => by
    rw [upd_ne fun z => by rw [z, ho1] at hu; cases hu; exact hf1 hf]
    exact hu
  have isO : isOwn ρ[i]? := by rw [hi]; trivial
  refine ⟨by rw [List.length_set]; exact E.len, fun b u hb hn => ?_, E.src.own han, fun j sl h => ?_, fun j k hne hj hk ho b hb1 hb2 => ?_⟩
  · rw [upd_ne fun z => by rw [z, g0 a ha] at hb; cases hb]
    exact E.ext b u hb hn
  · by_cases hji : j = i
    · subst hji
      rw [List.getElem?_set_self hl] at h
      cases h
      simp only [if_true]
      refine ⟨v, hv, r, fun b hb => ?_, nd, fun b hb => ?_⟩
      · rcases sub b hb with z | z
        · exact n0 b z
        · exact z.2.1
      · rcases sub b hb with z | z
        · exact g0 b z
        · exact z.1
    · rw [List.getElem?_set_ne (Ne.symm hji)] at h
      simp only [if_neg hji]
      have okj := E.ok j sl h
      have hjl : j < ρ.length := (List.getElem?_eq_some_iff.mp h).1
      have keep : ∀ b ∈ fps j, upd H a o b = H b := fun b hb => upd_ne fun z => E.sep i j (Ne.symm hji) hl hjl isO a ha (z ▸ hb)
      cases sl with
      | unk => exact okj
      | val dj => obtain ⟨w, f1, f2, f3⟩ := okj; exact ⟨w, f1, f2.mono tk _ _ _ keep, f3⟩
      | own dj => obtain ⟨w, f1, f2, f3⟩ := okj; exact ⟨w, f1, f2.mono tk _ _ _ keep, f3⟩
  · have hj' : j < ρ.length := by simpa using hj
    have hk' : k < ρ.length := by simpa using hk
    by_cases hji : j = i
    · subst hji
      simp only [if_true] at hb1
      simp only [if_neg (Ne.symm hne)] at hb2
      rcases sub b hb1 with z | z
      · exact E.sep j k hne hj' hk' isO b z hb2
      · exact z.2.2 k hk' hb2
    · rw [List.getElem?_set_ne (Ne.symm hji)] at ho
      simp only [if_neg hji] at hb1
      by_cases hki : k = i
      · simp only [if_pos hki] at hb2
        rcases sub b hb2 with z | z
        · exact E.sep j i hji hj' hl ho b hb1 z
        · exact z.2.2 j hj' hb1
      · simp only [if_neg hki] at hb2
        exact E.sep j k hne hj' hk' ho b hb1 hb2
/-- an own list -/
def ownL (s : Option Sl) (k : List D → Prop) : Prop := match s with
  | some (.own (.list ds)) => k ds
  | _ => False
theorem ownL_ok {s : Option Sl} {k : List D → Prop} (h : ownL s k) : ∃ ds, s = some (.own (.list ds)) ∧ k ds := by
  unfold ownL at h
  split at h
  · exact ⟨_, rfl, h⟩
  · exact h.elim
/-- x.append(e), x an own list -/
def sAppend (i : Nat) (m : DM) : DMS := fun ρ R => ownL ρ[i]? fun ds => m ρ fun y => ds.length < 10000000 ∧ R.nx (ρ.set i (.own (.list (ds ++ [y]))))
theorem ds_append (i : Nat) {te : TE} {m : DM} (h : DE K S te m []) : DS K S (tDrop (tBM K "list" rAppend (tVar i) (tCons te tNil))) (sAppend i m) [i] := fun G H ρ σ fps E R hm D d => by
  · obtain ⟨ds, hi, hm⟩ := ownL_ok hm
    obtain ⟨v, ev, r, n, nd, g⟩ := E.ok i _ hi
    have r' := r
    simp only [Rp] at r'
    obtain ⟨a, xs, gp, rfl, ef, hL, rs⟩ := r'
    refine ⟨.ref a, ev, .inl ⟨rfl, xs, .of hL⟩, h G H ρ σ fps E _ hm _ fun y w H1 fp hR e1 s1 ry ny fy => ?_⟩
    have han : ¬ Zc.has ⟨K, S⟩ a := n a (by rw [ef]; exact List.mem_cons_self ..)
    have hL1 : H1 a = some (.lst xs) := e1 a _ hL han
    have E1 := E.step e1 s1
    refine ⟨a, xs, w, rfl, rfl, hL1, by rw [rs.len]; exact Nat.lt_of_lt_of_le hR.1 (lim_ok (Nat.le_refl _)), ?_⟩
    have gpn : ∀ b ∈ gp, b ∈ fps i := fun b hb => by rw [ef]; exact List.mem_cons_of_mem _ hb
    have ndc : (a :: gp).Nodup := by rw [← ef]; exact nd
    have hag : a ∉ gp := (List.nodup_cons.mp ndc).1
    have hafp : a ∉ fp := fun z => by
      rw [fy.off a z] at hL
      cases hL
    have tk : Tk H1 (upd H1 a (.lst (xs ++ [w]))) := fun b u hu hf => by
      rw [upd_ne fun z => by rw [z, hL1] at hu; cases hu; exact hf]
      exact hu
    have rr : Rp ⟨K, S⟩ (upd H1 a (.lst (xs ++ [w]))) (.list (ds ++ [y])) (.ref a) (a :: (gp ++ fp)) := by
      simp only [Rp]
      refine ⟨a, xs ++ [w], gp ++ fp, rfl, rfl, upd_same, ?_⟩
      refine ((rs.ext (fun b hb => n b (gpn b hb)) e1 E.src).app (.one ry)).mono tk _ _ _ fun b hb => upd_ne fun z => ?_
      rcases List.mem_append.mp hb with z' | z'
      · exact hag (z ▸ z')
      · exact hafp (z ▸ z')
    refine d.nx _ σ _ _ hR.2 (E1.change hi ev (by rw [ef]; exact List.mem_cons_self ..) rr (fun b hb => ?_) ?_) ⟨rfl, fun _ _ => rfl⟩
    · rcases List.mem_cons.mp hb with z | hb
      · rw [z, ef]; exact .inl (List.mem_cons_self ..)
      · rcases List.mem_append.mp hb with z | z
        · exact .inl (gpn b z)
        · refine .inr ⟨back_none E.ext (fy.off b z) (ny b z), ny b z, fun j hj hb' => ?_⟩
          obtain ⟨o, ho, _⟩ := E.thereAt hj b hb'
          rw [fy.off b z] at ho
          cases ho
    · refine List.nodup_cons.mpr ⟨fun z => (List.mem_append.mp z).elim hag hafp, List.nodup_append.mpr ⟨(List.nodup_cons.mp ndc).2, fy.2 rfl, fun b hb b' hb' z => ?_⟩⟩
      subst z
      obtain ⟨o, ho, _⟩ := rs.there _ _ _ b hb
      rw [fy.off b hb'] at ho
      cases ho
end
end Z
set_option Elab.async false
set_option linter.all false
set_option maxRecDepth 100000
set_option maxHeartbeats 2000000
/-! Z4: loops; defs by their promises over data. -/
namespace Z
open PySem L2
section
variable {K : PySem.W.Frag} {S : Option (Addr × Addr)}
/-! ### for -/
/-- the slots outside W are only read -/
def demoteOff (W : List Nat) : Nat → En → En
  | _, [] => []
  | k, s :: ρ => (if W.contains k then s else match s with
    | .own d => .val d
    | s => s) :: demoteOff W (k + 1) ρ
theorem demoteOff_get (W : List Nat) : ∀ (ρ : En) (k j : Nat), (demoteOff W k ρ)[j]? = ρ[j]?.map fun s => if W.contains (k + j) then s else match s with
    | .own d => .val d
    | s => s
  | [], _, _ => by simp [demoteOff]
  | s :: ρ, k, 0 => by simp [demoteOff]
  | s :: ρ, k, j + 1 => by
    unfold demoteOff
    rw [List.getElem?_cons_succ, List.getElem?_cons_succ, demoteOff_get W ρ (k + 1) j, Nat.add_assoc, Nat.add_comm 1 j]
/-- behind a loop: the slots of W as the loop left them, the others as they were -/
def restore (W : List Nat) : Nat → En → En → En
  | k, s :: ρ, t :: τ => (if W.contains k then (match t with
    | .val d => if solid d = true then .val d else .unk
    | t => t) else s) :: restore W (k + 1) ρ τ
  | _, _, _ => []
theorem restore_get (W : List Nat) : ∀ (ρ τ : En) (k j : Nat) (s t : Sl), ρ[j]? = some s → τ[j]? = some t → (restore W k ρ τ)[j]? = some (if W.contains (k + j) then (match t with
    | .val d => if solid d = true then .val d else .unk
    | t => t) else s)
  | [], _, _, _, _, _, h, _ => by simp at h
  | _ :: _, [], _, _, _, _, _, h => by simp at h
  | s0 :: ρ, t0 :: τ, k, 0, s, t, h, h' => by
    cases h; cases h'
    simp [restore]
  | s0 :: ρ, t0 :: τ, k, j + 1, s, t, h, h' => by
    unfold restore
    rw [List.getElem?_cons_succ, restore_get W ρ τ (k + 1) j s t (by simpa using h) (by simpa using h'), Nat.add_assoc, Nat.add_comm 1 j]
theorem restore_len (W : List Nat) : ∀ (ρ τ : En) (k : Nat), ρ.length = τ.length → (restore W k ρ τ).length = ρ.length
  | [], [], _, _ => rfl
  | [], _ :: _, _, h => by simp at h
  | _ :: _, [], _, h => by simp at h
  | s :: ρ, t :: τ, k, h => by
    unfold restore
    rw [List.length_cons, List.length_cons, restore_len W ρ τ (k + 1) (by simpa using h)]
theorem EnvAt.hideF {c : Zc} {G H : Hp} {ρ : En} {σ : L2.St} {fps : Nat → List Addr} (E : EnvAt c G H ρ σ fps) (F : List Nat) : EnvAt c G H (hide F ρ) σ (fun j => if j ∈ F then [] else fps j) := by
  refine ⟨by rw [hide_length]; exact E.len, E.ext, E.src, fun j sl h => ?_, fun j k hne hj hk ho a ha hb => ?_⟩
  · by_cases hj : j ∈ F
    · rw [hide_in hj h]
      simp only [if_pos hj]
      rfl
    · rw [hide_out hj] at h
      simp only [if_neg hj]
      exact E.ok j sl h
  · rw [hide_length] at hj hk
    by_cases h1 : j ∈ F
    · simp only [if_pos h1] at ha
      cases ha
    · by_cases h2 : k ∈ F
      · simp only [if_pos h2] at hb
        cases hb
      · simp only [if_neg h1] at ha
        simp only [if_neg h2] at hb
        rw [hide_out h1] at ho
        exact E.sep j k hne hj hk ho a ha hb
def forD (mg : DMg) (mb : DMS) (F : List Nat) (R : DEnds) : List D → En → Prop
  | [], ρ => R.nx ρ
  | x :: xs, ρ => mg x ρ fun ρ1 => mb ρ1 ⟨fun ρ' => forD mg mb F R xs (hide F ρ'), R.rt, fun ρ' => R.nx (hide F ρ'), fun ρ' => forD mg mb F R xs (hide F ρ')⟩
def sFor (mi : DMs) (mg : DMg) (mb : DMS) (W F : List Nat) : DMS := fun ρ R => mi ρ fun xs => forD mg mb F ⟨fun ρ' => R.nx (restore W 0 ρ ρ'), R.rt, fun _ => False, fun _ => False⟩ xs (hide F (demoteOff W 0 ρ))
open Classical in
/-- all but the own objects of W's slots is held fast -/
noncomputable def pin (c : Zc) (H : Hp) (ρ : En) (fps : Nat → List Addr) (W : List Nat) : Hp := fun a => if (∃ i ∈ W, i < ρ.length ∧ isOwn ρ[i]? ∧ a ∈ fps i) ∨ c.has a then none else H a
theorem pin_some {c : Zc} {H : Hp} {ρ : En} {fps : Nat → List Addr} {W : List Nat} {a : Addr} {o : HO} (h : H a = some o) (hw : ∀ i ∈ W, i < ρ.length → isOwn ρ[i]? → a ∉ fps i) (n : ¬ c.has a) : pin c H ρ fps W a = some o := by
  unfold pin
  rw [if_neg]
  · exact h
  · rintro (⟨i, hi, hl, ho, ha⟩ | z)
    · exact hw i hi hl ho ha
    · exact n z
theorem pin_own {c : Zc} {H : Hp} {ρ : En} {fps : Nat → List Addr} {W : List Nat} {a : Addr} {i : Nat} (hi : i ∈ W) (hl : i < ρ.length) (ho : isOwn ρ[i]?) (ha : a ∈ fps i) : pin c H ρ fps W a = none := by
  unfold pin
  rw [if_pos (.inl ⟨i, hi, hl, ho, ha⟩)]
theorem pin_le {c : Zc} {H : Hp} {ρ : En} {fps : Nat → List Addr} {W : List Nat} : ∀ a o, pin c H ρ fps W a = some o → H a = some o := fun a o h => by
  unfold pin at h
  split at h
  · cases h
  · exact h
theorem EnvAt.enter {c : Zc} {G H : Hp} {ρ : En} {σ : L2.St} {fps : Nat → List Addr} (E : EnvAt c G H ρ σ fps) (W : List Nat) : EnvAt c (pin c H ρ fps W) H (demoteOff W 0 ρ) σ fps := by
  have len : (demoteOff W 0 ρ).length = ρ.length := by
    have h := demoteOff_get W ρ 0
    apply Nat.le_antisymm
    · refine Nat.le_of_not_lt fun z => ?_
      have := h ρ.length
      rw [List.getElem?_eq_getElem z, List.getElem?_eq_none (Nat.le_refl _)] at this
      cases this
    · refine Nat.le_of_not_lt fun z => ?_
      have := h (demoteOff W 0 ρ).length
      rw [List.getElem?_eq_none (Nat.le_refl _), List.getElem?_eq_getElem z] at this
      cases this
  have own : ∀ j, isOwn (demoteOff W 0 ρ)[j]? → isOwn ρ[j]? ∧ j ∈ W := fun j ho => by
    rw [demoteOff_get, Nat.zero_add] at ho
    cases hs : ρ[j]? with
    | none => rw [hs] at ho; exact ho.elim
    | some s =>
      rw [hs] at ho
      by_cases hw : W.contains j = true
      · simp only [Option.map_some, hw, if_true] at ho
        exact ⟨ho, by simpa using hw⟩
      · exfalso
        rw [Option.map_some, if_neg hw] at ho
        cases s <;> exact ho
  refine ⟨by rw [len]; exact E.len, fun a o h _ => pin_le a o h, E.src, fun j sl h => ?_, fun j k hne hj hk ho => ?_⟩
  · rw [demoteOff_get, Nat.zero_add] at h
    cases hs : ρ[j]? with
    | none => rw [hs] at h; cases h
    | some s =>
      rw [hs, Option.map_some] at h
      have ok := E.ok j s hs
      have hl : j < ρ.length := (List.getElem?_eq_some_iff.mp hs).1
      by_cases hw : W.contains j = true
      · rw [if_pos hw] at h
        cases h
        cases sl with
        | unk => exact ok
        | val d => exact ok
        | own d =>
          obtain ⟨v, a1, a2, a3, a4, a5⟩ := ok
          exact ⟨v, a1, a2, a3, a4, fun a ha => pin_own (by simpa using hw) hl (by rw [hs]; trivial) ha⟩
      · rw [if_neg hw] at h
        cases s with
        | unk => cases h; exact ok
        | val d => cases h; exact ok
        | own d => cases h; obtain ⟨v, a1, a2, a3, _⟩ := ok; exact ⟨v, a1, a2, a3⟩
  · rw [len] at hj hk
    exact E.sep j k hne hj hk (own j ho).1
theorem EnvAt.leave {c : Zc} {G H H' : Hp} {ρ ρ' : En} {σ σ' : L2.St} {fps fps' : Nat → List Addr} {W : List Nat} (E : EnvAt c G H ρ σ fps) (E' : EnvAt c (pin c H ρ fps W) H' ρ' σ' fps') (o : Off W σ σ') :
    ∃ fps2, EnvAt c G H' (restore W 0 ρ ρ') σ' fps2 := by
  have hl : ρ.length = ρ'.length := by rw [← E.len, ← E'.len, o.len]
  have gH : ∀ a u, G a = some u → ¬ c.has a → pin c H ρ fps W a = some u := fun a u h n => pin_some (E.ext a u h n) (fun i _ hil ho ha => by
    cases hs : ρ[i]? with
    | none => rw [hs] at ho; exact ho
    | some s =>
      rw [hs] at ho
      cases s with
      | own d =>
        obtain ⟨_, _, _, _, _, g⟩ := E.ok i _ hs
        rw [g a ha] at h
        cases h
      | _ => exact ho) n
  have pinned : ∀ j, j < ρ.length → j ∉ W → ∀ a ∈ fps j, pin c H ρ fps W a = H a := fun j hj hw a ha => by
    obtain ⟨u, hu, _⟩ := E.thereAt hj a ha
    rw [hu]
    exact pin_some hu (fun i hi hil ho hia => E.sep i j (fun z => hw (z ▸ hi)) hil hj ho a hia ha) (E.noS hj a ha)
  have stay : ∀ j, j < ρ.length → j ∉ W → ∀ a ∈ fps j, H' a = H a := fun j hj hw a ha => by
    obtain ⟨u, hu, _⟩ := E.thereAt hj a ha
    rw [hu]
    exact E'.ext a u (by rw [pinned j hj hw a ha]; exact hu) (E.noS hj a ha)
  have tk : Tk H H' := fun a u hu hf => E'.ext a u (pin_some hu (fun i _ hil _ ha => by
    obtain ⟨u', hu', hf'⟩ := E.thereAt hil a ha
    rw [hu] at hu'
    cases hu'
    exact hf' hf) (E.src.not_fix hu hf)) (E.src.not_fix hu hf)
  let fps2 : Nat → List Addr := fun j => if W.contains j then (match ρ'[j]? with
    | some (.own _) => fps' j
    | _ => []) else fps j
  have ownW : ∀ j s, ρ'[j]? = some s → W.contains j = true → ∀ a ∈ fps2 j, isOwn (some s) ∧ a ∈ fps' j := fun j s hs hw a ha => by
    simp only [fps2, hw, if_true, hs] at ha
    cases s with
    | own d => exact ⟨trivial, ha⟩
    | _ => cases ha
  refine ⟨fps2, by rw [restore_len W ρ ρ' 0 hl, hl]; exact E'.len, fun a u h n => E'.ext a u (gH a u h n) n, E'.src, fun j sl h => ?_, fun j k hne hj hk ho a ha hb => ?_⟩
  · have hjl : j < ρ.length := by
      have := (List.getElem?_eq_some_iff.mp h).1
      rw [restore_len W ρ ρ' 0 hl] at this
      exact this
    have e1 := List.getElem?_eq_getElem hjl
    have e2 := List.getElem?_eq_getElem (show j < ρ'.length by rw [← hl]; exact hjl)
    rw [restore_get W ρ ρ' 0 j _ _ e1 e2, Nat.zero_add] at h
    by_cases hw : W.contains j = true
    · rw [if_pos hw] at h
      have ok := E'.ok j _ e2
      cases hs : ρ'[j]'(by rw [← hl]; exact hjl) with
      | unk =>
        rw [hs] at h e2
        cases h
        simp only [fps2, hw, if_true, e2]
        rfl
      | val d =>
        rw [hs] at h e2 ok
        simp only [fps2, hw, if_true, e2]
        obtain ⟨v, a1, a2, a3⟩ := ok
        by_cases hsd : solid d = true
        · simp only [hsd, if_true] at h
          cases h
          have z := a2.solid _ _ _ hsd
          rw [z] at a2 a3
          exact ⟨v, a1, a2, a3⟩
        · simp only [if_neg hsd] at h
          cases h
          rfl
      | own d =>
        rw [hs] at h e2 ok
        cases h
        simp only [fps2, hw, if_true, e2]
        obtain ⟨v, a1, a2, a3, a4, a5⟩ := ok
        refine ⟨v, a1, a2, a3, a4, fun a ha => ?_⟩
        cases hg : G a with
        | none => rfl
        | some u =>
          have := gH a u hg (a3 a ha)
          rw [a5 a ha] at this
          cases this
    · rw [if_neg hw] at h
      cases h
      simp only [fps2, if_neg hw]
      have hjW : j ∉ W := by simpa using hw
      have ok := E.ok j _ e1
      have st := stay j hjl hjW
      rw [o.off j hjW]
      cases hs : ρ[j] with
      | unk => rw [hs] at ok; exact ok
      | val d => rw [hs] at ok; obtain ⟨v, a1, a2, a3⟩ := ok; exact ⟨v, a1, a2.mono tk _ _ _ st, a3⟩
      | own d => rw [hs] at ok; obtain ⟨v, a1, a2, a3⟩ := ok; exact ⟨v, a1, a2.mono tk _ _ _ st, a3⟩
  · rw [restore_len W ρ ρ' 0 hl] at hj hk
    have e1 := List.getElem?_eq_getElem hj
    have e2 := List.getElem?_eq_getElem (show j < ρ'.length by rw [← hl]; exact hj)
    have k1 := List.getElem?_eq_getElem hk
    have k2 := List.getElem?_eq_getElem (show k < ρ'.length by rw [← hl]; exact hk)
    rw [restore_get W ρ ρ' 0 j _ _ e1 e2, Nat.zero_add] at ho
    by_cases hw : W.contains j = true
    · obtain ⟨z1, z2⟩ := ownW j _ e2 hw a ha
      by_cases hwk : W.contains k = true
      · obtain ⟨_, z4⟩ := ownW k _ k2 hwk a hb
        exact E'.sep j k hne (by rw [← hl]; exact hj) (by rw [← hl]; exact hk) (by rw [e2]; exact z1) a z2 z4
      · simp only [fps2, if_neg hwk] at hb
        have hkW : k ∉ W := by simpa using hwk
        have ok := E'.ok j _ e2
        cases hs : ρ'[j]'(by rw [← hl]; exact hj) with
        | own d =>
          rw [hs] at ok
          obtain ⟨_, _, _, _, _, a5⟩ := ok
          have := a5 a z2
          rw [pinned k hk hkW a hb] at this
          obtain ⟨u, hu, _⟩ := E.thereAt hk a hb
          rw [hu] at this
          cases this
        | unk => rw [hs] at z1; exact z1
        | val d => rw [hs] at z1; exact z1
    · simp only [fps2, if_neg hw] at ha
      rw [if_neg hw] at ho
      have hjW : j ∉ W := by simpa using hw
      have hoj : isOwn ρ[j]? := by rw [e1]; exact ho
      by_cases hwk : W.contains k = true
      · obtain ⟨z3, z4⟩ := ownW k _ k2 hwk a hb
        have ok := E'.ok k _ k2
        cases hs : ρ'[k]'(by rw [← hl]; exact hk) with
        | own d =>
          rw [hs] at ok
          obtain ⟨_, _, _, _, _, a5⟩ := ok
          have := a5 a z4
          rw [pinned j hj hjW a ha] at this
          obtain ⟨u, hu, _⟩ := E.thereAt hj a ha
          rw [hu] at this
          cases this
        | unk => rw [hs] at z3; exact z3
        | val d => rw [hs] at z3; exact z3
      · simp only [fps2, if_neg hwk] at hb
        exact E.sep j k hne hj hk hoj a ha hb
theorem ds_for {wi : TI} {g : TG} {tb : TS} {mi : DMs} {mg : DMg} {mb : DMS} {U Wg Wb F : List Nat} {w : Bool} (hi : DI w K S wi mi U) (hg : DG w K S g mg Wg) (hb : DS K S tb mb Wb) (hU : U.all (fun u => !(Wg ++ Wb).contains u) = true) :
    DS K S (tFor wi g tb) (sFor mi mg mb (Wg ++ Wb) F) (Wg ++ Wb) := fun G H ρ σ fps E R hm D d =>
  hi G H ρ σ fps E _ hm _ fun xs J H1 FP hR e1 s1 J1 nF tF fF => by
    have E1 := E.step e1 s1
    have FPin : ∀ a ∈ FP, ∀ i, i ∈ Wg ++ Wb → i < ρ.length → isOwn ρ[i]? → a ∉ fps i := fun a ha i hiW hil ho hia => by
      rcases fF.1 a ha with z | ⟨u, hu, hul, z⟩
      · obtain ⟨o, ho', _⟩ := E.thereAt hil a hia
        rw [z] at ho'
        cases ho'
      · have hx := List.all_eq_true.mp hU u hu
        have hne : i ≠ u := fun q => by
          subst q
          have : (Wg ++ Wb).contains i = true := by simpa using hiW
          rw [this] at hx
          cases hx
        exact E.sep i u hne hil hul ho a hia z
    let Pv : Nat → L2.St → Hp → Prop := fun i σ' H' => ∃ (ρ' : En) (fps' : Nat → List Addr), EnvAt ⟨K, S⟩ (pin ⟨K, S⟩ H1 ρ fps (Wg ++ Wb)) H' ρ' σ' fps' ∧ Off (Wg ++ Wb) σ σ' ∧
      forD mg mb F ⟨fun ρ' => R.nx (restore (Wg ++ Wb) 0 ρ ρ'), R.rt, fun _ => False, fun _ => False⟩ (xs.drop i) ρ'
    have fin : ∀ (ρ' : En) (σ' : L2.St) (H' : Hp) (fps' : Nat → List Addr), R.nx (restore (Wg ++ Wb) 0 ρ ρ') → EnvAt ⟨K, S⟩ (pin ⟨K, S⟩ H1 ρ fps (Wg ++ Wb)) H' ρ' σ' fps' → Off (Wg ++ Wb) σ σ' → D.nx σ' H' := fun ρ' σ' H' fps' hn E' o => by
      obtain ⟨fps2, E2⟩ := E1.leave E' o
      exact d.nx _ σ' H' fps2 hn E2 o
    have rtk : ∀ x v H' fp, R.rt x → Ext ⟨K, S⟩ (pin ⟨K, S⟩ H1 ρ fps (Wg ++ Wb)) H' → SrcAt ⟨K, S⟩ H' → Rp ⟨K, S⟩ H' x v fp → NoS ⟨K, S⟩ fp → fp.Nodup → (∀ a ∈ fp, pin ⟨K, S⟩ H1 ρ fps (Wg ++ Wb) a = none) → D.rt v H' := fun x v H' fp hr xe se r n nd fr => by
      have gp : ∀ a u, G a = some u → ¬ Zc.has ⟨K, S⟩ a → pin ⟨K, S⟩ H1 ρ fps (Wg ++ Wb) a = some u := fun a u h nn => pin_some (E1.ext a u h nn) (fun i _ hil ho ha => by
        cases hs : ρ[i]? with
        | none => rw [hs] at ho; exact ho
        | some s =>
          rw [hs] at ho
          cases s with
          | own d =>
            obtain ⟨_, _, _, _, _, g⟩ := E.ok i _ hs
            rw [g a ha] at h
            cases h
          | _ => exact ho) nn
      refine d.rt x v H' fp hr (fun a u h nn => xe a u (gp a u h nn) nn) se r n nd fun a ha => ?_
      cases hg' : G a with
      | none => rfl
      | some u =>
        have := gp a u hg' (n a ha)
        rw [fr a ha] at this
        cases this
    refine for_it J1 Pv ⟨hide F (demoteOff (Wg ++ Wb) 0 ρ), _, (E1.enter (Wg ++ Wb)).hideF F, .refl _ _, hR⟩ (fun i σ' H' _ p => ?_) (fun i x σ' H' H'' hlt p y => ?_) fun σ' H' p => ?_
    · obtain ⟨ρ', fps', E', o, _⟩ := p
      refine ⟨fun a u hu hf => E'.ext a u (pin_some hu (fun i _ hil _ ha => ?_) (s1.not_fix hu hf)) (s1.not_fix hu hf), fun a ha => ?_, E'.src⟩
      · obtain ⟨u', hu', hf'⟩ := E1.thereAt hil a ha
        rw [hu] at hu'
        cases hu'
        exact hf' hf
      · obtain ⟨u, hu⟩ := tF a ha
        rw [hu]
        exact E'.ext a u (pin_some hu (FPin a ha) (nF a ha)) (nF a ha)
    · obtain ⟨ρ', fps', E', o, hf⟩ := p
      obtain ⟨y1, sy, dd, fp, hd, rd, subd⟩ := y
      have hdrop : xs.drop i = dd :: xs.drop (i + 1) := by
        obtain ⟨hlt', hd'⟩ := List.getElem?_eq_some_iff.mp hd
        rw [← hd']
        exact List.drop_eq_getElem_cons hlt'
      rw [hdrop] at hf
      have E2 := E'.step y1 sy
      refine hg _ H'' ρ' σ' fps' E2 dd x fp rd (fun a ha => nF a (subd a ha)) (fun j hj ho a ha hb' => ?_) _ hf _ fun ρ2 σ2 fps2 hR2 E3 g3 => ?_
      · -- an own slot's objects are not held fast
        cases hs : ρ'[j]? with
        | none => rw [hs] at ho; exact ho
        | some s =>
          rw [hs] at ho
          cases s with
          | own dj =>
            obtain ⟨_, _, _, _, _, g⟩ := E'.ok j _ hs
            obtain ⟨u, hu⟩ := tF a (subd a hb')
            have := pin_some (ρ := ρ) (fps := fps) (W := Wg ++ Wb) hu (FPin a (subd a hb')) (nF a (subd a hb'))
            rw [g a ha] at this
            cases this
          | _ => exact ho
      · have o2 : Off (Wg ++ Wb) σ σ2 := o.join ⟨by rw [E3.len, g3.len, E'.len], fun j hj => (g3.off j fun z => hj (List.mem_append_left _ z)).1⟩
        have step : ∀ (ρ4 : En) (σ4 : L2.St) (H4 : Hp) (fps4 : Nat → List Addr), forD mg mb F ⟨fun ρ' => R.nx (restore (Wg ++ Wb) 0 ρ ρ'), R.rt, fun _ => False, fun _ => False⟩ (xs.drop (i + 1)) (hide F ρ4) →
            EnvAt ⟨K, S⟩ (pin ⟨K, S⟩ H1 ρ fps (Wg ++ Wb)) H4 ρ4 σ4 fps4 → Off Wb σ2 σ4 → Pv (i + 1) σ4 H4 := fun ρ4 σ4 H4 fps4 h4 E4 o4 =>
          ⟨hide F ρ4, _, E4.hideF F, o2.join (o4.up fun j h => List.mem_append_right _ h), h4⟩
        exact hb _ H'' ρ2 σ2 fps2 E3 _ hR2 _ ⟨step, fun ρ4 σ4 H4 fps4 h4 E4 o4 => fin (hide F ρ4) σ4 H4 _ h4 (E4.hideF F) (o2.join (o4.up fun j h => List.mem_append_right _ h)), step, rtk⟩
    · obtain ⟨ρ', fps', E', o, hf⟩ := p
      rw [List.drop_eq_nil_of_le (Nat.le_refl _)] at hf
      exact fin ρ' σ' H' fps' hf E' o
/-! ### while -/
/-- I: what holds ahead of each turn, and a number that falls -/
def sWhile (mc : DMt) (mb : DMS) (F : List Nat) : DMS := fun ρ R => ∃ I : Nat → En → Prop, (∃ m, I m ρ) ∧ ∀ m ρ', I m ρ' → mc ρ' fun b =>
  cond b (mb ρ' ⟨fun ρ2 => ∃ m', m' < m ∧ I m' (hide F ρ2), R.rt, fun ρ2 => R.nx (hide F ρ2), fun ρ2 => ∃ m', m' < m ∧ I m' (hide F ρ2)⟩) (R.nx ρ')
theorem ds_while {c : TT} {tb : TS} {mc : DMt} {mb : DMS} {W F : List Nat} (hc : DT K S c mc) (hb : DS K S tb mb W) : DS K S (tWhile c tb) (sWhile mc mb F) W := fun G H ρ σ fps E R hm D d => by
  obtain ⟨I, ⟨m0, h0⟩, hI⟩ := hm
  refine ⟨fun m σ' H' => ∃ (ρ' : En) (fps' : Nat → List Addr), EnvAt ⟨K, S⟩ G H' ρ' σ' fps' ∧ Off W σ σ' ∧ I m ρ', ⟨m0, ρ, fps, E, .refl _ _, h0⟩, ?_⟩
  rintro m σ' H' ⟨ρ', fps', E', o, hm⟩
  refine hc G H' ρ' σ' fps' E' _ (hI m ρ' hm) _ fun b H1 hb' e1 s1 => ?_
  have E1 := E'.step e1 s1
  cases b with
  | false => exact iteF (d.nx ρ' σ' H1 fps' hb' E1 o)
  | true =>
    refine iteT ⟨fun σ2 H2 => ∃ m', m' < m ∧ ∃ (ρ2 : En) (fps2 : Nat → List Addr), EnvAt ⟨K, S⟩ G H2 ρ2 σ2 fps2 ∧ Off W σ σ2 ∧ I m' ρ2, fun σ2 H2 h => h, ?_⟩
    have step : ∀ (ρ4 : En) (σ4 : L2.St) (H4 : Hp) (fps4 : Nat → List Addr), (∃ m', m' < m ∧ I m' (hide F ρ4)) → EnvAt ⟨K, S⟩ G H4 ρ4 σ4 fps4 → Off W σ' σ4 → ∃ m', m' < m ∧ ∃ (ρ2 : En) (fps2 : Nat → List Addr), EnvAt ⟨K, S⟩ G H4 ρ2 σ4 fps2 ∧ Off W σ σ4 ∧ I m' ρ2 :=
      fun ρ4 σ4 H4 fps4 ⟨m', hlt, hi⟩ E4 o4 => ⟨m', hlt, hide F ρ4, _, E4.hideF F, o.join o4, hi⟩
    exact hb G H1 ρ' σ' fps' E1 _ hb' _ ⟨step, fun ρ4 σ4 H4 fps4 h4 E4 o4 => d.nx _ σ4 H4 _ h4 (E4.hideF F) (o.join o4), step, d.rt⟩
/-! ### defs -/
/-- a promise over data: for the data ds, whatever R holds of all that spec tells, R holds of what is handed back; nothing that stood is changed -/
def spD (K : PySem.W.Frag) (spec : List D → (D → Prop) → Prop) : Sp := fun vs H Q _ => ∃ (S : Option (Addr × Addr)) (ds : List D) (fp : List Addr) (R : D → Prop), Rps ⟨K, S⟩ H ds vs fp ∧ NoS ⟨K, S⟩ fp ∧ SrcAt ⟨K, S⟩ H ∧ spec ds R ∧
  ∀ d v H' gp, R d → Ext ⟨K, S⟩ H H' → SrcAt ⟨K, S⟩ H' → Rp ⟨K, S⟩ H' d v gp → NoS ⟨K, S⟩ gp → gp.Nodup → (∀ a ∈ gp, H a = none) → Q v H'
theorem de_call {spec : List D → (D → Prop) → Prop} {E : XK} {t : TA} {ms : DMs} {U : List Nat} (h : DA K S t ms U) : DE K S (tCall (spD K spec) [] E t) (dCall spec ms) [] := fun G H ρ σ fps En R hm Q q =>
  h G H ρ σ fps En _ hm _ fun ds vs H1 fp hR e1 s1 r n f => by
    rw [List.append_nil]
    exact ⟨S, ds, fp, R, r, n, s1, hR, fun d v H' gp hd e2 s2 r2 n2 nd fr => q d v H' gp hd (e1.trans e2) s2 r2 n2 (.fresh (fun a ha => e1.free (fr a ha) (n2 a ha)) nd)⟩
theorem spD_len {spec : List D → (D → Prop) → Prop} {n : Nat} (hs : ∀ ds R, spec ds R → ds.length = n) : ∀ vs H Q E, spD K spec vs H Q E → vs.length = n := fun vs H Q E h => by
  obtain ⟨S, ds, fp, R, r, _, _, hsp, _⟩ := h
  rw [r.len]
  exact hs ds R hsp
/-- the slots at a def's start -/
def startE (N : List Str) (ds : List D) : En := ds.map Sl.val ++ List.replicate (N.length - ds.length) .unk
theorem envStart {c : Zc} {H : Hp} {ds : List D} {vs : List V} {fp : List Addr} (N : List Str) (r : Rps c H ds vs fp) (n : NoS c fp) (s : SrcAt c H) : ∃ fps, EnvAt c H H (startE N ds) (L2.start N vs) fps := by
  have pick : ∀ i : Nat, ∃ gp : List Addr, ∀ d, ds[i]? = some d → ∃ v, vs[i]? = some v ∧ Rp c H d v gp ∧ NoS c gp := fun i => by
    cases h : ds[i]? with
    | none => exact ⟨[], fun d z => by cases z⟩
    | some d =>
      obtain ⟨x, gp, e1, e2, e3, _⟩ := r.at h
      exact ⟨gp, fun d' z => by cases z; exact ⟨x, e1, e2, fun a ha => n a (e3 a ha)⟩⟩
  refine ⟨fun i => if i < ds.length then Classical.choose (pick i) else [], by simp [startE, L2.start, r.len], Ext.refl _ _, s, fun i sl h => ?_, fun i j _ _ _ ho => ?_⟩
  · unfold startE at h
    by_cases hi : i < ds.length
    · rw [List.getElem?_append_left (by simpa using hi), List.getElem?_map, List.getElem?_eq_getElem hi] at h
      cases h
      simp only [if_pos hi]
      obtain ⟨v, e1, e2, e3⟩ := Classical.choose_spec (pick i) _ (List.getElem?_eq_getElem hi)
      refine ⟨v, ?_, e2, e3⟩
      unfold L2.start
      rw [List.getElem?_append_left (by simp only [List.length_map]; rw [r.len]; exact hi), List.getElem?_map, e1]
      rfl
    · rw [List.getElem?_append_right (by simpa using Nat.le_of_not_lt hi)] at h
      have hx := List.mem_of_getElem? h
      rw [List.eq_of_mem_replicate hx]
      simp only [if_neg hi]
      rfl
  · exfalso
    unfold startE at ho
    by_cases hi : i < ds.length
    · rw [List.getElem?_append_left (by simpa using hi), List.getElem?_map, List.getElem?_eq_getElem hi] at ho
      exact ho
    · rw [List.getElem?_append_right (by simpa using Nat.le_of_not_lt hi)] at ho
      cases hx : (List.replicate (N.length - ds.length) Sl.unk)[i - (ds.map Sl.val).length]? with
      | none => rw [hx] at ho; exact ho
      | some s =>
        have := List.eq_of_mem_replicate (List.mem_of_getElem? hx)
        rw [hx, this] at ho
        exact ho
/-- what a def's body is to give -/
def retE (R : D → Prop) : DEnds := { nx := fun _ => R .none, rt := R }
theorem body_of {X : Cx} {body : List Stmt} {t : TS} {m : Option (Addr × Addr) → DMS} {W : List Nat} {spec : List D → (D → Prop) → Prop} {vs : List V} {H : Hp} {Q : VK} {E : XK} (N : List Str) (hp : PSs X body t) (hs : ∀ S, DS K S t (m S) W) (h : spD K spec vs H Q E)
    (hm : ∀ S ds R, spec ds R → m S (startE N ds) (retE R)) : ∃ t, PSs X body t ∧ t { nx := fun _ H' => Q .non H', rt := Q } (L2.start N vs) H := by
  obtain ⟨S, ds, fp, R, r, n, s, hsp, q⟩ := h
  obtain ⟨fps, E0⟩ := envStart N r n s
  refine ⟨t, hp, hs S H H _ _ fps E0 _ (hm S ds R hsp) _ ⟨fun ρ' σ' H' f hn E' _ => q .none .non H' [] hn E'.ext E'.src (non_rp H') .nil List.nodup_nil (fun a h => nomatch h), fun _ _ _ _ h => False.elim h, fun _ _ _ _ h => False.elim h, fun d v H' gp hd e s' r' n' nd fr => q d v H' gp hd e s' r' n' nd fr⟩⟩
end
end Z
set_option Elab.async false
set_option linter.all false
set_option maxRecDepth 100000
set_option maxHeartbeats 4000000
/-! Z5: rules by values: enumerate of tuples, == of data, repr of data. -/
namespace Z
open PySem L2
/-! ### enumerate(tuple) -/
theorem meets_enum1 {v : Value} {o : Obj} {B : Heap → Prop} (b : Begins v o B) :
    Meets (Builtin.«enumerate.__new__» ⟨[.type "enumerate", v], []⟩) (fun _ R s => B s.heap ∧
      R (.ok (.ret (.ref (s.heap.push o).objs.size))) { s with heap := (s.heap.push o).push { cls := .type "enumerate", data := .fields #[.none, .bool false, .ref s.heap.objs.size, rawInt 0, .none, .none] } }) :=
  .of_wp fun prog w A R s h => by
    obtain ⟨hp, g, d, tk, os⟩ := s
    obtain ⟨h1, h2⟩ := h
    have hsub := sub_enumerate
    have road : ∀ {A' : Around} {E : Value → Shared → Prop} {Q : Value → Shared → Prop}, Q (.ref hp.objs.size) ⟨hp.push o, g, d, tk, os⟩ → wpAny (model prog w) A' (pyIter v) Q E ⟨hp, g, d, tk, os⟩ := fun q => b.iter prog w _ _ ⟨hp, g, d, tk, os⟩ _ h1 q
    wp_walk using road
    refine wpAny_stack_any fun st => wpAny_pure ?_
    split
    · rename_i c _ _ _ _ _
      cases (c == Value.type "enumerate") <;> (wp_walk using road; exact ⟨_, rfl, h2⟩)
    · wp_walk using road
      exact ⟨_, rfl, h2⟩
theorem enum_starts {prog : Program} {w : World} {A : Around} {E : Value → Shared → Prop} {s : Shared} {v : Value} {o : Obj} {B : Heap → Prop} {Q : Value → Shared → Prop} (b : Begins v o B) (h1 : B s.heap)
    (h : ∀ h', IsEnum h' (s.heap.objs.size + 1) s.heap.objs.size 0 .none → h'.get? s.heap.objs.size = some o → (∀ c u, s.heap.get? c = some u → h'.get? c = some u) → Q (.ref (s.heap.objs.size + 1)) { s with heap := h' }) :
    wpAny (model prog w) A (call (.type "enumerate") [v]) Q E s := by
  refine callType_new F.called_enumerate (by decide) (F.typeCall_enumerate_1 _) (F.newCall_enumerate_1 _) (fun obj => F.args_object_init_2 obj _) F.entry_enumerate_new (meets_enum1 b) ⟨h1, ?_⟩
  have hz : (s.heap.push o).objs.size = s.heap.objs.size + 1 := Heap.size_push ..
  have he : IsEnum ((s.heap.push o).push { cls := .type "enumerate", data := .fields #[.none, .bool false, .ref s.heap.objs.size, rawInt 0, .none, .none] }) (s.heap.objs.size + 1) s.heap.objs.size 0 .none := by
    have x := Heap.get?_push_size (s.heap.push o) (o := { cls := .type "enumerate", data := .fields #[.none, .bool false, .ref s.heap.objs.size, rawInt 0, .none, .none] }) rfl
    rwa [hz] at x
  show _ ∧ _
  rw [hz]
  exact ⟨⟨_, he, rfl⟩, h _ he (Heap.get?_push_of_some _ (Heap.get?_push_size _ b.free)) fun c u x => Heap.get?_push_of_some _ (Heap.get?_push_of_some _ x)⟩
def IteT (K : PySem.W.Frag) (a : Addr) : It :=
  ⟨fun i H => ∃ (xs : List V) (x : V), SqT K H a xs ∧ xs[i]? = some x, fun i H v H' => ∃ T x, v = .ref T ∧ H T = none ∧ H' = upd H T (.tup [.int (i : Nat), x]) ∧ ∀ xs, SqT K H a xs → xs[i]? = some x, fun i H => ∃ xs : List V, SqT K H a xs ∧ xs.length = i⟩
theorem turn_enumT {P : Program} {w : World} {K : PySem.W.Frag} {elts : List Expr} {kk : Nat} {tpos : Pos} (a e it : Addr) :
    Turn P w K (.Tuple elts kk tpos) (IteT K a) [e, it] e (fun i h => (∃ old, IsEnum h e it ((i : Nat) : Int) old) ∧ h.IsTupleIter it a i ∧ e ≠ it ∧ a ≠ it ∧ e ≠ a) where
  mem := List.mem_cons_self ..
  obj := fun i h st b hb => by
    obtain ⟨⟨old, he⟩, ⟨o, ho, _, hd⟩, _⟩ := st
    rcases List.mem_cons.mp hb with z | hb
    · subst z
      exact ⟨_, he, fun v q => by cases q⟩
    · exact ⟨o, (List.mem_singleton.mp hb) ▸ ho, fun v q => by rw [hd] at q; cases q⟩
  keep := fun i h h' st k => by
    obtain ⟨⟨old, he⟩, hi, hr⟩ := st
    exact ⟨⟨old, k e (List.mem_cons_self ..) _ he⟩, hi.at fun o q => k it (List.mem_cons_of_mem _ (List.mem_cons_self ..)) o q, hr⟩
  item := by
    intro X hP hw hK hc i pins s σ H E I hf st hg
    subst hP hw hK
    obtain ⟨⟨old, he⟩, hit, hne, hai, hea⟩ := st
    obtain ⟨xs, x, hq, hx⟩ := hg
    obtain ⟨its, rv, p, hz⟩ := I.tuple hq
    obtain ⟨u, hu, ru⟩ := rv.get hx
    have hel : e < s.heap.objs.size := Heap.lt_size he
    have hil : it < s.heap.objs.size := by obtain ⟨_, q, _⟩ := hit; exact Heap.lt_size q
    have hi : i < its.length := (List.getElem?_eq_some_iff.mp hu).1
    have hd : X.A.in1.handled = none := I.ok.hd hc
    have tup : s.heap.IsTuple a its.toArray := p
    refine wpAny_pyNext_enum_itemC (Draws.tuple hd it a hai its.toArray) he ⟨hit, tup⟩ (by simpa using hi) hne (by simp only [List.mem_cons, List.not_mem_nil, or_false, not_or]; exact ⟨hne, hea⟩) fun y h' tk hy ho hst hT hsz hk => ?_
    have ey : u = y := by
      have h0 : its[i]? = some y := by simpa using hy
      rw [hu] at h0
      exact Option.some.inj h0
    subst ey
    refine ⟨_, rfl, wpAny_letOwnedTupleGo_enum (s := { s with heap := h', toks := tk + 1 }) ho fun h'' he' sb => ?_⟩
    have hT2 : h''.get? s.heap.objs.size = some { cls := .type "tuple", data := .seq #[.int i tk, u] } := (sb.2 _ (Nat.ne_of_gt hel)).trans hT
    have new : ObjOk X.prog X.w (upd H s.heap.objs.size (.tup [.int (i : Nat), x])) h'' s.heap.objs.size (.tup [.int (i : Nat), x]) :=
      ⟨lim_ok (show 2 ≤ 10000000 by decide), [.int i tk, u], .cons ⟨_, rfl⟩ (.cons ru .nil), ⟨_, hT2, rfl, _, rfl⟩⟩
    have I1 : Inv X pins σ (upd H s.heap.objs.size (.tup [.int (i : Nat), x])) { s with heap := h'', toks := tk + 1 } :=
      I.turnedNew (ch := [e, it]) (fun b ob hb q => (sb.2 b fun z => hb (by simp [z])).trans (hk b ob (fun z => hb (by simp [z])) (fun z => hb (by simp [z])) q)) hf (Nat.le_refl _) new
    refine ⟨.ref s.heap.objs.size, _, I1, rfl, ⟨_, x, rfl, I.hok.fresh (Nat.le_refl _), rfl, fun ys hy' => by rw [I.tuple_inj hy' hq]; exact hx⟩, ⟨⟨u, ?_⟩, hst.1.at fun o q => (sb.2 it (Ne.symm hne)).trans q, hne, hai, hea⟩, fun b hb => ?_⟩
    · rw [show ((i + 1 : Nat) : Int) = (i : Int) + 1 by omega]
      exact he'
    · have hlt : b < s.heap.objs.size := by
        rcases List.mem_cons.mp hb with z | hb
        · exact z ▸ hel
        · exact (List.mem_singleton.mp hb) ▸ hil
      rw [upd_ne (Nat.ne_of_lt hlt)]
      exact (hf b hb).1
  done := by
    intro X hP hw hK hc i pins s σ H E I hf st hg
    subst hP hw hK
    obtain ⟨⟨old, he⟩, hit, hne, hai, hea⟩ := st
    obtain ⟨xs, hq, hx⟩ := hg
    obtain ⟨its, rv, p, hz⟩ := I.tuple hq
    obtain ⟨f0, f1, f2, f3, f4, f5⟩ := hf it (List.mem_cons_of_mem _ (List.mem_cons_self ..))
    have hn : i = its.toArray.size := by rw [← hx, rv.length]; simp
    have hd : X.A.in1.handled = none := I.ok.hd hc
    refine wpAny_pyNext_enum_endD (Draws.tuple hd it a hai its.toArray) he ⟨hn ▸ hit, p⟩ fun h' eb => ⟨rfl, I.turned (t' := s.toks) (fun b o hb q => eb b o hb q) f0 f1 f3 f4 f5⟩
  self := fun A i s Q E st h => by
    obtain ⟨⟨_, he⟩, _⟩ := st
    exact wpAny_pyIter_enum he h
/-- enumerate of a list or a tuple -/
def iEnumS (K : PySem.W.Frag) (ta : TA) : TI := fun σ H R => ta σ H fun vs H1 => ∃ a xs, vs = [.ref a] ∧ ((SqL K H1 a xs ∧ R (Ite K a) H1) ∨ (SqT K H1 a xs ∧ R (IteT K a) H1))
theorem pi_enumS {X : Cx} {e : Expr} {ta : TA} {p pos tpos : Pos} {elts : List Expr} {kk : Nat} (hg : Gl X "enumerate") (hm : X.mg "enumerate" = none) (ha : PA X [e] ta) (hs : starEach [e] X.env = [(false, eval e X.env)] := by rfl) :
    PI X (.Tuple elts kk tpos) (.Call (.Name "enumerate" p) [e] [] pos) (iEnumS X.K ta) := ⟨fun pins s σ H R I h => by
  refine PyProof.Rows.Call_ (ld_blt I hg hm PyProof.Rows.boot_enumerate (PyProof.Rows.callWith_type1 (thn (ha.run pos pins s σ H _ I h) fun us s1 ⟨vs, H1, I1, r1, q1⟩ => ?_) hs rfl))
  obtain ⟨a, xs, rfl, q⟩ := q1
  obtain ⟨u, rfl, ru⟩ := vals1 r1
  cases ru
  have fps : ∀ b ∈ [s1.heap.objs.size + 1, s1.heap.objs.size], FpOk X pins H1 b := fun b hb => by
    have hle : s1.heap.objs.size ≤ b := by
      rcases List.mem_cons.mp hb with z | hb
      · exact z ▸ Nat.le_succ _
      · exact (List.mem_singleton.mp hb) ▸ Nat.le_refl _
    exact I1.fpOk hle (I1.hok.fresh hle)
  rcases q with ⟨hq, q⟩ | ⟨hq, q⟩
  · obtain ⟨its, rv, p', hz⟩ := I1.list hq
    exact call_enumerate_list p'.isList fun h' he hit hsz hk => wpAny_pyIter_enum he ⟨_, [_, _], _, _, H1, rfl, I1.kept (t' := s1.toks) hk, turn_enum a (s1.heap.objs.size + 1) s1.heap.objs.size, ⟨⟨.none, he⟩, hit, Nat.succ_ne_self _⟩, fps, q⟩
  · obtain ⟨its, rv, p', hz⟩ := I1.tuple hq
    have tup : s1.heap.IsTuple a its.toArray := p'
    have hal : a < s1.heap.objs.size := by obtain ⟨o, ho, _⟩ := tup; exact Heap.lt_size ho
    exact enum_starts (begins_tuple a its.toArray) tup fun h' he hit hk => wpAny_pyIter_enum he ⟨_, [_, _], _, _, H1, rfl, I1.kept (t' := s1.toks) hk, turn_enumT a (s1.heap.objs.size + 1) s1.heap.objs.size, ⟨⟨.none, he⟩, ⟨_, hit, rfl, rfl⟩, Nat.succ_ne_self _, Nat.ne_of_lt hal, Nat.ne_of_gt (Nat.lt_succ_of_lt hal)⟩, fps, q⟩⟩
end Z
set_option Elab.async false
set_option linter.all false
set_option maxRecDepth 100000
set_option maxHeartbeats 4000000
/-! Z6: promises where no repr is running around (for repr); the end. -/
namespace Z
open PySem PySem.Spec PyProof.Rows L2
/-- a def's promise, called where no repr runs -/
structure FnG (P : Program) (w : World) (K : PySem.W.Frag) (mg : Str → Option Value) (base : Heap) (k : Nat) (f : Addr) (fd : FuncData) (ps : List Str) (sp : Sp) : Prop where
  len : ∀ vs H Q E, sp vs H Q E → vs.length = ps.length
  run : ∀ (A : Around) (outer : List Env) (s : Shared) (H : Hp) (args : Args) (us : List Value) (vs : List V) (Q : VK) (E : XK), Room k A → A.guards = some [] → Env0 P w K mg base A outer s H → BindsTo s fd args (ps.zip us) → Vals vs us → sp vs H Q E →
    codeAny (model P w) A (.call (.ref f) args) (CR CX0 outer P w H s Q E) s
theorem FnG.mono {P : Program} {w : World} {K : PySem.W.Frag} {mg : Str → Option Value} {base : Heap} {j k : Nat} {f : Addr} {fd : FuncData} {ps : List Str} {sp : Sp} (F : FnG P w K mg base j f fd ps sp) (h : j ≤ k) : FnG P w K mg base k f fd ps sp :=
  ⟨F.len, fun A outer s H args us vs Q E r => F.run A outer s H args us vs Q E (r.mono h)⟩
/-- a name of the module that holds a def with a promise over data -/
structure FnAt (P : Program) (w : World) (K : PySem.W.Frag) (mg : Str → Option Value) (base : Heap) (x : Str) (k : Nat) (n : Nat) (sp : Sp) : Prop where
  ex : ∃ (f : Addr) (fd : FuncData) (ps : List Str), ps.length = n ∧ mg x = some (.ref f) ∧ PySem.W.keepIn K (.ref f) = true ∧ Binds K fd ps [] ∧ FnG P w K mg base k f fd ps sp
section
variable {X : Cx} {k n : Nat} {sp : Sp} {x : Str} {p pos : Pos} {e : Expr} {es : List Expr} {t : TA}
theorem pe_callG (F : FnAt X.prog X.w X.K X.mg X.base x k n sp) (hr : Room k X.A) (hgd : X.A.guards = some []) (hg : Gl X x) (ha : PA X (e :: es) t) (hdb : (x == ("__debug__" : Str)) = false := by decide)
    (he : starEach (e :: es) X.env = (false, eval e X.env) :: starEach es X.env := by rfl) (hpl : (backTo pos (starEach es X.env)).any (·.1) = false := by rfl) : PE X (.Call (.Name x p) (e :: es) [] pos) (tCall sp [] E0 t) := ⟨fun pins s σ H Q I h => by
  obtain ⟨f, fd, ps, _, hm, hk, hb, G⟩ := F.ex
  refine wpAny_Call_Name_kw (ld_glob I hg hm ?_ hdb)
  refine PySem.W.callWith_K (h₀ := X.base) I.ok.mod.kin hk (thn (ha.run pos pins s σ H _ I h) fun us s1 ⟨vs, H1, I1, r, q⟩ => ⟨I1.kIn, ?_⟩) he hpl
  have q : sp vs H1 Q E0 := by
    have q0 : sp (vs ++ []) H1 Q E0 := q
    rwa [List.append_nil] at q0
  have hl : (us ++ []).length = ps.length := by rw [List.append_nil, ← r.length]; exact G.len _ _ _ _ q
  have hb' := hb s1 us I1.kIn hl
  rw [List.append_nil] at hb'
  refine wpAny_call (codeAny_mono (G.run X.A X.stack s1 H1 ⟨us, []⟩ us vs Q E0 hr hgd I1.env0 hb' r q) fun r' s' hq => ?_)
  cases r' with
  | error e => exact False.elim hq
  | ok fl =>
    cases fl with
    | ret u => exact I1.after hq
    | next => exact False.elim hq
    | brk => exact False.elim hq
    | cont => exact False.elim hq⟩
end
section
variable {P : Program} {w : World} {K : PySem.W.Frag} {mg : Str → Option Value} {base : Heap}
/-- a def of the text: its body's reading keeps the promise -/
theorem fnG_of {x qual : Str} {st : Stmt} {f : Addr} {fd : FuncData} {N ps : List Str} {k : Nat} {sp : Sp} (F : Fun K x qual st f fd) (S : FnScope N ps (defScope st)) (len : ∀ vs H Q E, sp vs H Q E → vs.length = ps.length)
    (hbody : ∀ (cdv : Value) (A : Around) (outer : List Env) (s : Shared) (H : Hp) (vs : List V) (Q : VK) (E : XK), Room k (A.deeper (envOfC qual (defScope st) s.heap.objs.size f cdv)) → A.guards = some [] → sp vs H Q E →
      ∃ t, PSs (cxOf CX0 P w K mg base N qual (defScope st) f cdv A outer s H E).nox (defBody st) t ∧ t { nx := fun _ H' => Q .non H', rt := Q } (L2.start N vs) H) : FnG P w K mg base (k + 1) f fd ps sp := by
  obtain ⟨oc, od, kV, doc, pm, an, cdv, ct, osl, rfl, lk, hcd⟩ := F.ex
  refine ⟨len, fun A outer s H args us vs Q E hr hgd e0 hb r hsp => ?_⟩
  have hl := len _ _ _ _ hsp
  have kept : ∀ b o, base.get? b = some o → s.heap.get? b = some o := fun b o e => (e0.bs b o e).1
  have KX : K.In s.heap := e0.mod.kin.keeps kept
  have lim : s.heap.NoLimit := e0.mod.nolimit.keeps kept
  have kinds : ∀ y ∈ ps.zip us, (defScope st).names.lookup y.1 = some .local ∨ ((defScope st).names.lookup y.1 = some .cell ∧ ((cellsFrom (s.heap.objs.size + 1) (defScope st).names []).lookup y.1).isSome = true) := fun y hy =>
    (S.par y.1 (List.of_mem_zip (a := y.1) (b := y.2) hy).1).imp id fun q => ⟨q, PySem.W.cellsFrom_some _ _ _ (.inl q)⟩
  refine codeAny_call_function hr.depth (KX _ _ lk) rfl S.co S.gen rfl (PySem.W.codeRec_of KX hcd) (hb _ _ _ _ (wpAny_newFunctionEnv_cells S.kind kinds fun env he s1 nw => ?_))
  subst he
  refine ⟨lim.keeps nw.toInCall.keep, codeAny_func ?_⟩
  obtain ⟨t, ht, hq⟩ := hbody cdv A outer s H vs Q E (hr.deeper _) hgd hsp
  have I := inv_start (P := P) (w := w) (CX := CX0) (E := E) S hr.hd e0 hl r nw
  refine wpAny_mono (ht.nox.run [] s1 (L2.start N vs) H _ I hq) (fun fl s' hs => ?_) fun e s' hs => hs
  cases fl with
  | ret u =>
    obtain ⟨v, σ', H', J, rv, q⟩ := hs
    exact ⟨v, H', J.os, J.bare, J.base, J.hok, rv, q⟩
  | next =>
    obtain ⟨σ', H', J, q⟩ := hs
    exact ⟨.non, H', J.os, J.bare, J.base, J.hok, rfl, q⟩
  | brk =>
    obtain ⟨_, _, _, q⟩ := hs
    exact False.elim q
  | cont =>
    obtain ⟨_, _, _, q⟩ := hs
    exact False.elim q
theorem fnAt_of {x : Str} {st : Stmt} {f : Addr} {fd : FuncData} {ps : List Str} {k n : Nat} {sp : Sp} (hm : mg x = some (.ref f)) (F : Fun K x x st f fd) (hn : ps.length = n) (hb : Binds K fd ps []) (G : FnG P w K mg base k f fd ps sp) : FnAt P w K mg base x k n sp :=
  ⟨f, fd, ps, hn, hm, F.kp, hb, G⟩
/-! ### the law's own call -/
theorem lawG {k : Nat} {mb : Str → Option Value} {fa a : Addr} {fd : FuncData} {x : Str} {sp : Sp} {s1 : Shared} {vs : List Value} {ns : List Int}
    (KX : K.In s1.heap) (hns : s1.heap.Ns mainGlobals mg) (hb : s1.heap.Ns builtinsNs mb) (hbb : ∀ x : Str, x ≠ "__name__" → mb x = bootBuiltins x) (hlim : s1.heap.NoLimit) (hg : s1.gens = #[])
    (ha : s1.heap.get? a = some { cls := .type "list", data := .seq vs.toArray }) (hi : PyProof.Rows.IntsAre vs ns) (hl : ns.length ≤ sizeLine) (hr : Room k callerA)
    (F : ∀ base : Heap, K.In base → base.Ns mainGlobals mg → FnG P w K mg base k fa fd [x] sp) (hbind : ∀ (s : Shared) (u : Value), BindsTo s fd ⟨[u], []⟩ [(x, u)])
    (hsp : ∀ H : Hp, Only H → SqL K H a (ns.map V.int) → sp [.ref a] H (fun v _ => v = .bl true) fun _ _ _ => False) :
    codeAny (model P w) callerA (.call (.ref fa) ⟨[.ref a], []⟩) (fun r s' => r = .ok (.ret (.bool true)) ∧ OldK s1.heap s'.heap ∧ s'.os = s1.os ∧ AllBare s'.gens) s1 := by
  have rv := vals_ints hi
  have hlen := hi.length
  have core : ∀ H : Hp, Only H → SqL K H a (ns.map V.int) → HOk P w H s1.heap → (∀ b, H b ≠ none → b = a) → (H a ≠ none → K.lookup a = none) →
      codeAny (model P w) callerA (.call (.ref fa) ⟨[.ref a], []⟩) (fun r s' => r = .ok (.ret (.bool true)) ∧ OldK s1.heap s'.heap ∧ s'.os = s1.os ∧ AllBare s'.gens) s1 := by
    intro H hO hS hok hA hK
    have away : ∀ b : Addr, (∀ o, s1.heap.get? b = some o → b = a → False) → (∃ o, s1.heap.get? b = some o) → H b = none := fun b hne ⟨o, ho⟩ => by
      cases q : H b with
      | none => rfl
      | some u => exact (hne o ho (hA b (by rw [q]; exact fun z => nomatch z))).elim
    have dicts : ∀ {b : Addr} {m : Str → Option Value}, s1.heap.Ns b m → (hidT s1.heap H).Ns b m := fun {b m} ⟨o, es, ep, e, d, r⟩ => ⟨o, es, ep, hidT_get e (away b (fun o' h' hba => by
      subst hba
      rw [e] at h'
      cases h'
      rw [ha] at e
      cases e
      exact nomatch (show Data.seq vs.toArray _ = Data.dict es ep from d)) ⟨o, e⟩), d, r⟩
    have hKb : K.In (hidT s1.heap H) := fun b o e => hidT_get (KX b o e) (by
      cases q : H b with
      | none => rfl
      | some u =>
        have hba : b = a := hA b (by rw [q]; exact fun z => nomatch z)
        subst hba
        rw [hK (by rw [q]; exact fun z => nomatch z)] at e
        cases e)
    obtain ⟨mc, n1, n2⟩ := hlim
    have hM : Mod K mg (hidT s1.heap H) := ⟨hKb, dicts hns, ⟨mb, dicts hb, hbb⟩, mc, dicts n1, n2⟩
    have e0 : Env0 P w K mg (hidT s1.heap H) callerA [] s1 H := ⟨rfl, hM, fun b o e => of_hidT e, Nat.le_of_eq (hidT_size _ _), trivial, (fun b hb => nomatch (show b ∈ ([] : List Addr) from hb)), hok, .of_eq hg⟩
    refine codeAny_mono ((F _ hKb (dicts hns)).run callerA [] s1 H ⟨[.ref a], []⟩ [.ref a] [.ref a] _ _ hr rfl e0 (hbind s1 (.ref a)) (.cons rfl .nil) (hsp H hO hS)) fun r s' h => ?_
    cases r with
    | error e => exact False.elim h
    | ok fl =>
      cases fl with
      | next => exact False.elim h
      | brk => exact False.elim h
      | cont => exact False.elim h
      | ret u =>
        obtain ⟨v, H', os, bare, un, hok', r', q⟩ := h
        obtain rfl : v = .bl true := q
        obtain rfl : u = Value.bool true := r'
        refine ⟨rfl, OldK.of_keep fun b o e => ?_, os, bare⟩
        cases q : H b with
        | none => exact un.keep b o e q (fun z => nomatch (show b ∈ ([] : List Addr) from z)) (fun z => nomatch z)
        | some u =>
          rcases hO b with z | ⟨ob, xs, z⟩
          · rw [q] at z; cases z
          · obtain ⟨e1, _⟩ := hok b _ z
            obtain ⟨e2, _⟩ := hok' b _ (un.frzs b ob _ z)
            rw [e] at e1
            cases e1
            exact e2
  cases hk : K.lookup a with
  | some o =>
    have e := KX a o hk
    rw [ha] at e
    cases e
    exact core (fun _ => none) (fun _ => .inl rfl) (.inr ⟨_, vs.toArray, _, hk, rfl, rfl, rfl, by rw [List.size_toArray, hlen]; exact hl, by simpa using rv⟩) (fun b u z => nomatch (show (none : Option HO) = some u from z)) (fun b z => absurd rfl z) fun z => absurd rfl z
  | none =>
    refine core (fun b => if b = a then some (.frz { cls := .type "list", data := .seq vs.toArray } (.lst (ns.map V.int))) else none) (fun b => ?_) (.inl (.inr ⟨_, if_pos rfl⟩)) (fun b u z => ?_) (fun b z => ?_) fun _ => hk
    · by_cases hb : b = a
      · exact .inr ⟨_, _, if_pos hb⟩
      · exact .inl (if_neg hb)
    · by_cases hb : b = a
      · cases (if_pos hb).symm.trans z
        subst hb
        exact ⟨ha, by rw [List.length_map]; exact hl, vs, _, rv, ha⟩
      · cases (if_neg hb).symm.trans z
    · by_cases hb : b = a
      · exact hb
      · exact absurd (if_neg hb) z
end
theorem walkG {l : PySem.W.OpenLaw} {n k : Nat} {q : Program} {loose : List Str} {XP : (Str → Option Value) → Heap → Prop} {YP : World → Heap → Prop} {d : DefRec} {K : Params → PySem.W.Frag} {sp : PySem.W.Frag → Sp} {x : Str}
    (hn : l.most = some n) (hn2 : n ≤ sizeLine) (hdf : d.params.defaults = []) (hr : Room k callerA) (hY : ∀ (w : World) (h : Heap), YP w h → (K w.params).In h)
    (F : ∀ (w : World) (mg : Str → Option Value) (fa : Addr) (h : Heap), (K w.params).In h → h.Ns mainGlobals mg → mg d.name = some (.ref fa) →
      ∃ fd : FuncData, (∀ (s : Shared) (u : Value), BindsTo s fd ⟨[u], []⟩ [(x, u)]) ∧ ∀ base : Heap, (K w.params).In base → base.Ns mainGlobals mg → FnG l.prog w (K w.params) mg base k fa fd [x] (sp (K w.params)))
    (hsp : ∀ (K : PySem.W.Frag) (H : Hp) (a : Addr) (ns : List Int), ns.length ≤ n → Only H → SqL K H a (ns.map V.int) → sp K [.ref a] H (fun v _ => v = .bl true) fun _ _ _ => False) :
    PySem.W.WalkO q loose XP YP l.row.toRowW d [] (fun f vs => PySem.call f vs) :=
  Att.attach_call hn hdf fun w s0 s1 mg mb fa o pm cd doc a vs ns G Y ho hd hcd hmg hobj hints hlen hg => by
    obtain ⟨fd, hb, hF⟩ := F w mg fa _ (hY w _ Y) G.T.g hmg
    exact lawG (hY w _ Y) G.T.g G.T.b G.T.builtins G.T.nolimit hg hobj hints (Nat.le_trans hlen hn2) hr hF hb fun H hO hS => hsp (K w.params) H a ns hlen hO hS
end Z
set_option Elab.async false
set_option linter.all false
set_option maxRecDepth 100000
set_option maxHeartbeats 4000000
/-! Z7: rules over data: ==, repr, index, sum, len, tuple, int, repeat, enumerate. -/
namespace Z
open PySem PySem.Spec PyProof.Rows L2
/-! ### a value that stands for plain data, as the layer's Dp -/
section
variable {c : Zc} {H : Hp}
mutual
theorem Rp.dp : ∀ (d : D) (v : V) (fp : List Addr), Rp c H d v fp → d.plain = true → Dp c.K H v d
  | .none, v, fp, h, _ => by simp only [Rp] at h; rw [h.1]; exact .non
  | .bool b, v, fp, h, _ => by simp only [Rp] at h; rw [h.1]; exact .bl b
  | .int i, v, fp, h, _ => by simp only [Rp] at h; rw [h.1]; exact .int i
  | .str x, v, fp, h, _ => by simp only [Rp] at h; rw [h.1]; exact .str x
  | .list ds, v, fp, h, p => by
    simp only [Rp] at h
    obtain ⟨a, xs, gp, rfl, rfl, h1, h2⟩ := h
    exact .lst (.of h1) (Rps.dp ds xs gp h2 (by simpa only [PyData.plain] using p))
  | .tuple ds, v, fp, h, p => by
    simp only [Rp] at h
    obtain ⟨a, xs, rfl, h1, h2⟩ := h
    exact .tup h1.t (Rps.dp ds xs fp h2 (by simpa only [PyData.plain] using p))
  | .dict kvs, v, fp, h, p => by simp [PyData.plain] at p
theorem Rps.dp : ∀ (ds : List D) (xs : List V) (fp : List Addr), Rps c H ds xs fp → PyData.plainAll ds = true → DpAll c.K H xs ds
  | [], xs, fp, h, _ => by simp only [Rps] at h; rw [h.1]; exact .nil
  | d :: ds, xs, fp, h, p => by
    simp only [Rps] at h
    simp only [PyData.plainAll, Bool.and_eq_true] at p
    obtain ⟨x, ys, f1, f2, rfl, rfl, h1, h2⟩ := h
    exact .cons (Rp.dp d x f1 h1 p.1) (Rps.dp ds ys f2 h2 p.2)
end
end
/-! ### == and != -/
def rEqZ (K : PySem.W.Frag) (neg : Bool) : R2 := fun x y H Q => ∃ d e, Dp K H x d ∧ Dp K H y e ∧ d.plain = true ∧ e.plain = true ∧ min d.depth e.depth ≤ 60 ∧ Q (.bl (if neg then !PyData.eqv d e else PyData.eqv d e)) H
section
variable {X : Cx}
theorem op_eqZ (hu : X.A.units + 64 < cLine) : OpR X (compareOp .Eq) (rEqZ X.K false) := fun pins s σ H x y v u Q I rx ry h => by
  obtain ⟨d, e, hd, he, pd, pe, hz, q⟩ := h
  obtain ⟨as, r1⟩ := Dp.reads I d x v hd rx
  obtain ⟨bs, r2⟩ := Dp.reads I e y u he ry
  exact SeqAt.eq_plain r1 r2 pd pe (by omega) ⟨.bl _, H, I, rfl, q⟩
theorem op_neZ (hu : X.A.units + 64 < cLine) : OpR X (compareOp .NotEq) (rEqZ X.K true) := fun pins s σ H x y v u Q I rx ry h => by
  obtain ⟨d, e, hd, he, pd, pe, hz, q⟩ := h
  obtain ⟨as, r1⟩ := Dp.reads I d x v hd rx
  obtain ⟨bs, r2⟩ := Dp.reads I e y u he ry
  exact SeqAt.ne_plain r1 r2 pd pe (by omega) ⟨.bl _, H, I, rfl, q⟩
end
/-! ### how great a datum is -/
/-- plain, at most k deep, shown by at most w signs -/
structure Ok (k w : Nat) (d : D) : Prop where
  plain : d.plain = true
  depth : d.depth ≤ k
  show' : d.showable = true
  len : d.shown.length ≤ w
theorem Ok.mono {k w k' w' : Nat} {d : D} (h : Ok k w d) (a : k ≤ k') (b : w ≤ w') : Ok k' w' d := ⟨h.plain, Nat.le_trans h.depth a, h.show', Nat.le_trans h.len b⟩
theorem Ok.int {i : Int} (h : i.natAbs < 10 ^ 12) : Ok 0 13 (.int i) := ⟨by simp [PyData.plain, PyData.canLay0], by simp [PyData.depth], by
    simp only [PyData.showable, decide_eq_true_eq]
    exact log2_small (Nat.lt_of_lt_of_le h (by decide)), PyData.shown_int_le h⟩
theorem Ok.bool {b : Bool} : Ok 0 5 (.bool b) := by
  cases b <;> exact ⟨by decide, by decide, by decide, by decide⟩
theorem Ok.none : Ok 0 4 .none := ⟨by decide, by decide, by decide, by decide⟩
theorem plainAll_of : ∀ {ds : List D}, (∀ d ∈ ds, d.plain = true) → PyData.plainAll ds = true
  | [], _ => by simp [PyData.plainAll]
  | d :: ds, h => by
    simp only [PyData.plainAll, Bool.and_eq_true]
    exact ⟨h d (List.mem_cons_self ..), plainAll_of fun e he => h e (List.mem_cons_of_mem _ he)⟩
theorem depthAll_of {k : Nat} : ∀ {ds : List D}, (∀ d ∈ ds, d.depth ≤ k) → PyData.depthAll ds ≤ k
  | [], _ => by simp [PyData.depthAll]
  | d :: ds, h => by
    simp only [PyData.depthAll]
    exact Nat.max_le.mpr ⟨h d (List.mem_cons_self ..), depthAll_of fun e he => h e (List.mem_cons_of_mem _ he)⟩
theorem showableAll_of : ∀ {ds : List D}, (∀ d ∈ ds, d.showable = true) → PyData.showableAll ds = true
  | [], _ => by simp [PyData.showableAll]
  | d :: ds, h => by
    simp only [PyData.showableAll, Bool.and_eq_true]
    exact ⟨h d (List.mem_cons_self ..), showableAll_of fun e he => h e (List.mem_cons_of_mem _ he)⟩
theorem shownAll_map : ∀ ds : List D, PyData.shownAll ds = ds.map PyData.shown
  | [] => by simp [PyData.shownAll]
  | d :: ds => by simp only [PyData.shownAll, List.map_cons, shownAll_map ds]
theorem sum_le {w : Nat} : ∀ {ds : List D}, (∀ d ∈ ds, d.shown.length ≤ w) → ((PyData.shownAll ds).map (·.length)).sum ≤ ds.length * w
  | [], _ => by simp [PyData.shownAll]
  | d :: ds, h => by
    have h1 := h d (List.mem_cons_self ..)
    have h2 := sum_le fun e he => h e (List.mem_cons_of_mem _ he)
    simp only [PyData.shownAll, List.map_cons, List.sum_cons, List.length_cons, Nat.succ_mul]
    omega
theorem Ok.tuple {k w n : Nat} {ds : List D} (h : ∀ d ∈ ds, Ok k w d) (hn : ds.length ≤ n) : Ok (k + 1) (n * (w + 2) + 3) (.tuple ds) := by
  refine ⟨?_, ?_, ?_, ?_⟩
  · simp only [PyData.plain]; exact plainAll_of fun d hd => (h d hd).plain
  · simp only [PyData.depth]
    have := depthAll_of fun d hd => (h d hd).depth
    omega
  · simp only [PyData.showable]; exact showableAll_of fun d hd => (h d hd).show'
  · have h1 := tupleText_len_le (PyData.shownAll ds)
    have h2 := sum_le fun d hd => (h d hd).len
    have h3 : (PyData.shownAll ds).length = ds.length := by rw [shownAll_map, List.length_map]
    have h4 : ds.length * w ≤ n * w := Nat.mul_le_mul_right _ hn
    simp only [PyData.shown]
    rw [Nat.mul_add]
    omega
theorem Ok.list {k w n : Nat} {ds : List D} (h : ∀ d ∈ ds, Ok k w d) (hn : ds.length ≤ n) : Ok (k + 1) (n * (w + 2) + 3) (.list ds) := by
  refine ⟨?_, ?_, ?_, ?_⟩
  · simp only [PyData.plain]; exact plainAll_of fun d hd => (h d hd).plain
  · simp only [PyData.depth]
    have := depthAll_of fun d hd => (h d hd).depth
    omega
  · simp only [PyData.showable]; exact showableAll_of fun d hd => (h d hd).show'
  · have h1 := listText_len_le (PyData.shownAll ds)
    have h2 := sum_le fun d hd => (h d hd).len
    have h3 : (PyData.shownAll ds).length = ds.length := by rw [shownAll_map, List.length_map]
    have h4 : ds.length * w ≤ n * w := Nat.mul_le_mul_right _ hn
    simp only [PyData.shown]
    rw [Nat.mul_add]
    omega
/-! ### repr -/
def rRepr (K : PySem.W.Frag) : List V → Hp → VK → Prop := fun vs H Q => ∃ x d, vs = [x] ∧ Dp K H x d ∧ Ok 40 10000000 d ∧ Q (.str d.shown) H
theorem hasDict_plain : ∀ d : D, d.plain = true → d.hasDict = false := by
  have all : ∀ n : Nat, (∀ d : D, sizeOf d ≤ n → d.plain = true → d.hasDict = false) := by
    intro n
    induction n with
    | zero => intro d hd; cases d <;> simp at hd <;> omega
    | succ n ih =>
      have lst : ∀ xs : List D, sizeOf xs ≤ n → PyData.plainAll xs = true → PyData.hasDictAll xs = false := by
        intro xs
        induction xs with
        | nil => intro _ _; simp [PyData.hasDictAll]
        | cons x xs ihx =>
          intro hs hp
          simp only [List.cons.sizeOf_spec] at hs
          simp only [PyData.plainAll, Bool.and_eq_true] at hp
          simp only [PyData.hasDictAll, ih x (by omega) hp.1, ihx (by omega) hp.2, Bool.or_self]
      intro d hd hp
      cases d with
      | none => simp [PyData.hasDict]
      | bool b => simp [PyData.hasDict]
      | int i => simp [PyData.hasDict]
      | str x => simp [PyData.hasDict]
      | list xs =>
        simp only [PyData.list.sizeOf_spec] at hd
        simp only [PyData.hasDict]
        exact lst xs (by omega) (by simpa only [PyData.plain] using hp)
      | tuple xs =>
        simp only [PyData.tuple.sizeOf_spec] at hd
        simp only [PyData.hasDict]
        exact lst xs (by omega) (by simpa only [PyData.plain] using hp)
      | dict kvs => simp [PyData.plain] at hp
  exact fun d => all (sizeOf d) d (Nat.le_refl _)
theorem cr_repr {X : Cx} (hg : X.A.guards = some []) (hu : X.A.units + 64 < cLine) : CallR X (.builtin "repr") (rRepr X.K) := fun pins s σ H vs us Q I r h => by
  obtain ⟨x, d, rfl, hd, ok, q⟩ := h
  obtain ⟨u, rfl, ru⟩ := vals1 r
  have sz := lim_ok ok.len
  cases hd with
  | non => cases ru; exact P.repr_of_none ⟨.str _, H, I.tok _, ⟨_, rfl⟩, by simpa only [PyData.shown] using q⟩
  | bl b => cases ru; exact P.repr_of_bool ⟨.str _, H, I.tok _, ⟨_, rfl⟩, by simpa only [PyData.shown] using q⟩
  | int i =>
    obtain ⟨t, rfl⟩ := ru
    have hs := ok.show'
    simp only [PyData.showable, decide_eq_true_eq] at hs
    exact P.repr_of_int hs ⟨.str _, H, I.tok _, ⟨_, rfl⟩, by simpa only [PyData.shown] using q⟩
  | str z =>
    obtain ⟨t, rfl⟩ := ru
    exact P.repr_of_str ⟨.str _, H, I.tok _, ⟨_, rfl⟩, by simpa only [PyData.shown] using q⟩ (by simpa only [PyData.shown] using sz)
  | @lst a xs ds hs ha =>
    obtain ⟨as, rr⟩ := Dp.reads I _ _ _ (.lst hs ha) ru
    cases ru
    exact repr_of_reads' rr ok.show' (fun z => by rw [hasDict_plain _ ok.plain] at z; cases z) hg (by have := ok.depth; omega) (fun _ _ e => e) (fun h' u tk hk => ⟨.str _, H, I.kept hk, ⟨_, rfl⟩, q⟩) sz
  | @tup a xs ds hs ha =>
    obtain ⟨as, rr⟩ := Dp.reads I _ _ _ (.tup hs ha) ru
    cases ru
    exact repr_of_reads' rr ok.show' (fun z => by rw [hasDict_plain _ ok.plain] at z; cases z) hg (by have := ok.depth; omega) (fun _ _ e => e) (fun h' u tk hk => ⟨.str _, H, I.kept hk, ⟨_, rfl⟩, q⟩) sz
/-- tuple(list): a known object; tuple(tuple) -/
def rTupF (K : PySem.W.Frag) : List V → Hp → VK → Prop := fun xs H Q => ∃ p ys, xs = [.ref p] ∧ ((SqL K H p ys ∧ ∀ l o, H l = none → o.dict = none → Q (.ref l) (upd H l (.frz o (.tup ys)))) ∨ (SqT K H p ys ∧ Q (.ref p) H))
theorem call_tupF {X : Cx} : CallR X (.type "tuple") (rTupF X.K) := fun pins s σ H vs us Q I r h => by
  obtain ⟨p, ys, rfl, h⟩ := h
  obtain ⟨u, rfl, rx⟩ := vals1 r
  rcases h with ⟨hl, q⟩ | ⟨ht, q⟩
  · cases rx
    obtain ⟨its, rv, pl, hz⟩ := I.list hl
    refine call_tuple_list pl.isList (fun h' kp => ?_) (by rw [List.size_toArray, ← rv.length]; exact hz)
    have J : Inv X pins σ H { s with heap := h' } := I.kept (t' := s.toks) kp
    have e := Heap.get?_push_size h' (o := { cls := .type "tuple", data := .seq its.toArray }) rfl
    exact ⟨.ref h'.objs.size, _, J.laid (t' := s.toks) (o := .frz { cls := .type "tuple", data := .seq its.toArray } (.tup ys)) (fun b o k => Heap.get?_push_of_some _ k) (Nat.le_refl _) ⟨e, hz, its, rv, ⟨_, e, rfl, _, rfl⟩⟩, rfl, q _ _ (J.hok.fresh (Nat.le_refl _)) rfl⟩
  · exact call_tuple_of pins s σ H [.ref p] _ Q I r ⟨p, ys, rfl, .inr ⟨ht, q⟩⟩
/-! ### t * k -/
/-! ### the same over data -/
section
variable {K : PySem.W.Frag} {S : Option (Addr × Addr)}
def fEq (neg : Bool) : D → D → (D → Prop) → Prop := fun x y R => x.plain = true ∧ y.plain = true ∧ min x.depth y.depth ≤ 60 ∧ R (.bool (if neg then !PyData.eqv x y else PyData.eqv x y))
theorem od_eq {neg : Bool} : OpD K S (rEqZ K neg) (fEq neg) := .pure fun H x y d e f1 f2 r1 r2 R hf Q q => by
  obtain ⟨h1, h2, h3, hR⟩ := hf
  exact ⟨d, e, r1.dp _ _ _ h1, r2.dp _ _ _ h2, h1, h2, h3, q _ _ hR bl_rp⟩
def fRepr : List D → (D → Prop) → Prop := fun ds R => match ds with
  | [d] => Ok 40 10000000 d ∧ R (.str d.shown)
  | _ => False
theorem rps_one {c : Zc} {H : Hp} {d : D} {xs : List V} {fp : List Addr} (h : Rps c H [d] xs fp) : ∃ x, xs = [x] ∧ Rp c H d x fp := by
  simp only [Rps] at h
  obtain ⟨x, ys, f1, f2, rfl, rfl, h1, rfl, rfl⟩ := h
  exact ⟨x, rfl, by rwa [List.append_nil]⟩
theorem rps_two {c : Zc} {H : Hp} {d e : D} {xs : List V} {fp : List Addr} (h : Rps c H [d, e] xs fp) : ∃ x y f1 f2, xs = [x, y] ∧ fp = f1 ++ f2 ∧ Rp c H d x f1 ∧ Rp c H e y f2 := by
  simp only [Rps] at h
  obtain ⟨x, ys, f1, f2, rfl, rfl, h1, y, zs, f3, f4, rfl, rfl, h2, rfl, rfl⟩ := h
  exact ⟨x, y, f1, f3, rfl, by rw [List.append_nil], h1, h2⟩
theorem cd_repr : CallD K S (rRepr K) fRepr := .pure fun H xs ds fp r R hf Q q => by
  unfold fRepr at hf
  split at hf
  · rename_i d
    obtain ⟨x, rfl, rx⟩ := rps_one r
    exact ⟨x, d, rfl, rx.dp _ _ _ hf.1.plain, hf.1, q _ _ hf.2 str_rp⟩
  · exact hf.elim
/-- x[i] -/
def fIx : D → D → (D → Prop) → Prop := fun x y R => asI y fun i => match x with
  | .list ds => ∃ d, atI ds i = some d ∧ R d
  | .tuple ds => ∃ d, atI ds i = some d ∧ R d
  | .str z => z.length ≤ 10000000 ∧ ∃ c, atI z.cps.toList i = some c ∧ R (.str ⟨#[c]⟩)
  | _ => False
theorem rps_atI {c : Zc} {H : Hp} {ds : List D} {xs : List V} {fp : List Addr} {i : Int} {d : D} (h : Rps c H ds xs fp) (e : atI ds i = some d) : ∃ x gp, atI xs i = some x ∧ Rp c H d x gp ∧ (∀ a ∈ gp, a ∈ fp) ∧ (fp.Nodup → gp.Nodup) := by
  unfold atI at e ⊢
  rw [h.len]
  cases hn : ixN ds.length i with
  | none => rw [hn] at e; cases e
  | some j =>
    rw [hn] at e
    exact h.at (i := j) e
theorem oa_ix : OpA K S (rIx K) fIx := fun H x y d e f1 f2 s r1 n1 r2 n2 R hf Q q => by
  obtain ⟨i, rfl, hf⟩ := asI_ok hf
  have ey := rp_int r2
  subst ey
  cases d with
  | list ds =>
    obtain ⟨z, hz, hR⟩ := hf
    simp only [Rp] at r1
    obtain ⟨a, xs, gp, rfl, rfl, h1, h2⟩ := r1
    obtain ⟨v, kp, e1, e2, e3, e4⟩ := rps_atI h2 hz
    exact .inl ⟨a, xs, i, v, rfl, rfl, .of h1, e1, q z v kp hR e2 (fun b hb => List.mem_cons_of_mem _ (e3 b hb)) fun nd => e4 (List.nodup_cons.mp nd).2⟩
  | tuple ds =>
    obtain ⟨z, hz, hR⟩ := hf
    simp only [Rp] at r1
    obtain ⟨a, xs, rfl, h1, h2⟩ := r1
    obtain ⟨v, kp, e1, e2, e3, e4⟩ := rps_atI h2 hz
    exact .inr (.inl ⟨a, xs, i, v, rfl, rfl, h1.t, e1, q z v kp hR e2 e3 e4⟩)
  | str z =>
    obtain ⟨hl, c, hc, hR⟩ := hf
    simp only [Rp] at r1
    obtain ⟨rfl, rfl⟩ := r1
    exact .inr (.inr ⟨z, i, c, rfl, rfl, lim_ok hl, hc, q _ _ [] hR (str_rp H) (fun b hb => hb) fun nd => nd⟩)
  | none => exact hf.elim
  | bool b => exact hf.elim
  | int j => exact hf.elim
  | dict kvs => exact hf.elim
/-- sum of a list of ints -/
def fSum : List D → (D → Prop) → Prop := fun ds R => match ds with
  | [.list xs] => ∃ ns : List Int, xs = ns.map .int ∧ R (.int ns.sum)
  | _ => False
theorem rps_ints {c : Zc} {H : Hp} : ∀ {ns : List Int} {xs : List V} {fp : List Addr}, Rps c H (ns.map .int) xs fp → xs = ns.map .int ∧ fp = []
  | [], xs, fp, h => by simpa [Rps] using h
  | n :: ns, xs, fp, h => by
    simp only [List.map_cons, Rps] at h
    obtain ⟨x, ys, f1, f2, rfl, rfl, h1, h2⟩ := h
    simp only [Rp] at h1
    obtain ⟨rfl, rfl⟩ := h1
    obtain ⟨rfl, rfl⟩ := rps_ints h2
    exact ⟨rfl, rfl⟩
/-- len of a list, a tuple -/
def fLen : List D → (D → Prop) → Prop := fun ds R => match ds with
  | [.list xs] => R (.int xs.length)
  | [.tuple xs] => R (.int xs.length)
  | [.str z] => z.length ≤ 10000000 ∧ R (.int z.length)
  | _ => False
theorem cd_len : CallD K S (fun xs H Q => ∃ x n, xs = [x] ∧ LenV K x H n ∧ Q (.int n) H) fLen := .pure fun H xs ds fp r R hf Q q => by
  unfold fLen at hf
  split at hf
  · rename_i es
    obtain ⟨x, rfl, rx⟩ := rps_one r
    simp only [Rp] at rx
    obtain ⟨a, ys, gp, rfl, rfl, h1, h2⟩ := rx
    exact ⟨_, es.length, rfl, .inl ⟨ys, .of h1, h2.len.symm⟩, q _ _ hf int_rp⟩
  · rename_i es
    obtain ⟨x, rfl, rx⟩ := rps_one r
    simp only [Rp] at rx
    obtain ⟨a, ys, rfl, h1, h2⟩ := rx
    exact ⟨_, es.length, rfl, .inr ⟨ys, h1.t, h2.len.symm⟩, q _ _ hf int_rp⟩
  · rename_i z
    obtain ⟨x, rfl, rx⟩ := rps_one r
    simp only [Rp] at rx
    obtain ⟨rfl, rfl⟩ := rx
    exact ⟨_, z.length, rfl, ⟨lim_ok hf.1, rfl⟩, q _ _ hf.2 int_rp⟩
  · exact hf.elim
/-- tuple(list), tuple(tuple), nothing in it that may change -/
def fTuple : List D → (D → Prop) → Prop := fun ds R => match ds with
  | [.list xs] => solids xs = true ∧ R (.tuple xs)
  | [.tuple xs] => solids xs = true ∧ R (.tuple xs)
  | _ => False
theorem cd_tuple : CallD K S (rTupF K) fTuple := fun H xs ds fp s r n R hf Q q => by
  unfold fTuple at hf
  split at hf
  · rename_i es
    obtain ⟨x, rfl, rx⟩ := rps_one r
    simp only [Rp] at rx
    obtain ⟨a, ys, gp, rfl, rfl, h1, h2⟩ := rx
    have z := h2.solid _ _ _ hf.1
    subst z
    refine ⟨a, ys, rfl, .inl ⟨.of h1, fun l o hl ho => ?_⟩⟩
    have e := Ext.new (c := ⟨K, S⟩) (o := .frz o (.tup ys)) hl
    refine q (.tuple es) (.ref l) _ [] hf.2 e (s.new hl) ?_ .nil List.nodup_nil fun b hb => by cases hb
    simp only [Rp]
    exact ⟨l, ys, rfl, .new ho, h2.ext .nil e s⟩
  · rename_i es
    obtain ⟨x, rfl, rx⟩ := rps_one r
    have z := rx.solid _ _ _ (by simp only [solid]; exact hf.1)
    subst z
    have rx' := rx
    simp only [Rp] at rx
    obtain ⟨a, ys, rfl, h1, h2⟩ := rx
    exact ⟨a, ys, rfl, .inr ⟨h1.t, q _ _ H [] hf.2 (Ext.refl _ _) s rx' .nil List.nodup_nil fun b hb => by cases hb⟩⟩
  · exact hf.elim
/-- int(int), int(bool) -/
def fInt : List D → (D → Prop) → Prop := fun ds R => match ds with
  | [.int i] => R (.int i)
  | [.bool b] => R (.int (if b then 1 else 0))
  | _ => False
theorem cd_int : CallD K S (fun xs H Q => (∃ i, xs = [.int i] ∧ Q (.int i) H) ∨ ∃ k, xs = [.bl k] ∧ Q (.int (if k then 1 else 0)) H) fInt := .pure fun H xs ds fp r R hf Q q => by
  unfold fInt at hf
  split at hf
  · obtain ⟨x, rfl, rx⟩ := rps_one r
    exact .inl ⟨_, by rw [rp_int rx], q _ _ hf int_rp⟩
  · obtain ⟨x, rfl, rx⟩ := rps_one r
    exact .inr ⟨_, by rw [rp_bl rx], q _ _ hf int_rp⟩
  · exact hf.elim
/-- ints; a tuple k times -/
def fMul : D → D → (D → Prop) → Prop := fun x y R => asI y fun j => match x with
  | .int i => CMul i j ∧ R (.int (i * j))
  | .tuple xs => xs ≠ [] ∧ xs.length ≤ 1000 ∧ solids xs = true ∧ 1 ≤ j ∧ j ≤ 1000 ∧ R (.tuple (List.replicate j.toNat xs).flatten)
  | .list xs => xs.length ≤ 1000 ∧ solids xs = true ∧ j ≤ 1000 ∧ -1000 ≤ j ∧ R (.list (List.replicate j.toNat xs).flatten)
  | _ => False
/-- enumerate -/
def enumD (ds : List D) : List D := (List.range ds.length).map fun i => .tuple [.int (i : Nat), ds.getD i .none]
def dEnum (ms : DMs) : DMs := fun ρ R => ms ρ fun ds => match ds with
  | [.list xs] => R (enumD xs)
  | [.tuple xs] => R (enumD xs)
  | _ => False
theorem enum_at {ds : List D} {i : Nat} {d : D} (h : ds[i]? = some d) : (enumD ds)[i]? = some (.tuple [.int (i : Nat), d]) := by
  have hi := (List.getElem?_eq_some_iff.mp h).1
  unfold enumD
  rw [List.getElem?_map, List.getElem?_range hi]
  show some (PyData.tuple [.int (i : Nat), ds.getD i .none]) = _
  rw [List.getD_eq_getElem?_getD, h]
  rfl
theorem iter_pairs {c : Zc} {H1 : Hp} {J : It} {ds : List D} {xs : List V} {gp FP : List Addr} {G : Hp → Prop} (w : Walk J xs.length G (YPair (fun i => some (.int (i : Nat))) fun i => xs[i]?)) (r : Rps c H1 ds xs gp) (sub : ∀ b ∈ gp, b ∈ FP)
    (hG : ∀ H', Tk H1 H' → (∀ b ∈ FP, H' b = H1 b) → G H') (nF : NoS c FP) : IterOk true c J H1 (enumD ds) FP := by
  have el : (enumD ds).length = xs.length := by simp [enumD, r.len]
  unfold IterOk
  rw [el]
  refine w.mono (fun H' g => hG H' g.1 g.2.1) fun i H' x H'' hi g y => ?_
  obtain ⟨T, a, b, rfl, hT, rfl, ha, hb⟩ := y
  cases ha
  have e := Ext.new (c := c) (o := .tup [.int (i : Nat), b]) hT
  obtain ⟨d, fp, e1, e2, e3⟩ := (r.mono g.1 _ _ _ fun b hb => g.2.1 b (sub b hb)).atV hb
  refine ⟨e, g.2.2.new hT, .tuple [.int (i : Nat), d], fp, enum_at e1, .inr ⟨rfl, _, T, _, rfl, rfl, .of upd_same, ?_⟩, fun b hb => sub b (e3 b hb)⟩
  have h1 : Rps c (upd H' T (.tup [.int (i : Nat), b])) [.int (i : Nat), d] [.int (i : Nat), b] ([] ++ fp) := .cons (int_rp _) (.one (e2.ext (fun a ha => nF a (sub a (e3 a ha))) e g.2.2))
  exact h1
theorem walk_enumT {a : Addr} {xs : List V} : Walk (IteT K a) xs.length (fun H => SqT K H a xs) (YPair (fun i => some (.int (i : Nat))) (fun i => xs[i]?)) where
  goes := fun i H hi h => ⟨xs, xs[i], h, List.getElem?_eq_getElem hi⟩
  stops := fun H h => ⟨xs, h, rfl⟩
  yields := fun i H v H' _ h y => by
    obtain ⟨T, x, e1, e2, e3, e4⟩ := y
    exact ⟨T, .int (i : Nat), x, e1, e2, e3, rfl, e4 xs h⟩
theorem di_enum {t : TA} {ms : DMs} {U : List Nat} (h : DA K S t ms U) : DI true K S (iEnumS K t) (dEnum ms) U := fun G H ρ σ fps E R hm Q q =>
  h G H ρ σ fps E _ hm _ fun ds vs H1 fp hR e1 s1 r1 n1 f1 => by
    have th : ∀ a ∈ fp, ∃ o, H1 a = some o := fun a ha => let ⟨o, ho, _⟩ := r1.there _ _ _ a ha; ⟨o, ho⟩
    split at hR
    · rename_i es
      obtain ⟨x, rfl, rx⟩ := rps_one r1
      simp only [Rp] at rx
      obtain ⟨a, xs, gp, rfl, rfl, h1, h2⟩ := rx
      exact ⟨a, xs, rfl, .inl ⟨.of h1, q _ _ H1 _ hR e1 s1 (iter_pairs walk_enum h2 (fun b hb => List.mem_cons_of_mem _ hb) (fun H' _ k => .of (by rw [k a (List.mem_cons_self ..)]; exact h1)) n1) n1 th f1⟩⟩
    · rename_i es
      obtain ⟨x, rfl, rx⟩ := rps_one r1
      simp only [Rp] at rx
      obtain ⟨a, xs, rfl, h1, h2⟩ := rx
      exact ⟨a, xs, rfl, .inr ⟨h1.t, q _ _ H1 _ hR e1 s1 (iter_pairs walk_enumT h2 (fun b hb => hb) (fun H' tk _ => tk.sq h1.t) n1) n1 th f1⟩⟩
    · exact hR.elim
end
end Z
set_option Elab.async false
set_option linter.all false
set_option maxRecDepth 100000
set_option maxHeartbeats 4000000
/-! Z8: the law's own source of draws: its reading. -/
namespace Z
open PySem PySem.Spec PyProof.Rows L2
abbrev srcKv (sc : Addr) (l m t : Int) : List (Key × V) := [(Sum.inr "cells", .ref sc), (Sum.inr "left", .int l), (Sum.inr "mixed", .int m), (Sum.inr "turn", .int t)]
theorem kv_cells {sc : Addr} {l m t : Int} : valV (srcKv sc l m t) (Sum.inr "cells") = some (.ref sc) := rfl
theorem kv_left {sc : Addr} {l m t : Int} : valV (srcKv sc l m t) (Sum.inr "left") = some (.int l) := rfl
theorem kv_mixed {sc : Addr} {l m t : Int} : valV (srcKv sc l m t) (Sum.inr "mixed") = some (.int m) := rfl
theorem kv_turn {sc : Addr} {l m t : Int} : valV (srcKv sc l m t) (Sum.inr "turn") = some (.int t) := rfl
abbrev gtR : R2 := rI0 fun i j => .bl (decide (j < i))
abbrev ltR : R2 := rI0 fun i j => .bl (decide (i < j))
abbrev addR : R2 := rI0 fun i j => .int (i + j)
abbrev mulR : R2 := rI CMul fun i j => .int (i * j)
abbrev modR : R2 := rI (fun _ j => 0 < j) fun i j => .int (i % j)
abbrev divR : R2 := rI CDiv fun i j => .int (i / j)
abbrev max2R : List V → Hp → VK → Prop := fun xs H Q => ∃ i j, xs = [.int i, .int j] ∧ Q (.int (if j > i then j else i)) H
abbrev int1R : List V → Hp → VK → Prop := fun xs H Q => (∃ i, xs = [.int i] ∧ Q (.int i) H) ∨ ∃ k, xs = [.bl k] ∧ Q (.int (if k then 1 else 0)) H
abbrev lenR (K : PySem.W.Frag) : List V → Hp → VK → Prop := fun xs H Q => ∃ x n, xs = [x] ∧ LenV K x H n ∧ Q (.int n) H
abbrev tKey (x : Str) : TE := tDGet (tVar 0) (tC (.str x))
/-- the body of _law_pick -/
def tPick (K : PySem.W.Frag) : TS :=
  tSeq (tWhile (tAnd (tTest (tOp gtR (tVar 1) (tC (.int 1)))) (tAnd (tTest (tOp ltR (tKey "left") (tC (.int 2)))) (tTest (tOp gtR (tCB (lenR K) (tCons (tKey "cells") tNil)) (tC (.int 0))))))
      (sDPut (tVar 0) (tC (.str "left")) (tBM0 K "list" rPop (tKey "cells"))))
  (tSeq (tAsg (tKey "left") (gName 2))
  (tSeq (tIfS (tOr (tTest (tOp ltR (tVar 1) (tC (.int 2)))) (tTest (tOp gtR (tVar 2) (tC (.int 1)))))
      (tSeq (sDPut (tVar 0) (tC (.str "left")) (tOp divR (tVar 2) (tCB max2R (tCons (tC (.int 1)) (tCons (tVar 1) tNil)))))
        (tRet (tOp modR (tCB int1R (tCons (tVar 2) tNil)) (tCB max2R (tCons (tC (.int 1)) (tCons (tVar 1) tNil))))))
      tNext)
  (tSeq (sDPut (tVar 0) (tC (.str "turn")) (tOp addR (tKey "turn") (tC (.int 1))))
  (tSeq (tAsg (tOp modR (tCB int1R (tCons (tOp addR (tKey "mixed") (tOp mulR (tKey "turn") (tC (.int 104729)))) tNil)) (tC (.int 998244353))) (gName 3))
  (tSeq (tAsg (tOp modR (tCB int1R (tCons (tOp addR (tOp mulR (tVar 3) (tVar 3)) (tOp mulR (tKey "turn") (tC (.int 17)))) tNil)) (tC (.int 2147483647))) (gName 3))
  (tSeq (sDPut (tVar 0) (tC (.str "mixed")) (tVar 3))
    (tRet (tOp modR (tCB int1R (tCons (tOp divR (tVar 3) (tC (.int 16))) tNil)) (tVar 1)))))))))
def specPick : List D → (D → Prop) → Prop := fun ds R => ∃ n : Int, ds = [srcD, .int n] ∧ n ≤ 1000000000 ∧ ∀ k : Int, 0 ≤ k → (k < n ∨ k = 0) → R (.int k)
section
variable {K : PySem.W.Frag} {S : Option (Addr × Addr)}
theorem rp_src {c : Zc} {H : Hp} {v : V} {fp : List Addr} (h : Rp c H srcD v fp) : ∃ p, c.S = some p ∧ v = .ref p.1 ∧ fp = [] := by
  unfold srcD at h
  simp only [Rp, isSrc] at h
  simpa using h
theorem src_rp {c : Zc} {H : Hp} {p : Addr × Addr} (h : c.S = some p) : Rp c H srcD (.ref p.1) [] := by
  simp only [srcD, Rp]
  rw [if_pos (show isSrc [(.none, .none)] = true from rfl)]
  exact ⟨p, h, rfl, trivial⟩
/-- the source's own objects stand so -/
structure SrcSt (p : Addr × Addr) (H : Hp) (ns : List Int) (l m t : Int) : Prop where
  d : H p.1 = some (.dK (srcKv p.2 l m t))
  c : H p.2 = some (.lst (ns.map V.int))
  len : ns.length ≤ 63
  nn : ∀ n ∈ ns, 0 ≤ n
  l0 : 0 ≤ l
  m0 : 0 ≤ m
  m1 : m < 2147483648
  t0 : 0 ≤ t
theorem SrcSt.at {p : Addr × Addr} {H : Hp} {ns : List Int} {l m t : Int} (s : SrcSt p H ns l m t) (hne : p.1 ≠ p.2) : SrcAt ⟨K, some p⟩ H := fun q hq => by
  cases hq
  exact ⟨hne, ns, l, m, t, s.len, s.nn, s.l0, s.m0, s.m1, s.t0, s.d, s.c⟩
theorem SrcSt.putD {p : Addr × Addr} {H : Hp} {ns : List Int} {l m t l' m' t' : Int} (s : SrcSt p H ns l m t) (hne : p.1 ≠ p.2) (a : 0 ≤ l') (b : 0 ≤ m') (c : m' < 2147483648) (d : 0 ≤ t') : SrcSt p (upd H p.1 (.dK (srcKv p.2 l' m' t'))) ns l' m' t' :=
  ⟨upd_same, by rw [upd_ne (Ne.symm hne)]; exact s.c, s.len, s.nn, a, b, c, d⟩
theorem ext_src {p : Addr × Addr} {H H1 : Hp} {a : Addr} {o : HO} (e : Ext ⟨K, some p⟩ H H1) (ha : a = p.1 ∨ a = p.2) : Ext ⟨K, some p⟩ H (upd H1 a o) := fun b u hb hn => by
  rw [upd_ne fun z => hn ⟨p, rfl, by rw [z]; exact ha⟩]
  exact e b u hb hn
theorem get_of {p : Addr × Addr} {H : Hp} {ns : List Int} {l m t : Int} (s : SrcSt p H ns l m t) {x : Str} {v : V} (e : valV (srcKv p.2 l m t) (Sum.inr x) = some v) : DGet H p.1 (.str x) (some v) := by
  rw [← e]
  exact DGet.k (k := Sum.inr x) s.d
theorem key_of {p : Addr × Addr} {H : Hp} {ns : List Int} {l m t : Int} {σ : L2.St} {Q : VK} (s : SrcSt p H ns l m t) (h0 : σ[0]? = some (some (.ref p.1))) {x : Str} {v : V} (e : valV (srcKv p.2 l m t) (Sum.inr x) = some v) (q : Q v H) : tKey x σ H Q :=
  ⟨_, h0, p.1, v, rfl, get_of s e, q⟩
theorem small4 : (4 : Nat) < sizeLine := Nat.lt_of_lt_of_le (by decide : 4 < 10000000) (lim_ok (Nat.le_refl _))
theorem pick_reading {vs : List V} {H : Hp} {Q : VK} {E : XK} (h : spD K specPick vs H Q E) : tPick K { nx := fun _ H' => Q .non H', rt := Q } (L2.start ["source", "many", "left", "mixed"] vs) H := by
  obtain ⟨S, ds, fp, R, r, ns0, s, ⟨n, rfl, hn, hR⟩, q⟩ := h
  obtain ⟨v, w, f1, f2, rfl, rfl, rv, rw'⟩ := rps_two r
  obtain ⟨p, hp, rfl, rfl⟩ := rp_src rv
  have hp' : S = some p := hp
  subst hp'
  have ew := rp_int rw'
  subst ew
  have q' : ∀ k H', 0 ≤ k → (k < n ∨ k = 0) → Ext ⟨K, some p⟩ H H' → SrcAt ⟨K, some p⟩ H' → Q (.int k) H' := fun k H' h1 h2 e s' => q (.int k) (.int k) H' [] (hR k h1 h2) e s' (int_rp H') .nil List.nodup_nil fun a h => by cases h
  obtain ⟨hne, ns, l, m, t, z1, z2, z3, z4, z5, z6, z7, z8⟩ := s p rfl
  have st0 : SrcSt p H ns l m t := ⟨z7, z8, z1, z2, z3, z4, z5, z6⟩
  have hst : L2.start ["source", "many", "left", "mixed"] [V.ref p.1, .int n] = [some (.ref p.1), some (.int n), none, none] := rfl
  rw [hst]
  -- the loop
  refine ⟨fun k σ H1 => σ = [some (.ref p.1), some (.int n), none, none] ∧ ∃ ns l, k = ns.length ∧ SrcSt p H1 ns l m t ∧ Ext ⟨K, some p⟩ H H1, ⟨ns.length, rfl, ns, l, rfl, st0, Ext.refl _ _⟩, ?_⟩
  rintro k σ H1 ⟨rfl, ns, l, rfl, st, ex⟩
  -- behind the loop
  have after : (tSeq (tAsg (tKey "left") (gName 2))
      (tSeq (tIfS (tOr (tTest (tOp ltR (tVar 1) (tC (.int 2)))) (tTest (tOp gtR (tVar 2) (tC (.int 1)))))
        (tSeq (sDPut (tVar 0) (tC (.str "left")) (tOp divR (tVar 2) (tCB max2R (tCons (tC (.int 1)) (tCons (tVar 1) tNil)))))
          (tRet (tOp modR (tCB int1R (tCons (tVar 2) tNil)) (tCB max2R (tCons (tC (.int 1)) (tCons (tVar 1) tNil))))))
        tNext)
      (tSeq (sDPut (tVar 0) (tC (.str "turn")) (tOp addR (tKey "turn") (tC (.int 1))))
      (tSeq (tAsg (tOp modR (tCB int1R (tCons (tOp addR (tKey "mixed") (tOp mulR (tKey "turn") (tC (.int 104729)))) tNil)) (tC (.int 998244353))) (gName 3))
      (tSeq (tAsg (tOp modR (tCB int1R (tCons (tOp addR (tOp mulR (tVar 3) (tVar 3)) (tOp mulR (tKey "turn") (tC (.int 17)))) tNil)) (tC (.int 2147483647))) (gName 3))
      (tSeq (sDPut (tVar 0) (tC (.str "mixed")) (tVar 3))
        (tRet (tOp modR (tCB int1R (tCons (tOp divR (tVar 3) (tC (.int 16))) tNil)) (tVar 1))))))))) { nx := fun _ H' => Q .non H', rt := Q } [some (.ref p.1), some (.int n), none, none] H1 := by
    refine key_of st rfl kv_left ?_
    -- if many < 2 or left > 1
    have yes : (n < 2 ∨ 1 < l) → (tSeq (sDPut (tVar 0) (tC (.str "left")) (tOp divR (tVar 2) (tCB max2R (tCons (tC (.int 1)) (tCons (tVar 1) tNil)))))
          (tRet (tOp modR (tCB int1R (tCons (tVar 2) tNil)) (tCB max2R (tCons (tC (.int 1)) (tCons (tVar 1) tNil)))))) { nx := fun _ H' => Q .non H', rt := Q } [some (.ref p.1), some (.int n), some (.int l), none] H1 := fun hy => by
      have hm1 : (1 : Int) ≤ (if n > 1 then n else 1) := by split <;> omega
      have hm2 : (if n > 1 then n else 1) ≤ 1000000000 := by split <;> omega
      refine ⟨.int l, rfl, .int n, rfl, 1, n, rfl, l, _, rfl, rfl, ⟨by omega, by omega⟩, .ref p.1, rfl, p.1, _, rfl, DPut.k (k := Sum.inr "left") st.d small4, ?_⟩
      have st2 := st.putD hne (l' := l / (if n > 1 then n else 1)) (m' := m) (t' := t) (Int.ediv_nonneg st.l0 (by omega)) st.m0 st.m1 st.t0
      refine ⟨.int l, rfl, .inl ⟨l, rfl, .int n, rfl, 1, n, rfl, l, _, rfl, rfl, by omega, ?_⟩⟩
      refine q' _ _ (Int.emod_nonneg _ (by omega)) ?_ (ext_src ex (.inl rfl)) (st2.at hne)
      have h3 := Int.emod_lt_of_pos l (show (0 : Int) < (if n > 1 then n else 1) by omega)
      have h4 := Int.emod_nonneg l (show (if n > 1 then n else 1) ≠ (0 : Int) by omega)
      by_cases h : n > 1
      · rw [if_pos h] at h3 ⊢
        exact .inl h3
      · rw [if_neg h] at h3 h4 ⊢
        exact .inr (by omega)
    refine ⟨.int n, rfl, n, 2, rfl, rfl, _, rfl, ite2 (fun hlt => ?_) (fun hlt => ?_)⟩
    · exact iteT (yes (.inl (of_decide_eq_true hlt)))
    · have hn2 : ¬ n < 2 := fun z => hlt (decide_eq_true z)
      refine ⟨.int l, rfl, l, 1, rfl, rfl, _, rfl, ite2 (fun hl => ?_) (fun hl => ?_)⟩
      · exact yes (.inr (of_decide_eq_true hl))
      · -- a number mixed anew
        refine key_of st rfl kv_turn ⟨t, 1, rfl, rfl, .ref p.1, rfl, p.1, _, rfl, DPut.k (k := Sum.inr "turn") st.d small4, ?_⟩
        have st2 := st.putD hne (l' := l) (m' := m) (t' := t + 1) st.l0 st.m0 st.m1 (by have := st.t0; omega)
        refine key_of st2 rfl kv_mixed (key_of st2 rfl kv_turn ⟨t + 1, 104729, rfl, rfl, .inr ⟨by omega, by omega⟩, m, _, rfl, rfl, .inl ⟨_, rfl, _, 998244353, rfl, rfl, by omega, ?_⟩⟩)
        show tSeq _ _ _ [some (.ref p.1), some (.int n), some (.int l), some (.int ((m + (t + 1) * 104729) % 998244353))] _
        generalize hx : (m + (t + 1) * 104729) % 998244353 = x
        have x0 : 0 ≤ x := by rw [← hx]; exact Int.emod_nonneg _ (by omega)
        have x1 : x < 998244353 := by rw [← hx]; exact Int.emod_lt_of_pos _ (by omega)
        refine ⟨.int x, rfl, .int x, rfl, x, x, rfl, rfl, .inl ⟨by omega, by omega⟩, key_of st2 rfl kv_turn ⟨t + 1, 17, rfl, rfl, .inr ⟨by omega, by omega⟩, _, _, rfl, rfl, .inl ⟨_, rfl, _, 2147483647, rfl, rfl, by omega, ?_⟩⟩⟩
        show tSeq _ _ _ [some (.ref p.1), some (.int n), some (.int l), some (.int ((x * x + (t + 1) * 17) % 2147483647))] _
        generalize hy : (x * x + (t + 1) * 17) % 2147483647 = y
        have y0 : 0 ≤ y := by rw [← hy]; exact Int.emod_nonneg _ (by omega)
        have y1 : y < 2147483647 := by rw [← hy]; exact Int.emod_lt_of_pos _ (by omega)
        refine ⟨.int y, rfl, .ref p.1, rfl, p.1, _, rfl, DPut.k (k := Sum.inr "mixed") st2.d small4, ?_⟩
        have st3 := st2.putD hne (l' := l) (m' := y) (t' := t + 1) st.l0 y0 (by omega) st2.t0
        refine ⟨.int y, rfl, y, 16, rfl, rfl, ⟨by omega, by omega⟩, .inl ⟨_, rfl, .int n, rfl, _, n, rfl, rfl, by omega, ?_⟩⟩
        exact q' _ _ (Int.emod_nonneg _ (by omega)) (.inl (Int.emod_lt_of_pos _ (by omega))) (ext_src (ext_src ex (.inl rfl)) (.inl rfl)) (st3.at hne)
  -- the loop's test
  refine ⟨.int n, rfl, n, 1, rfl, rfl, _, rfl, ite2 (fun h1 => ?_) (fun h1 => ?_)⟩
  · refine key_of st rfl kv_left ⟨l, 2, rfl, rfl, _, rfl, ite2 (fun h2 => ?_) (fun h2 => ?_)⟩
    · refine key_of st rfl kv_cells ⟨.ref p.2, ns.length, rfl, .inl ⟨_, .of st.c, by simp⟩, _, 0, rfl, rfl, _, rfl, ite2 (fun h3 => ?_) (fun h3 => ?_)⟩
      · -- source["left"] = source["cells"].pop()
        have hpos : 0 < ns.length := by
          have := of_decide_eq_true h3
          omega
        obtain ⟨ms, y, rfl⟩ : ∃ ms y, ns = ms ++ [y] := ⟨ns.dropLast, ns.getLast (fun z => by rw [z] at hpos; cases hpos), (List.dropLast_concat_getLast _).symm⟩
        refine ⟨fun σ' H' => ∃ m', m' < (ms ++ [y]).length ∧ (σ' = [some (.ref p.1), some (.int n), none, none] ∧ ∃ ns l, m' = ns.length ∧ SrcSt p H' ns l m t ∧ Ext ⟨K, some p⟩ H H'), fun σ' H' h => h, ?_⟩
        refine key_of st rfl kv_cells ⟨.inl ⟨rfl, _, .of st.c⟩, p.2, _, .int y, rfl, rfl, st.c, by simp, .ref p.1, rfl, p.1, _, rfl, DPut.k (k := Sum.inr "left") (kvs := srcKv p.2 l m t) (by rw [upd_ne hne]; exact st.d) small4, ?_⟩
        refine ⟨ms.length, by simp, rfl, ms, y, rfl, ⟨upd_same, ?_, ?_, fun k hk => st.nn k (List.mem_append_left _ hk), st.nn y (by simp), st.m0, st.m1, st.t0⟩, ext_src (ext_src ex (.inr rfl)) (.inl rfl)⟩
        · rw [upd_ne (Ne.symm hne), upd_same]
          simp
        · have := st.len
          simp at this
          omega
      · exact after
    · exact iteF after
  · exact iteF after
end
end Z
set_option Elab.async false
set_option linter.all false
set_option maxRecDepth 100000
set_option maxHeartbeats 4000000
/-! Z9: the source made; the law's body. -/
namespace Z
open PySem PySem.Spec PyProof.Rows L2
abbrev absR : List V → Hp → VK → Prop := fun xs H Q => ∃ i, xs = [.int i] ∧ Q (.int (if i < 0 then -i else i)) H
/-- the body of _law_source -/
def tSource (K : PySem.W.Frag) : TS :=
  tSeq (tAsg (tC (.int 11)) (gName 1))
  (tSeq (tFor (iList K (tVar 0)) (gName 2) (tAsg (tOp modR (tCB int1R (tCons (tOp addR (tOp addR (tOp mulR (tVar 1) (tC (.int 69069))) (tOp mulR (tVar 2) (tC (.int 31)))) (tC (.int 5))) tNil)) (tC (.int 2147483629))) (gName 1)))
    (tRet (tDisp [(tC (.str "cells"), tRevL K (tLc (iList K (tVar 0)) (gName 2) tYes (tCB absR (tCons (tVar 2) tNil)) [2])), (tC (.str "left"), tC (.int 1)), (tC (.str "mixed"), tVar 1), (tC (.str "turn"), tC (.int 0))])))
/-- a new source, all else as it was -/
def spSource (K : PySem.W.Frag) : Sp := fun vs H Q _ => ∃ (a : Addr) (ns : List Int), vs = [.ref a] ∧ SqL K H a (ns.map V.int) ∧ ns.length ≤ 63 ∧
  ∀ p H', Same H H' → p.1 ≠ p.2 → H p.1 = none → H p.2 = none → (∃ ns l m t, SrcSt p H' ns l m t) → Q (.ref p.1) H'
theorem same_new {H H' : Hp} {p : Addr} {o : HO} (s : Same H H') (h : H' p = none) : Same H (upd H' p o) := fun b u e => by
  rw [upd_ne (ne_of_none (s b u e) h)]
  exact s b u e
theorem abs_nat (i : Int) : (if i < 0 then -i else i) = (i.natAbs : Int) := by split <;> omega
theorem source_reading {K : PySem.W.Frag} {vs : List V} {H : Hp} {Q : VK} {E : XK} (h : spSource K vs H Q E) : tSource K { nx := fun _ H' => Q .non H', rt := Q } (L2.start ["script", "mixed", "cell"] vs) H := by
  obtain ⟨a, ns, rfl, hS, hlen, q⟩ := h
  have hst : L2.start ["script", "mixed", "cell"] [V.ref a] = [some (.ref a), none, none] := rfl
  rw [hst]
  have item : ∀ (i : Nat) (x : V), (ns.map V.int)[i]? = some x → ∃ c, x = .int c := fun i x e => by
    rw [List.getElem?_map] at e
    cases hc : ns[i]? with
    | none => rw [hc] at e; cases e
    | some c => rw [hc] at e; cases e; exact ⟨c, rfl⟩
  refine ⟨.ref a, rfl, a, rfl, ⟨_, hS⟩, for_list (K := K) (a := a) (xs := ns.map V.int) (fun i σ H1 => ∃ m y, σ = [some (.ref a), some (.int m), y] ∧ 0 ≤ m ∧ m < 2147483648 ∧ H1 = H) ⟨11, none, rfl, by omega, by omega, rfl⟩ ?_ ?_ ?_⟩
  · rintro i σ H1 _ ⟨m, y, rfl, _, _, rfl⟩
    exact hS
  · rintro i x σ H1 hi ⟨m, y, rfl, m0, m1, rfl⟩
    obtain ⟨c, rfl⟩ := item i x hi
    refine ⟨.int m, rfl, m, 69069, rfl, rfl, .inl ⟨by omega, by omega⟩, .int c, rfl, c, 31, rfl, rfl, .inr ⟨by omega, by omega⟩, _, _, rfl, rfl, _, 5, rfl, rfl, .inl ⟨_, rfl, _, 2147483629, rfl, rfl, by omega, ?_⟩⟩
    have h1 := Int.emod_nonneg (m * 69069 + c * 31 + 5) (show (2147483629 : Int) ≠ 0 by omega)
    have h2 := Int.emod_lt_of_pos (m * 69069 + c * 31 + 5) (show (0 : Int) < 2147483629 by omega)
    exact ⟨_, some (.int c), rfl, h1, by omega, rfl⟩
  · rintro σ H1 ⟨m, y, rfl, m0, m1, rfl⟩
    -- the dict
    intro p hp
    refine ⟨.ref a, rfl, a, rfl, ⟨_, (show Same H1 (upd H1 p (.dK [])) from same_new (Same.refl _) hp).seq hS⟩, fun Dd hD => ?_⟩
    have s1 : Same H1 (upd H1 p (.dK [])) := same_new (Same.refl _) hp
    have hpD : p ≠ Dd := ne_of_none upd_same hD
    refine lc_list (K := K) (a := a) (xs := ns.map V.int) (fun i H2 => ∃ acc : List Int, H2 = upd (upd H1 p (.dK [])) Dd (.lst (acc.map V.int)) ∧ acc.length = i ∧ ∀ k ∈ acc, 0 ≤ k) ⟨[], rfl, rfl, fun k hk => by cases hk⟩ ?_ ?_ ?_
    · rintro i H2 _ ⟨acc, rfl, _, _⟩
      exact (same_new s1 hD).seq hS
    · rintro i x H2 hi ⟨acc, rfl, hacc, hnn⟩
      obtain ⟨c, rfl⟩ := item i x hi
      have hil : i < ns.length := by
        have := (List.getElem?_eq_some_iff.mp hi).1
        simpa using this
      refine ⟨rfl, ?_⟩
      unfold tYes
      dsimp only
      rw [if_pos rfl]
      refine ⟨.int c, rfl, c, rfl, acc.map V.int, upd_same, ?_, acc ++ [if c < 0 then -c else c], ?_, by simp [hacc], fun k hk => ?_⟩
      · rw [List.length_map, hacc]
        exact Nat.lt_of_lt_of_le (by omega : i < 10000000) (lim_ok (Nat.le_refl _))
      · rw [upd_upd, List.map_append]
        rfl
      · rcases List.mem_append.mp hk with hk | hk
        · exact hnn k hk
        · rw [List.mem_singleton.mp hk, abs_nat]
          exact Int.natCast_nonneg _
    · rintro H2 ⟨acc, rfl, hacc, hnn⟩
      refine ⟨Dd, _, rfl, .of upd_same, fun r hr => ?_⟩
      have hrp : r ≠ p := fun z => by
        rw [z, upd_ne hpD, upd_same] at hr
        cases hr
      refine ⟨.int m, rfl, ?_⟩
      have hdk : upd (upd (upd H1 p (.dK [])) Dd (.lst (acc.map V.int))) r (.lst (acc.map V.int).reverse) p = some (.dK []) := by
        rw [upd_ne (Ne.symm hrp), upd_ne hpD, upd_same]
      refine ⟨hdk, [(Sum.inr "cells", .ref r), (Sum.inr "left", .int 1), (Sum.inr "mixed", .int m), (Sum.inr "turn", .int 0)], rfl, (show 4 ≤ 15 by decide), ?_⟩
      have s2 : Same H1 (upd (upd (upd H1 p (.dK [])) Dd (.lst (acc.map V.int))) r (.lst (acc.map V.int).reverse)) := same_new (same_new s1 hD) hr
      refine q (p, r) _ (fun b u e => ?_) (Ne.symm hrp) hp ((same_new s1 hD).free hr) ⟨acc.reverse, 1, m, 0, ⟨?_, ?_, ?_, fun k hk => hnn k (List.mem_reverse.mp hk), by omega, m0, m1, by omega⟩⟩
      · rw [upd_ne (ne_of_none e hp)]
        exact s2 b u e
      · exact upd_same
      · rw [upd_ne hrp, upd_same, List.map_reverse]
      · rw [List.length_reverse, hacc, List.length_map]
        exact hlen
/-- the law: a list of ints, at most 63, and True -/
def spLaw (K : PySem.W.Frag) : Sp := fun vs H Q _ => ∃ (a : Addr) (ns : List Int), vs = [.ref a] ∧ SqL K H a (ns.map V.int) ∧ ns.length ≤ 63 ∧ ∀ H', Q (.bl true) H'
def startL (n : Nat) : En := .unk :: .val srcD :: List.replicate n .unk
def lawE : DEnds := { nx := fun _ => False, rt := fun d => d = .bool true }
theorem law_reading {K : PySem.W.Frag} {rest : TS} {m : DMS} {W : List Nat} {N : List Str} {n : Nat} {vs : List V} {H : Hp} {Q : VK} {E : XK} (hN : N.length = n + 2) (hs : ∀ S, DS K S rest m W) (hm : m (startL n) lawE) (h : spLaw K vs H Q E) :
    (tSeq (tAsg (tCall (spSource K) [] E0 (tCons (tVar 0) tNil)) (gName 1)) rest) { nx := fun _ H' => Q .non H', rt := Q } (L2.start N vs) H := by
  obtain ⟨a, ns, rfl, hS, hlen, q⟩ := h
  have hst : L2.start N [V.ref a] = some (.ref a) :: none :: List.replicate n none := by
    unfold L2.start
    rw [hN]
    rfl
  rw [hst]
  refine ⟨.ref a, rfl, a, ns, rfl, hS, hlen, fun p H' sm hne f1 f2 hsrc => ?_⟩
  obtain ⟨ns', l, mm, t, st⟩ := hsrc
  have E0 : EnvAt ⟨K, some p⟩ (fun _ => none) H' (startL n) (some (.ref a) :: some (.ref p.1) :: List.replicate n none) (fun _ => []) := by
    refine ⟨by simp [startL], fun b u h _ => (by cases h), st.at hne, fun i sl h => ?_, fun i j _ _ _ _ b hb => by cases hb⟩
    match i, h with
    | 0, h => cases h; rfl
    | 1, h => cases h; exact ⟨.ref p.1, rfl, src_rp rfl, .nil⟩
    | i + 2, h =>
      have : sl = .unk := List.eq_of_mem_replicate (List.mem_of_getElem? (show (List.replicate n Sl.unk)[i]? = some sl from h))
      subst this
      rfl
  refine hs (some p) _ _ _ _ _ E0 _ hm _ ⟨fun _ _ _ _ h => False.elim h, fun _ _ _ _ h => False.elim h, fun _ _ _ _ h => False.elim h, fun d v H2 fp hd _ _ r _ _ _ => ?_⟩
  have hd' : d = .bool true := hd
  subst hd'
  rw [rp_bl r]
  exact q H2
theorem law_of {X : Cx} {body : List Stmt} {K : PySem.W.Frag} {rest : TS} {m : DMS} {W : List Nat} {n : Nat} {vs : List V} {H : Hp} {Q : VK} {E : XK} (N : List Str) (hN : N.length = n + 2)
    (hp : PSs X body (tSeq (tAsg (tCall (spSource K) [] E0 (tCons (tVar 0) tNil)) (gName 1)) rest)) (hs : ∀ S, DS K S rest m W) (hm : m (startL n) lawE) (h : spLaw K vs H Q E) : ∃ t, PSs X body t ∧ t { nx := fun _ H' => Q .non H', rt := Q } (L2.start N vs) H :=
  ⟨_, hp, law_reading hN hs hm h⟩
end Z
set_option Elab.async false
set_option linter.all false
set_option maxRecDepth 100000
set_option maxHeartbeats 4000000
/-! Z10: more rules over data: +, unpacking a list, x op= e. -/
namespace Z
open PySem PySem.Spec PyProof.Rows L2
/-- tuple + tuple: a known object, or the one that is not empty -/
def rCatF (K : PySem.W.Frag) : R2 := fun x y H Q => ∃ a b xs ys, x = .ref a ∧ y = .ref b ∧ SqT K H a xs ∧ SqT K H b ys ∧ xs.length + ys.length ≤ sizeLine ∧
  (xs = [] → Q (.ref b) H) ∧ (xs ≠ [] → ys = [] → Q (.ref a) H) ∧ (xs ≠ [] → ys ≠ [] → ∀ p o, H p = none → o.dict = none → Q (.ref p) (upd H p (.frz o (.tup (xs ++ ys)))))
theorem op_catF {X : Cx} : OpR X (binaryOp .Add) (rCatF X.K) := fun pins s σ H x y v u Q I rx ry h => by
  obtain ⟨a, b, xs, ys, rfl, rfl, ha, hb, hz, q0, q1, q2⟩ := h
  by_cases hx : xs = []
  · exact op_catA pins s σ H _ _ v u Q I rx ry ⟨a, b, xs, ys, rfl, rfl, ha, hb, hz, q0, fun z => (z hx).elim, fun z => (z hx).elim⟩
  by_cases hy : ys = []
  · exact op_catA pins s σ H _ _ v u Q I rx ry ⟨a, b, xs, ys, rfl, rfl, ha, hb, hz, q0, q1, fun _ z => (z hy).elim⟩
  cases rx
  cases ry
  obtain ⟨its, r1, p1, _⟩ := I.tuple ha
  obtain ⟨jts, r2, p2, _⟩ := I.tuple hb
  have ne : its ≠ [] ∧ jts ≠ [] := ⟨fun z => hx (List.eq_nil_of_length_eq_zero (by rw [r1.length, z]; rfl)), fun z => hy (List.eq_nil_of_length_eq_zero (by rw [r2.length, z]; rfl))⟩
  refine HT.cat_tup p1 p2 ne.1 (fun z => (ne.2 z).elim) (fun _ => ?_) (by rw [← r1.length, ← r2.length]; exact hz)
  have e := Heap.get?_push_size s.heap (o := { cls := .type "tuple", data := .seq (its ++ jts).toArray }) rfl
  exact ⟨.ref s.heap.objs.size, _, I.laid (t' := s.toks) (o := .frz { cls := .type "tuple", data := .seq (its ++ jts).toArray } (.tup (xs ++ ys))) (fun b ob k => Heap.get?_push_of_some _ k) (Nat.le_refl _) ⟨e, by rw [List.length_append]; exact hz, _, r1.append r2, ⟨_, e, rfl, _, rfl⟩⟩, rfl, q2 hx hy _ _ (I.hok.fresh (Nat.le_refl _)) rfl⟩
/-- ints, texts, tuples, lists -/
def rAddZ (K : PySem.W.Frag) : R2 := fun x y H Q => rI0 (fun i j => .int (i + j)) x y H Q ∨ (∃ i j, x = .str i ∧ y = .str j ∧ i.length + j.length ≤ sizeLine ∧ Q (.str (i ++ j)) H) ∨ rCatF K x y H Q ∨ rCat x y H Q
theorem op_addZ {X : Cx} : OpR X (binaryOp .Add) (rAddZ X.K) := op_add.or (op_add_str.or (op_catF.or op_cat))
section
variable {K : PySem.W.Frag} {S : Option (Addr × Addr)}
def fAdd : D → D → (D → Prop) → Prop := fun x y R => match x with
  | .int i => asI y fun j => R (.int (i + j))
  | .str a => match y with
    | .str b => a.length + b.length ≤ 10000000 ∧ R (.str (a ++ b))
    | _ => False
  | .tuple a => match y with
    | .tuple b => solids a = true ∧ solids b = true ∧ a.length + b.length ≤ 10000000 ∧ R (.tuple (a ++ b))
    | _ => False
  | .list a => match y with
    | .list b => solids a = true ∧ solids b = true ∧ a.length + b.length ≤ 10000000 ∧ R (.list (a ++ b))
    | _ => False
  | _ => False
theorem od_add : OpD K S (rAddZ K) fAdd := fun H x y d e f1 f2 s r1 n1 r2 n2 R hf Q q => by
  cases d with
  | int i =>
    obtain ⟨j, rfl, hR⟩ := asI_ok (show asI e _ from hf)
    exact .inl ⟨i, j, rp_int r1, rp_int r2, q _ _ H [] hR (Ext.refl _ _) s (int_rp H) .nil List.nodup_nil fun b hb => by cases hb⟩
  | str a =>
    cases e with
    | str b =>
      obtain ⟨hl, hR⟩ := hf
      simp only [Rp] at r1 r2
      exact .inr (.inl ⟨a, b, r1.1, r2.1, lim_ok hl, q _ _ H [] hR (Ext.refl _ _) s (str_rp H) .nil List.nodup_nil fun b hb => by cases hb⟩)
    | _ => exact False.elim hf
  | tuple a =>
    cases e with
    | tuple b =>
      obtain ⟨h1, h2, hl, hR⟩ := hf
      have z1 := r1.solid _ _ _ (by simp only [solid]; exact h1)
      have z2 := r2.solid _ _ _ (by simp only [solid]; exact h2)
      subst z1 z2
      have r1' := r1
      have r2' := r2
      simp only [Rp] at r1 r2
      obtain ⟨l, xs, rfl, hl1, hs1⟩ := r1
      obtain ⟨k, ys, rfl, hl2, hs2⟩ := r2
      have both := hs1.app hs2
      refine .inr (.inr (.inl ⟨l, k, xs, ys, rfl, rfl, hl1.t, hl2.t, by rw [hs1.len, hs2.len]; exact lim_ok hl, fun hx => ?_, fun _ hy => ?_, fun _ _ p o hp ho => ?_⟩))
      · have ha : a = [] := List.eq_nil_of_length_eq_zero (by rw [← hs1.len, hx]; rfl)
        subst ha
        exact q _ _ H [] hR (Ext.refl _ _) s r2' .nil List.nodup_nil fun b hb => by cases hb
      · have hb : b = [] := List.eq_nil_of_length_eq_zero (by rw [← hs2.len, hy]; rfl)
        subst hb
        rw [List.append_nil] at hR
        exact q _ _ H [] hR (Ext.refl _ _) s r1' .nil List.nodup_nil fun b hb => by cases hb
      · have e := Ext.new (c := ⟨K, S⟩) (o := .frz o (.tup (xs ++ ys))) hp
        refine q _ (.ref p) _ [] hR e (s.new hp) ?_ .nil List.nodup_nil fun b hb => by cases hb
        simp only [Rp]
        exact ⟨p, _, rfl, .new ho, both.ext .nil e s⟩
    | _ => exact False.elim hf
  | list a =>
    cases e with
    | list b =>
      obtain ⟨h1, h2, hl, hR⟩ := hf
      simp only [Rp] at r1 r2
      obtain ⟨l, xs, g1, rfl, rfl, hl1, hs1⟩ := r1
      obtain ⟨k, ys, g2, rfl, rfl, hl2, hs2⟩ := r2
      have z1 := hs1.solid _ _ _ h1
      have z2 := hs2.solid _ _ _ h2
      subst z1 z2
      have both := hs1.app hs2
      refine .inr (.inr (.inr ⟨l, k, xs, ys, rfl, rfl, hl1, hl2, by rw [hs1.len, hs2.len]; exact lim_ok hl, fun p hp => ?_⟩))
      have e := Ext.new (c := ⟨K, S⟩) (o := .lst (xs ++ ys)) hp
      refine q _ (.ref p) _ [p] hR e (s.new hp) ?_ (fun b hb => by rw [List.mem_singleton.mp hb]; exact s.fresh hp) (List.pairwise_singleton _ _) fun b hb => by rw [List.mem_singleton.mp hb]; exact hp
      simp only [Rp]
      exact ⟨p, _, [], rfl, rfl, upd_same, both.ext .nil e s⟩
    | _ => exact False.elim hf
  | none => exact False.elim hf
  | bool b => exact False.elim hf
  | dict kvs => exact False.elim hf
/-- a, b = a list of that length -/
def asL (d : D) (k : List D → Prop) : Prop := match d with
  | .list ds => k ds
  | _ => False
def dgUnl (n : Nat) (ms : DMgs) : DMg := fun d ρ R => asL d fun ds => ds.length = n ∧ ms ds ρ R
/-- x op= e over ints -/
def sAugI (i : Nat) (f : Int → Int → Int) (m : DM) : DMS := fun ρ R => look ρ[i]? fun d => asI d fun a => m ρ fun e => asI e fun b => R.nx (ρ.set i (.own (.int (f a b))))
theorem ds_augI (i : Nat) {f : Int → Int → Int} {te : TE} {m : DM} {U : List Nat} (h : DE K S te m U) : DS K S (tAug i te (ipI f)) (sAugI i f m) [i] := fun G H ρ σ fps E R hm D d => by
  have v := de_var (K := K) (S := S) i G H ρ σ fps E (fun x => asI x fun a => m ρ fun e => asI e fun b => R.nx (ρ.set i (.own (.int (f a b))))) hm (fun x H' => H' = H → ∃ a, x = .int a ∧ m ρ fun e => asI e fun b => R.nx (ρ.set i (.own (.int (f a b))))) (fun d v H' fp hR e s r ns fr => by
    obtain ⟨a, rfl, ha⟩ := asI_ok hR
    exact fun _ => ⟨a, rp_int r, ha⟩)
  obtain ⟨x, ex, hx⟩ := v
  obtain ⟨a, rfl, ha⟩ := hx rfl
  refine ⟨.int a, ex, h G H ρ σ fps E _ ha _ fun y w H1 fp hR e1 s1 r n fr => ?_⟩
  obtain ⟨b, rfl, hb⟩ := asI_ok hR
  refine ⟨a, b, rfl, rp_int r, d.nx _ _ H1 _ hb ((E.step e1 s1).setOwn (int_rp H1) .nil List.nodup_nil (fun b hb => by cases hb) i fun j _ _ a ha => by cases ha) off_set⟩
end
end Z
set_option Elab.async false
set_option linter.all false
set_option maxRecDepth 100000
set_option maxHeartbeats 4000000
/-! Z11: helps for the plain part. -/
namespace Z
open PySem PySem.Spec PyProof.Rows L2
/-! ### comprehensions -/
section
variable {tg : DMg} {mt : DMt} {me : DM} {ρ : En} {R : List D → Prop}
theorem compD_acc {α : Type} (enc f : α → D) : ∀ (ys : List α) (acc : List D), (∀ y ∈ ys, ∀ (k : D → Prop) (k0 : Prop), k (f y) → tg (enc y) ρ fun ρ' => mt ρ' fun b => cond b (me ρ' k) k0) → R (acc ++ ys.map f) → compD tg mt me ρ R (ys.map enc) acc
  | [], acc, _, h => by simpa [compD] using h
  | y :: ys, acc, hs, h => by
    show tg (enc y) ρ fun ρ' => mt ρ' fun b => cond b (me ρ' fun z => compD tg mt me ρ R (ys.map enc) (acc ++ [z])) (compD tg mt me ρ R (ys.map enc) acc)
    exact hs y (List.mem_cons_self ..) _ _ (compD_acc enc f ys (acc ++ [f y]) (fun z hz => hs z (List.mem_cons_of_mem _ hz)) (by simpa using h))
/-- each item gives one -/
theorem compD_map {α : Type} {ys : List α} {enc : α → D} (f : α → D) (hs : ∀ y ∈ ys, ∀ (k : D → Prop) (k0 : Prop), k (f y) → tg (enc y) ρ fun ρ' => mt ρ' fun b => cond b (me ρ' k) k0) (h : R (ys.map f)) : compD tg mt me ρ R (ys.map enc) [] :=
  compD_acc enc f ys [] hs (by simpa using h)
theorem compD_facc {α : Type} (enc f : α → D) (p : α → Bool) : ∀ (ys : List α) (acc : List D), (∀ y ∈ ys, ∀ (k : D → Prop) (k0 : Prop), (p y = true → k (f y)) → (p y = false → k0) → tg (enc y) ρ fun ρ' => mt ρ' fun b => cond b (me ρ' k) k0) → R (acc ++ (ys.filter p).map f) → compD tg mt me ρ R (ys.map enc) acc
  | [], acc, _, h => by simpa [compD] using h
  | y :: ys, acc, hs, h => by
    show tg (enc y) ρ fun ρ' => mt ρ' fun b => cond b (me ρ' fun z => compD tg mt me ρ R (ys.map enc) (acc ++ [z])) (compD tg mt me ρ R (ys.map enc) acc)
    refine hs y (List.mem_cons_self ..) _ _ (fun hp => ?_) (fun hp => ?_)
    · exact compD_facc enc f p ys (acc ++ [f y]) (fun z hz => hs z (List.mem_cons_of_mem _ hz)) (by simpa [hp] using h)
    · exact compD_facc enc f p ys acc (fun z hz => hs z (List.mem_cons_of_mem _ hz)) (by simpa [hp] using h)
/-- those items that p takes give one each -/
theorem compD_filter {α : Type} {ys : List α} {enc : α → D} (f : α → D) (p : α → Bool) (hs : ∀ y ∈ ys, ∀ (k : D → Prop) (k0 : Prop), (p y = true → k (f y)) → (p y = false → k0) → tg (enc y) ρ fun ρ' => mt ρ' fun b => cond b (me ρ' k) k0) (h : R ((ys.filter p).map f)) : compD tg mt me ρ R (ys.map enc) [] :=
  compD_facc enc f p ys [] hs (by simpa using h)
theorem compD_dacc {α : Type} (enc : α → D) (A : α → Prop) : ∀ (xs : List D) (acc : List D), (∀ x ∈ xs, ∀ (k : D → Prop) (k0 : Prop), (∀ z, A z → k (enc z)) → tg x ρ fun ρ' => mt ρ' fun b => cond b (me ρ' k) k0) →
    (∀ zs : List α, zs.length = xs.length → (∀ z ∈ zs, A z) → R (acc ++ zs.map enc)) → compD tg mt me ρ R xs acc
  | [], acc, _, h => by
    have := h [] rfl (fun z hz => by cases hz)
    simpa [compD] using this
  | x :: xs, acc, hs, h => hs x (List.mem_cons_self ..) _ _ fun z hz => compD_dacc enc A xs (acc ++ [enc z]) (fun y hy => hs y (List.mem_cons_of_mem _ hy)) fun zs hl ha => by
    have := h (z :: zs) (by simp [hl]) (fun y hy => (List.mem_cons.mp hy).elim (fun e => e ▸ hz) (ha y))
    simpa using this
/-- each item gives one that is drawn -/
theorem compD_draw {α : Type} {xs : List D} {enc : α → D} {A : α → Prop} (hs : ∀ x ∈ xs, ∀ (k : D → Prop) (k0 : Prop), (∀ z, A z → k (enc z)) → tg x ρ fun ρ' => mt ρ' fun b => cond b (me ρ' k) k0)
    (h : ∀ zs : List α, zs.length = xs.length → (∀ z ∈ zs, A z) → R (zs.map enc)) : compD tg mt me ρ R xs [] :=
  compD_dacc enc A xs [] hs fun zs hl ha => by simpa using h zs hl ha
end
/-! ### loops -/
/-- I: what holds ahead of each turn -/
theorem forD_inv {mg : DMg} {mb : DMS} {F : List Nat} {R : DEnds} (I : Nat → En → Prop) : ∀ (xs : List D) (n : Nat) (ρ : En), I n ρ →
    (∀ i x ρ (Nx : En → Prop), xs[i]? = some x → I (n + i) ρ → (∀ ρ', I (n + i + 1) (hide F ρ') → Nx ρ') → mg x ρ fun ρ1 => mb ρ1 ⟨Nx, R.rt, fun ρ' => R.nx (hide F ρ'), Nx⟩) → (∀ ρ, I (n + xs.length) ρ → R.nx ρ) → forD mg mb F R xs ρ
  | [], n, ρ, h0, _, hd => hd ρ h0
  | x :: xs, n, ρ, h0, hs, hd => hs 0 x ρ _ rfl h0 fun ρ' h' => forD_inv I xs (n + 1) (hide F ρ') h' (fun i y ρ2 Nx e h2 h3 => by
      have := hs (i + 1) y ρ2 Nx (by simpa using e) (by rw [← Nat.add_assoc, Nat.add_right_comm]; exact h2) (fun ρ' h => h3 ρ' (by rw [← Nat.add_assoc, Nat.add_right_comm n i 1] at h; exact h))
      exact this) (fun ρ2 h2 => hd ρ2 (by rw [List.length_cons, Nat.add_comm xs.length 1, ← Nat.add_assoc]; exact h2))
/-! ### data of a shape -/
abbrev tI (xs : List Int) : D := .tuple (xs.map .int)
abbrev tII (xss : List (List Int)) : D := .tuple (xss.map tI)
theorem solids_of {α : Type} {f : α → D} : ∀ {xs : List α}, (∀ x ∈ xs, solid (f x) = true) → solids (xs.map f) = true
  | [], _ => by simp [solids]
  | x :: xs, h => by
    simp only [List.map_cons, solids, Bool.and_eq_true]
    exact ⟨h x (List.mem_cons_self ..), solids_of fun y hy => h y (List.mem_cons_of_mem _ hy)⟩
theorem solids_ints (xs : List Int) : solids (xs.map .int) = true := solids_of fun x _ => by simp [solid]
theorem solid_tI (xs : List Int) : solid (tI xs) = true := by simp only [solid]; exact solids_ints xs
theorem solids_tII (xss : List (List Int)) : solids (xss.map tI) = true := solids_of fun x _ => solid_tI x
theorem solid_tII (xss : List (List Int)) : solid (tII xss) = true := by simp only [solid]; exact solids_tII xss
theorem solid_int (i : Int) : solid (.int i) = true := by simp [solid]
theorem solid_bool (i : Bool) : solid (.bool i) = true := by simp [solid]
theorem solid_str (i : Str) : solid (.str i) = true := by simp [solid]
theorem solid_none : solid .none = true := by simp [solid]
theorem solid_tup (xs : List D) : solid (.tuple xs) = solids xs := by simp [solid]
theorem solids_cons (x : D) (xs : List D) : solids (x :: xs) = (solid x && solids xs) := by simp [solids]
theorem solids_nil : solids [] = true := by simp [solids]
theorem enumD_map {α : Type} (f : α → D) (xs : List α) : enumD (xs.map f) = xs.zipIdx.map fun p => .tuple [.int (p.2 : Nat), f p.1] := by
  unfold enumD
  apply List.ext_getElem?
  intro i
  rw [List.getElem?_map, List.getElem?_map, List.length_map]
  by_cases hi : i < xs.length
  · rw [List.getElem?_range hi, List.getElem?_zipIdx, List.getElem?_eq_getElem hi]
    simp [List.getD_eq_getElem?_getD, hi]
  · rw [List.getElem?_eq_none (by simpa using hi), List.getElem?_eq_none (by simpa using hi)]
    rfl
theorem rangeD_len (lo : Int) (n : Nat) (c : Int) : (rangeD lo n c).length = n := by simp [rangeD]
theorem atI_ok {α : Type} {xs : List α} {j : Nat} {i : Int} {x : α} (h : xs[j]? = some x) (e : i = (j : Int)) : atI xs i = some x := by
  subst e
  exact atI_nat h
theorem eqv_int (i j : Int) : PyData.eqv (.int i) (.int j) = (i == j) := by simp [PyData.eqv]
theorem eqv_str (i j : Str) : PyData.eqv (.str i) (.str j) = (i == j) := by simp [PyData.eqv]
/-- ints, texts, bools compared -/
def flat : D → Bool
  | .list _ | .tuple _ | .dict _ => false
  | _ => true
theorem flat_plain {d : D} (h : flat d = true) : d.plain = true ∧ d.depth = 0 := by
  cases d <;> first | (simp [flat] at h; done) | (exact ⟨by simp [PyData.plain, PyData.canLay0], by simp [PyData.depth]⟩)
theorem fEq_flat {neg : Bool} {x y : D} {R : D → Prop} (h1 : flat x = true) (h2 : flat y = true) (h : R (.bool (if neg then !PyData.eqv x y else PyData.eqv x y))) : fEq neg x y R :=
  ⟨(flat_plain h1).1, (flat_plain h2).1, by rw [(flat_plain h1).2]; omega, h⟩
theorem fEq_int {neg : Bool} {i j : Int} {R : D → Prop} (h : R (.bool (if neg then !(i == j) else (i == j)))) : fEq neg (.int i) (.int j) R := fEq_flat rfl rfl (by rw [eqv_int]; exact h)
theorem fEq_str {neg : Bool} {i j : Str} {R : D → Prop} (h : R (.bool (if neg then !(i == j) else (i == j)))) : fEq neg (.str i) (.str j) R := fEq_flat rfl rfl (by rw [eqv_str]; exact h)
end Z
set_option Elab.async false
set_option linter.all false
set_option maxRecDepth 100000
set_option maxHeartbeats 4000000
/-! Z12: in, index, slices, list(), zip. -/
namespace Z
open PySem PySem.Spec PyProof.Rows L2
/-! ### in -/
def rInZ (K : PySem.W.Frag) (neg : Bool) : R2 := fun x y H Q => ∃ d ds, Dp K H x d ∧ (Dp K H y (.list ds) ∨ Dp K H y (.tuple ds)) ∧ d.plain = true ∧ PyData.plainAll ds = true ∧ min (PyData.depthAll ds) d.depth ≤ 60 ∧
  Q (.bl (if neg then !ds.any fun z => PyData.eqv z d else ds.any fun z => PyData.eqv z d)) H
section
variable {X : Cx}
theorem op_inZ (hu : X.A.units + 64 < cLine) : OpR X (compareOp .In) (rInZ X.K false) := fun pins s σ H x y v u Q I rx ry h => by
  obtain ⟨d, ds, hd, he, pd, pe, hz, q⟩ := h
  obtain ⟨as, r1⟩ := Dp.reads I d x v hd rx
  rcases he with he | he
  · obtain ⟨bs, r2⟩ := Dp.reads I _ y u he ry
    exact SeqAt.in_list_data r2 r1 pe pd (by omega) ⟨.bl _, H, I, rfl, q⟩
  · obtain ⟨bs, r2⟩ := Dp.reads I _ y u he ry
    exact SeqAt.in_tuple_data r2 r1 pe pd (by omega) ⟨.bl _, H, I, rfl, q⟩
theorem op_notInZ (hu : X.A.units + 64 < cLine) : OpR X (compareOp .NotIn) (rInZ X.K true) := fun pins s σ H x y v u Q I rx ry h => by
  obtain ⟨d, ds, hd, he, pd, pe, hz, q⟩ := h
  obtain ⟨as, r1⟩ := Dp.reads I d x v hd rx
  rcases he with he | he
  · obtain ⟨bs, r2⟩ := Dp.reads I _ y u he ry
    exact SeqAt.notIn_list_data r2 r1 pe pd (by omega) ⟨.bl _, H, I, rfl, q⟩
  · obtain ⟨bs, r2⟩ := Dp.reads I _ y u he ry
    exact SeqAt.notIn_tuple_data r2 r1 pe pd (by omega) ⟨.bl _, H, I, rfl, q⟩
/-! ### t.index(x), l.index(x), ints -/
def tIndexZ (K : PySem.W.Frag) (to : TE) (t : TA) : TE := fun σ H Q => to σ H fun x H1 =>
  (∃ a, x = .ref a ∧ (∃ xs, SqL K H1 a xs) ∧ t σ H1 fun vs H2 => ∃ (k : Int) (ns : List Int), vs = [.int k] ∧ SqL K H2 a (ns.map V.int) ∧ k ∈ ns ∧ Q (.int (ns.idxOf k : Nat)) H2) ∨
  (∃ a, x = .ref a ∧ (∃ xs, SqD K H1 a xs) ∧ t σ H1 fun vs H2 => ∃ (k : Int) (ns : List Int), vs = [.int k] ∧ SqT K H2 a (ns.map V.int) ∧ k ∈ ns ∧ Q (.int (ns.idxOf k : Nat)) H2)
theorem SqD.typeIs {pins : List (Addr × Obj)} {σ : L2.St} {H : Hp} {s : Shared} {a : Addr} {xs : List V} (I : Inv X pins σ H s) (h : SqD X.K H a xs) : s.TypeIs (.ref a) "tuple" ∧ ∃ ob, s.heap.get? a = some ob ∧ ob.dict = none := by
  rcases h with ⟨o, h, e⟩ | ⟨o, its, n, h1, h2, h3, h4, h5, h6⟩
  · obtain ⟨ho, _, its, rv, o', ho', hc, hd⟩ := I.hok a _ h
    have eo : o = o' := by rw [ho] at ho'; exact Option.some.inj ho'
    subst eo
    exact ⟨⟨o, ho, hc⟩, o, ho, e⟩
  · have ho : s.heap.get? a = some o := I.kIn _ _ h1
    exact ⟨⟨o, ho, h2⟩, o, ho, h3⟩
theorem pe_indexZ {o e : Expr} {es : List Expr} {to : TE} {t : TA} {apos cpos : Pos} (ho : PE X o to) (ha : PA X (e :: es) t)
    (hbase : attributeBase o "index" X.env (eval o X.env) = eval o X.env := by rfl)
    (hfew : ((backTo cpos (starEach (e :: es) X.env)).all (fun x => !x.1) && (backToKw cpos (keywordEach [] X.env)).all (fun x => x.1.isSome) && decide ((e :: es).length + ([] : List Keyword).length + (if ([] : List Keyword).isEmpty then 0 else 1) < 30)) = true := by rfl)
    (hline : (apos.endLine == cpos.line) = true := by rfl) (hs : starEach (e :: es) X.env = (false, eval e X.env) :: starEach es X.env := by rfl) (hplain : (backTo cpos (starEach es X.env)).any (·.1) = false := by rfl) :
    PE X (.Call (.Attribute o "index" apos) (e :: es) [] cpos) (tIndexZ X.K to t) := by
  refine ⟨fun pins s σ H Q I h => ?_⟩
  refine wpAny_Call_method_late hbase hfew hline rfl (thn (ho.run pins s σ H _ I h) fun v s1 w => ?_)
  obtain ⟨x, H1, I1, r1, q1⟩ := w
  have plain : (false || (backTo cpos (starEach es X.env)).any (·.1)) = false := by rw [hplain]; rfl
  rcases q1 with ⟨a, rfl, ⟨xs, hx⟩, q⟩ | ⟨a, rfl, ⟨xs, hx⟩, q⟩
  · cases r1
    obtain ⟨its, rv, pl, _⟩ := I1.list hx
    refine ⟨"list", "list.index", F.plainAttrs_list, F.slot_list_index, F.type_list_index, pl.isList.typeIs, fun b hb => ?_, ?_⟩
    · cases hb
      obtain ⟨ob, n, h1, h2, h3, h4⟩ := pl
      exact ⟨ob, h1, h3⟩
    · have run := ha.run cpos pins s1 σ H1 _ I1 q
      rw [hs] at run ⊢
      refine Calls.callWith_builtin plain (Calls.evalArgs_plain (thn run fun us s2 w => ?_))
      obtain ⟨vs, H2, I2, r2, k, ns, rfl, hn, hk, q2⟩ := w
      obtain ⟨u, rfl, t', rfl⟩ := vals1 r2
      obtain ⟨jts, rw', pl2, hz⟩ := I2.list hn
      exact SeqAt.list_index_ints (vs := jts) pl2.isList (intsAre_of rw') (by simpa using hz) hk ⟨.int _, H2, I2.tok _, ⟨_, rfl⟩, q2⟩
  · cases r1
    obtain ⟨ty, ob, h1, h2⟩ := hx.typeIs I1
    refine ⟨"tuple", "tuple.index", F.plainAttrs_tuple, F.slot_tuple_index, F.type_tuple_index, ty, fun b hb => by cases hb; exact ⟨ob, h1, h2⟩, ?_⟩
    have run := ha.run cpos pins s1 σ H1 _ I1 q
    rw [hs] at run ⊢
    refine Calls.callWith_builtin plain (Calls.evalArgs_plain (thn run fun us s2 w => ?_))
    obtain ⟨vs, H2, I2, r2, k, ns, rfl, hn, hk, q2⟩ := w
    obtain ⟨u, rfl, t', rfl⟩ := vals1 r2
    obtain ⟨jts, rw', pl2, hz⟩ := I2.tuple hn
    exact SeqAt.tuple_index_ints (vs := jts) pl2 (intsAre_of rw') hk ⟨.int _, H2, I2.tok _, ⟨_, rfl⟩, q2⟩
end
section
variable {K : PySem.W.Frag} {S : Option (Addr × Addr)}
def fIn (neg : Bool) : D → D → (D → Prop) → Prop := fun x y R => match y with
  | .list ds => x.plain = true ∧ PyData.plainAll ds = true ∧ min (PyData.depthAll ds) x.depth ≤ 60 ∧ R (.bool (if neg then !ds.any fun z => PyData.eqv z x else ds.any fun z => PyData.eqv z x))
  | .tuple ds => x.plain = true ∧ PyData.plainAll ds = true ∧ min (PyData.depthAll ds) x.depth ≤ 60 ∧ R (.bool (if neg then !ds.any fun z => PyData.eqv z x else ds.any fun z => PyData.eqv z x))
  | _ => False
theorem od_in {neg : Bool} : OpD K S (rInZ K neg) (fIn neg) := .pure fun H x y d e f1 f2 r1 r2 R hf Q q => by
  cases e with
  | list ds =>
    obtain ⟨h1, h2, h3, hR⟩ := hf
    exact ⟨d, ds, r1.dp _ _ _ h1, .inl (r2.dp _ _ _ (by simpa only [PyData.plain] using h2)), h1, h2, h3, q _ _ hR bl_rp⟩
  | tuple ds =>
    obtain ⟨h1, h2, h3, hR⟩ := hf
    exact ⟨d, ds, r1.dp _ _ _ h1, .inr (r2.dp _ _ _ (by simpa only [PyData.plain] using h2)), h1, h2, h3, q _ _ hR bl_rp⟩
  | _ => exact False.elim hf
def dIndex (m : DM) (ms : DMs) : DM := fun ρ R => m ρ fun d => match d with
  | .list xs => ms ρ fun ys => ∃ (k : Int) (ns : List Int), ys = [.int k] ∧ xs = ns.map .int ∧ k ∈ ns ∧ R (.int (ns.idxOf k : Nat))
  | .tuple xs => ms ρ fun ys => ∃ (k : Int) (ns : List Int), ys = [.int k] ∧ xs = ns.map .int ∧ k ∈ ns ∧ R (.int (ns.idxOf k : Nat))
  | _ => False
theorem de_index {to : TE} {t : TA} {m : DM} {ms : DMs} {U V : List Nat} (h1 : DE K S to m U) (h2 : DA K S t ms V) : DE K S (tIndexZ K to t) (dIndex m ms) [] := fun G H ρ σ fps E R hm Q q =>
  h1 G H ρ σ fps E _ hm _ fun d v H1 fp hR e1 s1 r1 n1 f1 => by
    cases d with
    | list xs =>
      have r1' := r1
      simp only [Rp] at r1
      obtain ⟨a, vs, gp, rfl, rfl, ha, hv⟩ := r1
      refine .inl ⟨a, rfl, ⟨vs, .of ha⟩, h2 G H1 ρ σ fps (E.step e1 s1) _ hR _ fun ys us H2 gp2 hR2 e2 s2 r2 n2 f2 => ?_⟩
      obtain ⟨k, ns, rfl, rfl, hk, hR2⟩ := hR2
      obtain ⟨u, rfl, ru⟩ := rps_one r2
      obtain ⟨rfl, rfl⟩ := rps_ints hv
      exact ⟨k, ns, by rw [rp_int ru], .of (e2 _ _ ha (n1 a (List.mem_cons_self ..))), hk, q _ _ H2 [] hR2 (e1.trans e2) s2 (int_rp H2) .nil (.fresh (fun b hb => by cases hb) List.nodup_nil)⟩
    | tuple xs =>
      simp only [Rp] at r1
      obtain ⟨a, vs, rfl, ha, hv⟩ := r1
      refine .inr ⟨a, rfl, ⟨vs, ha⟩, h2 G H1 ρ σ fps (E.step e1 s1) _ hR _ fun ys us H2 gp2 hR2 e2 s2 r2 n2 f2 => ?_⟩
      obtain ⟨k, ns, rfl, rfl, hk, hR2⟩ := hR2
      obtain ⟨u, rfl, ru⟩ := rps_one r2
      obtain ⟨rfl, rfl⟩ := rps_ints hv
      exact ⟨k, ns, by rw [rp_int ru], (e2.tk s1).sq ha.t, hk, q _ _ H2 [] hR2 (e1.trans e2) s2 (int_rp H2) .nil (.fresh (fun b hb => by cases hb) List.nodup_nil)⟩
    | _ => exact False.elim hR
end
/-! ### slices -/
/-- the items that a slice takes -/
def cutL {α : Type} (xs : List α) (lo hi : Option Int) : List α := (xs.drop (HT.sIx xs.length 0 lo)).take (HT.sIx xs.length xs.length hi - HT.sIx xs.length 0 lo)
def IsAll (n : Nat) (lo hi : Option Int) : Prop := HT.sIx n 0 lo = 0 ∧ HT.sIx n n hi = n
theorem cutL_all {α : Type} {xs : List α} {lo hi : Option Int} (h : IsAll xs.length lo hi) : cutL xs lo hi = xs := by
  unfold cutL
  rw [h.1, h.2]
  simp
def rSlZ (K : PySem.W.Frag) : V → Option Int → Option Int → Hp → VK → Prop := fun x lo hi H Q =>
  (∃ a xs, x = .ref a ∧ SqL K H a xs ∧ ∀ p, H p = none → Q (.ref p) (upd H p (.lst (cutL xs lo hi)))) ∨
  (∃ a xs, x = .ref a ∧ SqT K H a xs ∧ (IsAll xs.length lo hi → Q (.ref a) H) ∧ (¬ IsAll xs.length lo hi → ∀ p o, H p = none → o.dict = none → Q (.ref p) (upd H p (.frz o (.tup (cutL xs lo hi)))))) ∨
  (∃ z, x = .str z ∧ z.length ≤ sizeLine ∧ Q (.str (cutS z lo hi)) H)
theorem sl_cutT {X : Cx} : SlR X (fun x lo hi H Q => ∃ a xs, x = .ref a ∧ SqT X.K H a xs ∧ (IsAll xs.length lo hi → Q (.ref a) H) ∧ (¬ IsAll xs.length lo hi → ∀ p o, H p = none → o.dict = none → Q (.ref p) (upd H p (.frz o (.tup (cutL xs lo hi)))))) := fun pins s σ H x v vl vu lo hi sl Q I rx hs pl pu h => by
  obtain ⟨a, xs, rfl, hx, q1, q2⟩ := h
  by_cases hw : IsAll xs.length lo hi
  · exact sl_tupA pins s σ H _ v vl vu lo hi sl Q I rx hs pl pu ⟨a, xs, rfl, hx, fun _ => q1 hw, fun z => (z hw).elim⟩
  · cases rx
    obtain ⟨its, r, ht, hz⟩ := I.tuple hx
    have el : its.toArray.size = xs.length := by rw [List.size_toArray]; exact r.length.symm
    refine ⟨"tuple", _, PyProof.Rows.slot_tuple_getitem.lookup, ht.typeIs, HT.getItem_tuple_cut ht hs pl pu (by rw [el]; exact hw) ?_ (by rw [el]; exact hz)⟩
    rw [el]
    have cr := (r.drop (HT.sIx xs.length 0 lo)).take (HT.sIx xs.length xs.length hi - HT.sIx xs.length 0 lo)
    have e := Heap.get?_push_size s.heap (o := { cls := .type "tuple", data := .seq ((its.drop (HT.sIx xs.length 0 lo)).take (HT.sIx xs.length xs.length hi - HT.sIx xs.length 0 lo)).toArray }) rfl
    exact ⟨.ref s.heap.objs.size, _, I.laid (t' := s.toks) (o := .frz { cls := .type "tuple", data := .seq ((its.drop (HT.sIx xs.length 0 lo)).take (HT.sIx xs.length xs.length hi - HT.sIx xs.length 0 lo)).toArray } (.tup (cutL xs lo hi))) (fun b ob w => Heap.get?_push_of_some _ w) (Nat.le_refl _)
      ⟨e, Nat.le_trans (cutV_length xs lo hi) hz, _, cr, ⟨_, e, rfl, _, rfl⟩⟩, rfl, q2 hw _ _ (I.hok.fresh (Nat.le_refl _)) rfl⟩
theorem sl_cut {X : Cx} : SlR X (rSlZ X.K) := SlR.or sl_list (SlR.or sl_cutT sl_str)
section
variable {K : PySem.W.Frag} {S : Option (Addr × Addr)}
abbrev DMo := En → (Option Int → Prop) → Prop
def DO (K : PySem.W.Frag) (S : Option (Addr × Addr)) (t : TO) (m : DMo) : Prop :=
  ∀ (G H : Hp) (ρ : En) (σ : L2.St) (fps : Nat → List Addr), EnvAt ⟨K, S⟩ G H ρ σ fps → ∀ R : Option Int → Prop, m ρ R → ∀ Q : Option Int → Hp → Prop,
    (∀ o H', R o → Ext ⟨K, S⟩ H H' → SrcAt ⟨K, S⟩ H' → Q o H') → t σ H Q
def dNo : DMo := fun _ R => R none
def dPart (m : DM) : DMo := fun ρ R => m ρ fun d => asI d fun i => R (some i)
theorem do_no : DO K S tNoPart dNo := fun G H ρ σ fps E R hm Q q => q none H hm (Ext.refl _ _) E.src
theorem do_part {t : TE} {m : DM} {U : List Nat} (h : DE K S t m U) : DO K S (tPart t) (dPart m) := fun G H ρ σ fps E R hm Q q =>
  h G H ρ σ fps E _ hm _ fun d v H1 fp hR e1 s1 r1 n1 f1 => by
    obtain ⟨i, rfl, hR⟩ := asI_ok hR
    exact ⟨i, rp_int r1, q _ H1 hR e1 s1⟩
/-- a slice of a list, a tuple without lists in it, a text -/
def fCut (d : D) (lo hi : Option Int) (R : D → Prop) : Prop := match d with
  | .list ds => solids ds = true ∧ R (.list (cutL ds lo hi))
  | .tuple ds => solids ds = true ∧ R (.tuple (cutL ds lo hi))
  | .str z => z.length ≤ 10000000 ∧ R (.str (cutS z lo hi))
  | _ => False
def dSlice (m : DM) (ml mh : DMo) : DM := fun ρ R => m ρ fun d => ml ρ fun lo => mh ρ fun hi => fCut d lo hi R
theorem Rps.drop {c : Zc} {H : Hp} : ∀ {ds : List D} {xs : List V}, Rps c H ds xs [] → ∀ n, Rps c H (ds.drop n) (xs.drop n) []
  | ds, xs, h, 0 => by simpa using h
  | [], xs, h, n + 1 => by
    simp only [Rps] at h
    rw [h.1]
    simp [Rps]
  | d :: ds, xs, h, n + 1 => by
    simp only [Rps] at h
    obtain ⟨x, ys, f1, f2, rfl, e, h1, h2⟩ := h
    obtain ⟨rfl, rfl⟩ := List.append_eq_nil_iff.mp e.symm
    exact Rps.drop h2 n
theorem Rps.take {c : Zc} {H : Hp} : ∀ {ds : List D} {xs : List V}, Rps c H ds xs [] → ∀ n, Rps c H (ds.take n) (xs.take n) []
  | ds, xs, h, 0 => by simp [Rps]
  | [], xs, h, n + 1 => by
    simp only [Rps] at h
    rw [h.1]
    simp [Rps]
  | d :: ds, xs, h, n + 1 => by
    simp only [Rps] at h
    obtain ⟨x, ys, f1, f2, rfl, e, h1, h2⟩ := h
    obtain ⟨rfl, rfl⟩ := List.append_eq_nil_iff.mp e.symm
    exact Rps.cons h1 (Rps.take h2 n)
theorem Rps.cut {c : Zc} {H : Hp} {ds : List D} {xs : List V} (h : Rps c H ds xs []) (lo hi : Option Int) : Rps c H (cutL ds lo hi) (cutL xs lo hi) [] := by
  unfold cutL
  rw [h.len]
  exact (h.drop _).take _
theorem de_slice {te : TE} {tl th : TO} {m : DM} {ml mh : DMo} {U : List Nat} (h : DE K S te m U) (hl : DO K S tl ml) (hh : DO K S th mh) : DE K S (tSl (rSlZ K) te tl th) (dSlice m ml mh) [] := fun G H ρ σ fps E R hm Q q =>
  h G H ρ σ fps E _ hm _ fun d v H1 fp hR e1 s1 r1 n1 f1 => hl G H1 ρ σ fps (E.step e1 s1) _ hR _ fun lo H2 hR e2 s2 => hh G H2 ρ σ fps (E.step (e1.trans e2) s2) _ hR _ fun hi H3 hR e3 s3 => by
    have r3 := (r1.ext n1 (e2.trans e3) s1)
    have ee := e1.trans (e2.trans e3)
    cases d with
    | list ds =>
      simp only [Rp] at r3
      obtain ⟨a, xs, gp, rfl, rfl, ha, hv⟩ := r3
      have z := hv.solid _ _ _ hR.1
      subst z
      refine .inl ⟨a, xs, rfl, .of ha, fun p hp => ?_⟩
      have e := Ext.new (c := ⟨K, S⟩) (o := .lst (cutL xs lo hi)) hp
      have hpn := s3.fresh hp
      refine q _ (.ref p) _ [p] hR.2 (ee.trans e) (s3.new hp) ?_ (fun b hb => by rw [List.mem_singleton.mp hb]; exact hpn) (.new (ee.free hp hpn))
      simp only [Rp]
      exact ⟨p, _, [], rfl, rfl, upd_same, (hv.cut lo hi).ext .nil e s3⟩
    | tuple ds =>
      have z := r3.solid _ _ _ (by simp only [solid]; exact hR.1)
      subst z
      have r3' := r3
      simp only [Rp] at r3
      obtain ⟨a, xs, rfl, ha, hv⟩ := r3
      refine .inr (.inl ⟨a, xs, rfl, ha.t, fun w => ?_, fun w p o hp ho => ?_⟩)
      · rw [hv.len] at w
        have hR2 := hR.2
        rw [cutL_all w] at hR2
        exact q _ _ H3 [] hR2 ee s3 r3' .nil (.fresh (fun b hb => by cases hb) List.nodup_nil)
      · have e := Ext.new (c := ⟨K, S⟩) (o := .frz o (.tup (cutL xs lo hi))) hp
        refine q _ (.ref p) _ [] hR.2 (ee.trans e) (s3.new hp) ?_ .nil (.fresh (fun b hb => by cases hb) List.nodup_nil)
        simp only [Rp]
        exact ⟨p, _, rfl, .new ho, (hv.cut lo hi).ext .nil e s3⟩
    | str z =>
      simp only [Rp] at r3
      obtain ⟨rfl, rfl⟩ := r3
      exact .inr (.inr ⟨z, rfl, lim_ok hR.1, q _ _ H3 [] hR.2 ee s3 (str_rp H3) .nil (.fresh (fun b hb => by cases hb) List.nodup_nil)⟩)
    | _ => exact False.elim hR
/-! ### list(xs), list(range(..)) -/
def fList : List D → (D → Prop) → Prop := fun ds R => match ds with
  | [.list xs] => solids xs = true ∧ R (.list xs)
  | [.tuple xs] => solids xs = true ∧ R (.list xs)
  | _ => False
def dListRg (m : DM) : DM := fun ρ R => m ρ fun d => asI d fun j => (-1000000000 ≤ j ∧ j ≤ 10000000) ∧ R (.list (rangeD 0 j.toNat 1))
theorem rg_rps {c : Zc} {H : Hp} {j : Int} : Rps c H (rangeD 0 j.toNat 1) (rgV 0 j) [] := by
  have e1 : rangeD 0 j.toNat 1 = ((List.range j.toNat).map fun (i : Nat) => (i : Int)).map .int := by
    unfold rangeD
    rw [List.map_map]
    exact List.map_congr_left fun i _ => by simp
  have e2 : rgV 0 j = ((List.range j.toNat).map fun (i : Nat) => (i : Int)).map .int := by
    unfold rgV
    rw [List.map_map, Int.sub_zero]
    exact List.map_congr_left fun i _ => by simp
  rw [e1, e2]
  generalize ((List.range j.toNat).map fun (i : Nat) => (i : Int)) = ns
  induction ns with
  | nil => simp [Rps]
  | cons n ns ih => exact Rps.cons (int_rp H) ih
theorem de_listRg {ta : TE} {m : DM} {U : List Nat} (h : DE K S ta m U) : DE K S (tLstRg (tRg1 ta)) (dListRg m) [] := fun G H ρ σ fps E R hm Q q =>
  h G H ρ σ fps E _ hm _ fun d v H1 fp hR e1 s1 r1 n1 f1 => by
    obtain ⟨j, rfl, hj, hR⟩ := asI_ok hR
    refine ⟨j, rp_int r1, ⟨by omega, by omega, by omega, by omega, by omega⟩, fun p hp => ?_⟩
    have e := Ext.new (c := ⟨K, S⟩) (o := .lst (rgV 0 j)) hp
    have hpn := s1.fresh hp
    refine q _ (.ref p) _ [p] hR (e1.trans e) (s1.new hp) ?_ (fun b hb => by rw [List.mem_singleton.mp hb]; exact hpn) (.new (e1.free hp hpn))
    simp only [Rp]
    exact ⟨p, _, [], rfl, rfl, upd_same, rg_rps⟩
end
end Z
set_option Elab.async false
set_option linter.all false
set_option maxRecDepth 100000
set_option maxHeartbeats 4000000
/-! Z13: sorted, zip. -/
namespace Z
open PySem PySem.Spec PyProof.Rows L2
/-! ### sorted(x): what x gives is collected, then sorted -/
section
open PySem.W
variable {prog : Program} {w : World} {A : Around} {E : Value → Shared → Prop} {s : Shared} {β : Type} {vs : List Value} {bs : List β} {enc : β → PyData} {R : Value → β → Prop}
/-- sorted's keywords: none, or reverse=b -/
inductive Rev : Bool → List (Str × Value) → Prop
  | no : Rev false []
  | of (b : Bool) : Rev b [(Str.ofString "reverse", .bool b)]
theorem sorted_any {x : Value} {b : Bool} {kw : List (Str × Value)} {Q : Value → Shared → Prop} (hr : Rev b kw)
    (col : ∀ (E' : Value → Shared → Prop) (Q' : List Value → Shared → Prop), (∀ h', (∀ c o, s.heap.get? c = some o → h'.get? c = some o) → Q' vs { s with heap := h' }) → wpAny (model prog w) A.in1 (collect x) Q' E' s)
    (e : EachIs R vs bs) (er : EachIs (fun v b => ∃ as, Reads s.heap v (enc b) as) vs bs) (hal : AllAlike (bs.map enc)) (hk : Sortable (bs.map enc)) (hL : bs.length ≤ sizeLine) (hu : ∀ b, b ∈ bs → A.units + 2 + (enc b).depth < cLine)
    (h : ∀ (out : List Value) (h1 h' : Heap) (n : Nat), EachIs R out (bs.mergeSort (dataLe b enc)) → (∀ c o, s.heap.get? c = some o → h1.get? c = some o) → (∀ c o, h1.get? c = some o → h'.get? c = some o) → h'.get? h1.objs.size = some (seqObj "list" (List.toArray out) n) → Q (.ref h1.objs.size) { s with heap := h' }) :
    wpAny (model prog w) A (call (.builtin "sorted") [x] kw) Q E s := by
  have hl : vs.length ≤ sizeLine := by rw [e.length]; exact hL
  refine call_function_entry_kw kind_sorted plain_sorted entry_sorted (by cases hr with | no => exact args_sorted1 _ | of b => exact args_sorted_rev _ _) ?_
  unfold Builtin.«sorted»
  refine wpAny_bind (m := checkCount "sorted" 1 1 _) (wpAny_pure ?_)
  refine wpAny_bind (col _ _ fun h1 k1 => ?_)
  refine wpAny_bind (wpAny_newList ?_ hl)
  have ho : (h1.push (seqObj "list" vs.toArray 0)).get? h1.objs.size = some (seqObj "list" vs.toArray 0) := Heap.get?_push_size _ rfl
  have keep : ∀ c o, s.heap.get? c = some o → (h1.push (seqObj "list" vs.toArray 0)).get? c = some o ∧ c ≠ h1.objs.size := fun c o q => ⟨Heap.get?_push_of_some _ (k1 c o q), Nat.ne_of_lt (Heap.lt_size (k1 c o q))⟩
  have er' : EachIs (fun v b => ∃ as, Reads (sortingHeap (h1.push (seqObj "list" vs.toArray 0)) h1.objs.size vs) v (enc b) as) vs bs :=
    er.mono fun _ _ ⟨as, r⟩ => ⟨as, PyProof.Rows.Reads.keeps (fun c o q => sortingHeap_old (keep c o q).2 (keep c o q).1) r⟩
  have S := SortsAt.data (prog := prog) (w := w) (A := A.in1.in1) (s := { s with heap := sortingHeap (h1.push (seqObj "list" vs.toArray 0)) h1.objs.size vs })
    (each_map (R := fun v d => ∃ as, Reads (sortingHeap (h1.push (seqObj "list" vs.toArray 0)) h1.objs.size vs) v d as) enc er') hal hk (bound_map hu)
  have fin : Q (.ref h1.objs.size) { s with heap := sortedHeap (h1.push (seqObj "list" vs.toArray 0)) h1.objs.size vs (sortVals (dataKind (sortingHeap (h1.push (seqObj "list" vs.toArray 0)) h1.objs.size vs) (bs.map enc)) b vs vs).toArray } := by
    obtain ⟨n, hn⟩ := sortedHeap_at (out := (sortVals (dataKind (sortingHeap (h1.push (seqObj "list" vs.toArray 0)) h1.objs.size vs) (bs.map enc)) b vs vs).toArray) ho
    refine h _ h1 _ n (sortVals_data b e er' hal) k1 (fun c o q => ?_) hn
    have lt := Heap.lt_size q
    rw [sortedHeap_old (Nat.ne_of_lt lt) (by rw [Heap.size_push]; exact Nat.lt_succ_of_lt lt)]
    exact Heap.get?_push_of_some _ q
  refine wpAny_bind (wpAny_holding (wpAny_call_entry_kw slot_list_sort ⟨_, ho, rfl⟩ entry_list_sort ?body (by cases hr with | no => exact args_list_sort _ | of b => exact args_list_sort_rev _ _)))
  case body =>
    cases hr with
    | no => exact list_sort_vals (s := { s with heap := h1.push (seqObj "list" vs.toArray 0) }) ho S hl ⟨_, rfl, wpAny_pure ⟨_, rfl, fin⟩⟩
    | of b => exact list_sort_rev_vals (s := { s with heap := h1.push (seqObj "list" vs.toArray 0) }) ho S hl ⟨_, rfl, wpAny_pure ⟨_, rfl, fin⟩⟩
end
/-! ### sorted over the layer -/
theorem vals_each : ∀ {xs : List V} {us : List Value} {ds : List D}, Vals xs us → xs.length = ds.length → PySem.W.EachIs (fun v (p : V × D) => RelV p.1 v) us (xs.zip ds)
  | [], _, [], .nil, _ => .nil
  | _ :: _, _, _ :: _, .cons r t, h => .cons r (vals_each t (by simpa using h))
  | [], _, _ :: _, _, h => by simp at h
  | _ :: _, _, [], _, h => by simp at h
theorem each_vals : ∀ {ps : List (V × D)} {us : List Value}, PySem.W.EachIs (fun v (p : V × D) => RelV p.1 v) us ps → Vals (ps.map (·.1)) us
  | [], _, .nil => .nil
  | _ :: _, _, .cons r t => .cons r (each_vals t)
theorem reads_each {h : Heap} : ∀ {xs : List V} {us : List Value} {ds : List D} {as : List Addr}, xs.length = ds.length → ReadsAll h us ds as → PySem.W.EachIs (fun v (p : V × D) => ∃ as, Reads h v p.2 as) us (xs.zip ds)
  | [], _, [], _, _, .nil => .nil
  | _ :: _, _, _ :: _, _, h, .cons r t => .cons ⟨_, r⟩ (reads_each (by simpa using h) t)
  | [], _, _ :: _, _, h, _ => by simp at h
  | _ :: _, _, [], _, h, _ => by simp at h
/-- the values, sorted as the data are -/
def sortV (b : Bool) (xs : List V) (ds : List D) : List V := ((xs.zip ds).mergeSort (PySem.W.dataLe b (·.2))).map (·.1)
def sortD (b : Bool) (ds : List D) : List D := ds.mergeSort (PySem.W.dataLe b id)
def SortOk (ds : List D) : Prop := PyData.plainAll ds = true ∧ PySem.W.AllAlike ds ∧ PySem.W.Sortable ds ∧ ds.length ≤ 10000000 ∧ PyData.depthAll ds ≤ 50
def rSortZ (K : PySem.W.Frag) (b : Bool) : List V → Hp → VK → Prop := fun vs H Q => ∃ a xs ds, vs = [V.ref a] ∧ (SqL K H a xs ∨ SqT K H a xs) ∧ DpAll K H xs ds ∧ xs.length = ds.length ∧ SortOk ds ∧ ∀ p, H p = none → Q (.ref p) (upd H p (.lst (sortV b xs ds)))
theorem depth_le {k : Nat} : ∀ {ds : List D}, PyData.depthAll ds ≤ k → ∀ d ∈ ds, d.depth ≤ k
  | d :: ds, h, e, he => by
    simp only [PyData.depthAll] at h
    rcases List.mem_cons.mp he with rfl | he
    · exact Nat.le_trans (Nat.le_max_left _ _) h
    · exact depth_le (Nat.le_trans (Nat.le_max_right _ _) h) e he
section
variable {X : Cx}
theorem sort_run {b : Bool} {kw : List (Str × Value)} (hr : Rev b kw) (hu : X.A.units + 64 < cLine) {pins : List (Addr × Obj)} {s : Shared} {σ : L2.St} {H : Hp} {vs : List V} {us : List Value} {Q : VK} (I : Inv X pins σ H s) (r : Vals vs us) (h : rSortZ X.K b vs H Q) :
    wpAny (model X.prog X.w) X.A (call (.builtin "sorted") us kw) (EP X pins σ Q) X.xe s := by
  obtain ⟨a, xs, ds, rfl, hs, hd, hl, ⟨h1, h2, h3, h4, h5⟩, q⟩ := h
  obtain ⟨u, rfl, ru⟩ := vals1 r
  cases ru
  have go : ∀ its : List Value, Vals xs its → (∀ (E' : Value → Shared → Prop) (Q' : List Value → Shared → Prop), (∀ h', (∀ c o, s.heap.get? c = some o → h'.get? c = some o) → Q' its { s with heap := h' }) → wpAny (model X.prog X.w) X.A.in1 (collect (.ref a)) Q' E' s) →
      wpAny (model X.prog X.w) X.A (call (.builtin "sorted") [.ref a] kw) (EP X pins σ Q) X.xe s := fun its rv col => by
    obtain ⟨as, rr⟩ := Dp.readsAll I ds _ its hd rv
    have emap : (xs.zip ds).map (·.2) = ds := by rw [List.map_snd_zip (Nat.le_of_eq hl.symm)]
    refine sorted_any (bs := xs.zip ds) (enc := (·.2)) hr col (vals_each rv hl) (reads_each hl rr) (by rw [emap]; exact h2) (by rw [emap]; exact h3) (by rw [List.length_zip]; exact Nat.le_trans (Nat.min_le_right _ _) (lim_ok h4)) (fun p hp => ?_) fun out g1 h' n e k1 k2 ho => ?_
    · have := depth_le h5 p.2 (List.of_mem_zip hp).2
      show X.A.units + 2 + p.2.depth < cLine
      omega
    · have J : Inv X pins σ H { s with heap := g1 } := I.kept (t' := s.toks) k1
      have rv' := each_vals e
      have hlen : (sortV b xs ds).length ≤ sizeLine := by
        unfold sortV
        rw [List.length_map, List.length_mergeSort, List.length_zip]
        exact Nat.le_trans (Nat.min_le_right _ _) (lim_ok h4)
      exact ⟨.ref g1.objs.size, _, J.laid (t' := s.toks) (o := .lst (sortV b xs ds)) k2 (Nat.le_refl _) ⟨hlen, out, n, rv', ho⟩, rfl, q _ (J.hok.fresh (Nat.le_refl _))⟩
  rcases hs with hs | hs
  · obtain ⟨its, rv, ⟨o, n, ho, hc, _, hdt⟩, hz⟩ := I.list hs
    exact go its rv fun E' Q' k => wpAny_collect_seq a (.inl rfl) ho hc hdt k (by rw [List.size_toArray, ← rv.length]; exact hz)
  · obtain ⟨its, rv, ⟨o, ho, hc, n, hdt⟩, hz⟩ := I.tuple hs
    exact go its rv fun E' Q' k => wpAny_collect_seq a (.inr rfl) ho hc hdt k (by rw [List.size_toArray, ← rv.length]; exact hz)
theorem cr_sortZ (hu : X.A.units + 64 < cLine) : CallR X (.builtin "sorted") (rSortZ X.K false) := fun pins s σ H vs us Q I r h => sort_run .no hu I r h
theorem cr_sortZR (hu : X.A.units + 64 < cLine) : CallRK X (.builtin "sorted") [Str.ofString "reverse"] (fun vs zs H Q => ∃ b, zs = [.bl b] ∧ rSortZ X.K b vs H Q) := fun pins s σ H vs zs us ws Q I r rz h => by
  obtain ⟨b, rfl, h⟩ := h
  obtain ⟨u, rfl, ru⟩ := vals1 rz
  cases ru
  exact sort_run (.of b) hu I r h
end
section
variable {K : PySem.W.Frag} {S : Option (Addr × Addr)}
def fSorted (b : Bool) : List D → (D → Prop) → Prop := fun ds R => match ds with
  | [.list xs] => solids xs = true ∧ SortOk xs ∧ R (.list (sortD b xs))
  | [.tuple xs] => solids xs = true ∧ SortOk xs ∧ R (.list (sortD b xs))
  | _ => False
theorem rps_pairs {c : Zc} {H : Hp} : ∀ {ps : List (V × D)}, (∀ p ∈ ps, Rp c H p.2 p.1 []) → Rps c H (ps.map (·.2)) (ps.map (·.1)) []
  | [], _ => .nil
  | p :: ps, h => Rps.cons (h p (List.mem_cons_self ..)) (rps_pairs fun q hq => h q (List.mem_cons_of_mem _ hq))
theorem pairs_rps {c : Zc} {H : Hp} : ∀ {ds : List D} {xs : List V}, Rps c H ds xs [] → ∀ p ∈ xs.zip ds, Rp c H p.2 p.1 []
  | [], xs, h, p, hp => by simp at hp
  | d :: ds, xs, h, p, hp => by
    simp only [Rps] at h
    obtain ⟨x, ys, f1, f2, rfl, e, h1, h2⟩ := h
    obtain ⟨rfl, rfl⟩ := List.append_eq_nil_iff.mp e.symm
    rw [List.zip_cons_cons] at hp
    rcases List.mem_cons.mp hp with rfl | hp
    · exact h1
    · exact pairs_rps h2 p hp
theorem rps_sort {c : Zc} {H : Hp} {ds : List D} {xs : List V} (b : Bool) (h : Rps c H ds xs []) : Rps c H (sortD b ds) (sortV b xs ds) [] := by
  have e : sortD b ds = ((xs.zip ds).mergeSort (PySem.W.dataLe b (·.2))).map (·.2) := by
    have e1 : (xs.zip ds).map (·.2) = ds := by rw [List.map_snd_zip (Nat.le_of_eq h.len.symm)]
    have e2 := List.map_mergeSort (r := PySem.W.dataLe b (fun p : V × D => p.2)) (s := PySem.W.dataLe b id) (f := fun p : V × D => p.2) (l := xs.zip ds) (fun a _ b' _ => rfl)
    rw [e2, e1]
    rfl
  rw [e]
  exact rps_pairs fun p hp => pairs_rps h p (List.mem_mergeSort.mp hp)
theorem sorted_fin {b : Bool} {H : Hp} {x : V} {xs : List D} {f : List Addr} (s : SrcAt ⟨K, S⟩ H) (rx : Rp ⟨K, S⟩ H (.list xs) x f ∨ Rp ⟨K, S⟩ H (.tuple xs) x f) (hs : solids xs = true) (ok : SortOk xs) {R : D → Prop} (hR : R (.list (sortD b xs))) {Q : VK}
    (q : ∀ z v H' fp, R z → Ext ⟨K, S⟩ H H' → SrcAt ⟨K, S⟩ H' → Rp ⟨K, S⟩ H' z v fp → NoS ⟨K, S⟩ fp → fp.Nodup → (∀ a ∈ fp, H a = none) → Q v H') : rSortZ K b [x] H Q := by
  have fin : ∀ (a : Addr) (ys : List V), (SqL K H a ys ∨ SqT K H a ys) → Rps ⟨K, S⟩ H xs ys [] → rSortZ K b [.ref a] H Q := fun a ys h1 h2 => by
    refine ⟨a, ys, xs, rfl, h1, h2.dp _ _ _ ok.1, h2.len, ok, fun l hl => ?_⟩
    have e := Ext.new (c := ⟨K, S⟩) (o := .lst (sortV b ys xs)) hl
    refine q _ (.ref l) _ [l] hR e (s.new hl) ?_ (fun c hc => by rw [List.mem_singleton.mp hc]; exact s.fresh hl) (List.pairwise_singleton _ _) fun c hc => by rw [List.mem_singleton.mp hc]; exact hl
    simp only [Rp]
    exact ⟨l, _, [], rfl, rfl, upd_same, (rps_sort b h2).ext .nil e s⟩
  rcases rx with rx | rx
  · simp only [Rp] at rx
    obtain ⟨a, ys, gp, rfl, rfl, h1, h2⟩ := rx
    have z := h2.solid _ _ _ hs
    subst z
    exact fin a ys (.inl (.of h1)) h2
  · have z := rx.solid _ _ _ (by simp only [solid]; exact hs)
    subst z
    simp only [Rp] at rx
    obtain ⟨a, ys, rfl, h1, h2⟩ := rx
    exact fin a ys (.inr h1.t) h2
theorem cd_sorted {b : Bool} : CallD K S (rSortZ K b) (fSorted b) := fun H xs ds fp s r n R hf Q q => by
  unfold fSorted at hf
  split at hf
  · obtain ⟨x, rfl, rx⟩ := rps_one r
    exact sorted_fin s (.inl rx) hf.1 hf.2.1 hf.2.2 q
  · obtain ⟨x, rfl, rx⟩ := rps_one r
    exact sorted_fin s (.inr rx) hf.1 hf.2.1 hf.2.2 q
  · exact False.elim hf
/-- sorted(x, reverse=True) -/
theorem de_sortR {t tk : TA} {ms : DMs} {U : List Nat} (h : DA K S t ms U) (hk : ∀ (σ : L2.St) (H : Hp) (Q : List V → Hp → Prop), Q [.bl true] H → tk σ H Q) : DE K S (tCKw (fun vs zs H Q => ∃ b, zs = [.bl b] ∧ rSortZ K b vs H Q) t tk) (dCall (fSorted true) ms) [] := fun G H ρ σ fps E R hm Q q =>
  h G H ρ σ fps E _ hm _ fun d v H1 fp hR e1 s1 r1 n1 f1 => hk _ _ _ ⟨true, rfl, cd_sorted H1 v d fp s1 r1 n1 _ hR _ fun z u H3 kp hz e3 s3 r3 n3 nd fr =>
    q z u H3 kp hz (e1.trans e3) s3 r3 n3 (.fresh (fun a ha => e1.free (fr a ha) (n3 a ha)) nd)⟩
end
end Z
set_option Elab.async false
set_option linter.all false
set_option maxRecDepth 100000
set_option maxHeartbeats 4000000
/-! Z14: things in a drawn sequence: its reading; zip. -/
namespace Z
open PySem PySem.Spec PyProof.Rows L2
abbrev listR (K : PySem.W.Frag) : List V → Hp → VK → Prop := fun xs H Q => ∃ p ys, xs = [.ref p] ∧ (SqL K H p ys ∨ SqT K H p ys) ∧ ∀ l, H l = none → Q (.ref l) (upd H l (.lst ys))
/-- the body of _law_mixed -/
def tMixed (K : PySem.W.Frag) (E : XK) : TS :=
  tSeq (tAsg (tCB (listR K) (tCons (tVar 1) tNil)) (gName 2))
    (tRet (tLc (iRng1 (tCons (tCB (lenR K) (tCons (tVar 2) tNil)) tNil)) (gName 3) tYes
      (tBM K "list" rPopAt (tVar 2) (tCons (tCall (spD K specPick) [] E (tCons (tVar 0) (tCons (tCB (lenR K) (tCons (tVar 2) tNil)) tNil))) tNil)) [3]))
def specMixed : List D → (D → Prop) → Prop := fun ds R => ∃ xs : List D, (ds = [srcD, .list xs] ∨ ds = [srcD, .tuple xs]) ∧ solids xs = true ∧ xs.length ≤ 1000000 ∧ ∀ ys : List D, ys.Perm xs → R (.list ys)
theorem rps_perm {c : Zc} {H : Hp} {as bs : List V} (p : as.Perm bs) : ∀ {ds : List D}, Rps c H ds bs [] → ∃ es : List D, es.Perm ds ∧ Rps c H es as [] := by
  induction p with
  | nil => exact fun h => ⟨_, List.Perm.refl _, h⟩
  | cons x _ ih =>
    intro ds h
    cases ds with
    | nil => simp [Rps] at h
    | cons d ds =>
      simp only [Rps] at h
      obtain ⟨y, ys, f1, f2, e, e2, h1, h2⟩ := h
      cases e
      obtain ⟨rfl, rfl⟩ := List.append_eq_nil_iff.mp e2.symm
      obtain ⟨es, h3, h4⟩ := ih h2
      exact ⟨d :: es, h3.cons d, Rps.cons h1 h4⟩
  | swap x y l =>
    intro ds h
    match ds, h with
    | [], h => simp [Rps] at h
    | [d], h =>
      simp only [Rps] at h
      obtain ⟨_, _, _, _, e, _, _, e2, _⟩ := h
      subst e2
      cases e
    | d1 :: d2 :: ds, h =>
      simp only [Rps] at h
      obtain ⟨y1, ys, f1, f2, e, e2, h1, y2, zs, f3, f4, e3, e4, h3, h4⟩ := h
      cases e
      cases e3
      subst e4
      obtain ⟨rfl, e5⟩ := List.append_eq_nil_iff.mp e2.symm
      obtain ⟨rfl, rfl⟩ := List.append_eq_nil_iff.mp e5
      exact ⟨d2 :: d1 :: ds, List.Perm.swap d1 d2 ds, Rps.cons h3 (Rps.cons h1 h4)⟩
  | trans _ _ ih1 ih2 =>
    intro ds h
    obtain ⟨es, h1, h2⟩ := ih2 h
    obtain ⟨fs, h3, h4⟩ := ih1 h2
    exact ⟨fs, h3.trans h1, h4⟩
theorem perm_erase {α : Type} {acc xs : List α} {k : Nat} {y : α} (h : xs[k]? = some y) : (acc ++ [y] ++ xs.eraseIdx k).Perm (acc ++ xs) := by
  obtain ⟨hk, e⟩ := List.getElem?_eq_some_iff.mp h
  rw [List.append_assoc]
  refine List.Perm.append_left _ ?_
  have : xs = xs.take k ++ y :: xs.drop (k + 1) := by
    rw [← e, ← List.drop_eq_getElem_cons hk, List.take_append_drop]
  rw [List.eraseIdx_eq_take_drop_succ]
  conv => rhs; rw [this]
  exact (List.perm_middle (a := y) (l₁ := xs.take k) (l₂ := xs.drop (k + 1))).symm
theorem seqIx_nat {j n : Nat} (h : j < n) : seqIndex? (j : Int) n = some j := by
  have e1 : ¬ ((j : Int) < 0) := by omega
  have e2 : (0 : Int) ≤ (j : Int) := by omega
  have e3 : (j : Int) < (n : Int) := by omega
  simp only [seqIndex?, e1, if_false, e2, e3, decide_true, Bool.and_true, if_true, Int.toNat_natCast]
theorem mixed_reading {K : PySem.W.Frag} {vs : List V} {H : Hp} {Q : VK} {E : XK} (h : spD K specMixed vs H Q E) : tMixed K E { nx := fun _ H' => Q .non H', rt := Q } (L2.start ["source", "things", "rest", "lap"] vs) H := by
  obtain ⟨S, ds, fp, R, r, ns0, s, ⟨xs, hds, hsol, hlen, hR⟩, q⟩ := h
  obtain ⟨v, p, ys, rfl, hp, hsq, hys⟩ : ∃ (v : V) (p : Addr) (ys : List V), vs = [v, .ref p] ∧ Rp ⟨K, S⟩ H srcD v [] ∧ (SqL K H p ys ∨ SqT K H p ys) ∧ Rps ⟨K, S⟩ H xs ys [] := by
    rcases hds with rfl | rfl
    · obtain ⟨v, w, f1, f2, rfl, rfl, rv, rw'⟩ := rps_two r
      obtain ⟨_, _, _, rfl⟩ := rp_src rv
      simp only [Rp] at rw'
      obtain ⟨a, ys, gp, rfl, rfl, h1, h2⟩ := rw'
      have z := h2.solid _ _ _ hsol
      subst z
      exact ⟨v, a, ys, rfl, rv, .inl (.of h1), h2⟩
    · obtain ⟨v, w, f1, f2, rfl, rfl, rv, rw'⟩ := rps_two r
      obtain ⟨_, _, _, rfl⟩ := rp_src rv
      have z := rw'.solid _ _ _ (by simp only [solid]; exact hsol)
      subst z
      simp only [Rp] at rw'
      obtain ⟨a, ys, rfl, h1, h2⟩ := rw'
      exact ⟨v, a, ys, rfl, rv, .inr h1.t, h2⟩
  have hst : L2.start ["source", "things", "rest", "lap"] [v, .ref p] = [some v, some (.ref p), none, none] := rfl
  rw [hst]
  refine ⟨.ref p, rfl, p, ys, rfl, hsq, fun l hl => ?_⟩
  have s1 : SrcAt ⟨K, S⟩ (upd H l (.lst ys)) := s.new hl
  have eln := s.fresh hl
  refine ⟨.ref l, rfl, .ref l, ys.length, rfl, .inl ⟨ys, .of upd_same, rfl⟩, _, rfl, by omega, by rw [hys.len]; omega, fun Dd hD => ?_⟩
  have hne : l ≠ Dd := fun z => by rw [← z, upd_same] at hD; cases hD
  have hDn := s1.fresh hD
  have w := walk_range (lo := 0) (n := (ys.length : Int).toNat)
  refine lc_it w (D := Dd) (fun i Hi => Ext ⟨K, S⟩ H Hi ∧ SrcAt ⟨K, S⟩ Hi ∧ ∃ lv acc : List V, Hi l = some (.lst lv) ∧ Hi Dd = some (.lst acc) ∧ (acc ++ lv).Perm ys ∧ acc.length = i) ?_ (fun _ _ _ _ => trivial) (fun i x Hi Hi' hlt P Y => ?_) fun Hn P => ?_
  · exact ⟨(Ext.new hl).trans (Ext.new hD), s1.new hD, ys, [], by rw [upd_ne hne]; exact upd_same, upd_same, List.Perm.refl _, rfl⟩
  · obtain ⟨ex, sx, lv, acc, hlv, hacc, perm, hi⟩ := P
    obtain ⟨rfl, rfl⟩ := Y
    have ltot : acc.length + lv.length = ys.length := by rw [← List.length_append]; exact perm.length_eq
    have hpos : 0 < lv.length := by
      have : i < ys.length := by simpa using hlt
      omega
    have yl := hys.len
    refine ⟨rfl, ?_⟩
    unfold tYes
    simp only [if_true]
    refine ⟨.ref l, rfl, .inl ⟨rfl, lv, .of hlv⟩, v, rfl, .ref l, rfl, .ref l, lv.length, rfl, .inl ⟨lv, .of hlv, rfl⟩, ?_⟩
    refine ⟨S, [srcD, .int lv.length], [], fun d => ∃ k : Int, d = .int k ∧ 0 ≤ k ∧ k < lv.length, (Rps.cons (fp := []) (gp := []) (hp.ext .nil ex s) (.one (int_rp _))), .nil, sx, ⟨lv.length, rfl, by omega, fun k h1 h2 => ⟨k, rfl, h1, by omega⟩⟩, ?_⟩
    rintro d u H4 gp ⟨k, rfl, k0, k1⟩ e4 s4 r4 _ _ _
    have eu := rp_int r4
    subst eu
    have hlv4 := e4 _ _ hlv eln
    have hacc4 := e4 _ _ hacc hDn
    obtain ⟨j, rfl⟩ := Int.eq_ofNat_of_zero_le k0
    have hj : j < lv.length := by omega
    refine ⟨l, lv, _, j, lv[j], rfl, rfl, hlv4, by omega, by omega, seqIx_nat hj, List.getElem?_eq_getElem hj, acc, by rw [upd_ne (Ne.symm hne)]; exact hacc4, Nat.lt_of_lt_of_le (by omega : acc.length < 10000000) (lim_ok (Nat.le_refl _)), ?_⟩
    refine ⟨fun b o hb hn => ?_, (s4.own eln).own hDn, lv.eraseIdx j, acc ++ [lv[j]], by rw [upd_ne hne]; exact upd_same, upd_same, (perm_erase (List.getElem?_eq_getElem hj)).trans perm, by simp [hi]⟩
    have b1 : b ≠ l := fun z => by rw [z, hl] at hb; cases hb
    have b2 : b ≠ Dd := fun z => by
      have := (Ext.new (c := ⟨K, S⟩) (o := .lst ys) hl) b o hb hn
      rw [z, hD] at this
      cases this
    rw [upd_ne b2, upd_ne b1]
    exact (ex.trans e4) b o hb hn
  · obtain ⟨ex, sx, lv, acc, hlv, hacc, perm, hi⟩ := P
    have ltot : acc.length + lv.length = ys.length := by rw [← List.length_append]; exact perm.length_eq
    have hnil : lv = [] := List.eq_nil_of_length_eq_zero (by
      have : acc.length = ys.length := by simpa using hi
      omega)
    subst hnil
    rw [List.append_nil] at perm
    obtain ⟨es, pe, re⟩ := rps_perm perm (hys.ext .nil ex s)
    have hDH : H Dd = none := by
      rw [← upd_ne (H := H) (o := .lst ys) (Ne.symm hne)]
      exact hD
    refine q (.list es) (.ref Dd) Hn [Dd] (hR es pe) ex sx ?_ (fun b hb => by rw [List.mem_singleton.mp hb]; exact hDn) (List.pairwise_singleton _ _) fun b hb => by rw [List.mem_singleton.mp hb]; exact hDH
    simp only [Rp]
    exact ⟨Dd, acc, [], rfl, rfl, hacc, re⟩
/-! ### zip of two lists, of two tuples -/
section
variable {K : PySem.W.Frag} {S : Option (Addr × Addr)}
def zipD (ds es : List D) : List D := List.zipWith (fun a b => .tuple [a, b]) ds es
def dZip (ms : DMs) : DMs := fun ρ R => ms ρ fun ds => match ds with
  | [.list xs, .list ys] => R (zipD xs ys)
  | [.tuple xs, .tuple ys] => R (zipD xs ys)
  | _ => False
end
end Z
set_option Elab.async false
set_option linter.all false
set_option maxRecDepth 100000
set_option maxHeartbeats 4000000
/-! Z15: the truth of a value; xs[i] = e. -/
namespace Z
open PySem PySem.Spec PyProof.Rows L2
section
variable {K : PySem.W.Frag} {S : Option (Addr × Addr)}
def tru (d : D) (R : Bool → Prop) : Prop := match d with
  | .none => R false
  | .bool b => R b
  | .int i => R (i != 0)
  | .list xs => R (!xs.isEmpty)
  | .tuple xs => R (!xs.isEmpty)
  | .str z => z.length ≤ 10000000 ∧ R ((z.length : Int) != 0)
  | _ => False
def dTru (m : DM) : DMt := fun ρ R => m ρ fun d => tru d R
theorem empty_eq {c : Zc} {H : Hp} {ds : List D} {xs : List V} {fp : List Addr} (h : Rps c H ds xs fp) : (!ds.isEmpty) = !xs.isEmpty := by
  have := h.len
  cases ds <;> cases xs <;> simp_all
theorem dt_tru {te : TE} {m : DM} {U : List Nat} (h : DE K S te m U) : DT K S (fun σ H Q => te σ H fun x H' => ∃ k, TruV K x H' k ∧ Q k H') (dTru m) := fun G H ρ σ fps E R hm Q q =>
  h G H ρ σ fps E _ hm _ fun d v H' fp hR e s r ns f => by
    cases d with
    | none => rw [show v = .non by simpa [Rp] using r.1]; exact ⟨false, rfl, q _ H' hR e s⟩
    | bool b => rw [rp_bl r]; exact ⟨b, rfl, q _ H' hR e s⟩
    | int i => rw [rp_int r]; exact ⟨_, rfl, q _ H' hR e s⟩
    | str z =>
      simp only [Rp] at r
      rw [r.1]
      exact ⟨_, ⟨lim_ok hR.1, rfl⟩, q _ H' hR.2 e s⟩
    | list ds =>
      simp only [Rp] at r
      obtain ⟨a, xs, gp, rfl, rfl, h1, h2⟩ := r
      exact ⟨_, .inl ⟨xs, .of h1, empty_eq h2⟩, q _ H' hR e s⟩
    | tuple ds =>
      simp only [Rp] at r
      obtain ⟨a, xs, rfl, h1, h2⟩ := r
      exact ⟨_, .inr (.inl ⟨xs, h1.t, empty_eq h2⟩), q _ H' hR e s⟩
    | dict kvs => exact False.elim hR
end
/-- a loop that folds: I, what holds at each state -/
theorem forD_fold {α τ : Type} {mg : DMg} {mb : DMS} {F : List Nat} {R : DEnds} (enc : α → D) (step : τ → α → τ) (I : τ → En → Prop) : ∀ (ys : List α) (t : τ) (ρ : En), I t ρ →
    (∀ y ∈ ys, ∀ t ρ (Nx Bk : En → Prop), I t ρ → (∀ ρ', I (step t y) (hide F ρ') → Nx ρ') → mg (enc y) ρ fun ρ1 => mb ρ1 ⟨Nx, R.rt, Bk, Nx⟩) → (∀ ρ, I (ys.foldl step t) ρ → R.nx ρ) → forD mg mb F R (ys.map enc) ρ
  | [], t, ρ, h0, _, hd => hd ρ h0
  | y :: ys, t, ρ, h0, hs, hd => hs y (List.mem_cons_self ..) t ρ _ _ h0 fun ρ' h' => forD_fold enc step I ys (step t y) (hide F ρ') h' (fun z hz => hs z (List.mem_cons_of_mem _ hz)) hd
/-- .. whose turns all go on to the next one -/
theorem forD_nx {mg : DMg} {mb : DMS} {F : List Nat} {R : DEnds} (I : Nat → En → Prop) (xs : List D) (n : Nat) (ρ : En) (h0 : I n ρ)
    (hs : ∀ i x ρ (E : DEnds), xs[i]? = some x → I (n + i) ρ → (∀ ρ', I (n + i + 1) (hide F ρ') → E.nx ρ') → mg x ρ fun ρ1 => mb ρ1 E) (hd : ∀ ρ, I (n + xs.length) ρ → R.nx ρ) : forD mg mb F R xs ρ :=
  forD_inv I xs n ρ h0 (fun i x ρ Nx hx hI hN => hs i x ρ _ hx hI hN) hd
theorem range_at {n : Nat} {i : Nat} {x : D} (h : (rangeD 0 n 1)[i]? = some x) : i < n ∧ x = .int ((i : Nat) : Int) := by
  have hi : i < n := by
    have := (List.getElem?_eq_some_iff.mp h).1
    rwa [rangeD_len] at this
  refine ⟨hi, ?_⟩
  unfold rangeD at h
  rw [List.getElem?_map, List.getElem?_range hi] at h
  have := Option.some.inj h
  rw [← this]
  simp
end Z
set_option Elab.async false
set_option linter.all false
set_option maxRecDepth 100000
set_option maxHeartbeats 4000000
/-! Z16: max, min, abs, chains, is None. -/
namespace Z
open PySem PySem.Spec PyProof.Rows L2
section
variable {K : PySem.W.Frag} {S : Option (Addr × Addr)}
def f2L (f : Int → Int → Int) : List D → (D → Prop) → Prop := fun ds R => match ds with
  | [x, y] => asI x fun i => asI y fun j => R (.int (f i j))
  | _ => False
theorem cd_2I {r : List V → Hp → VK → Prop} {f : Int → Int → Int} (h : ∀ i j H Q, Q (.int (f i j)) H → r [.int i, .int j] H Q) : CallD K S r (f2L f) := .pure fun H xs ds fp r' R hf Q q => by
  unfold f2L at hf
  split at hf
  · obtain ⟨i, e1, h2⟩ := asI_ok hf
    obtain ⟨j, e2, hR⟩ := asI_ok h2
    subst e1 e2
    obtain ⟨x, y, f1, f2, rfl, rfl, rx, ry⟩ := rps_two r'
    rw [rp_int rx, rp_int ry]
    exact h i j H Q (q _ _ hR int_rp)
  · exact False.elim hf
theorem cd_max2 : CallD K S (fun xs H Q => ∃ i j, xs = [.int i, .int j] ∧ Q (.int (if j > i then j else i)) H) (f2L fun i j => if j > i then j else i) := cd_2I fun i j H Q q => ⟨i, j, rfl, q⟩
theorem cd_min2 : CallD K S (fun xs H Q => ∃ i j, xs = [.int i, .int j] ∧ Q (.int (if j < i then j else i)) H) (f2L fun i j => if j < i then j else i) := cd_2I fun i j H Q q => ⟨i, j, rfl, q⟩
def fAbs : List D → (D → Prop) → Prop := fun ds R => match ds with
  | [.int i] => R (.int (if i < 0 then -i else i))
  | _ => False
def fMinL : List D → (D → Prop) → Prop := fun ds R => match ds with
  | [.list xs] => ∃ ns : List Int, xs = ns.map .int ∧ 0 < ns.length ∧ ∀ m, m ∈ ns → (∀ y, y ∈ ns → m ≤ y) → R (.int m)
  | _ => False
theorem cd_minL : CallD K S (rMin K) fMinL := .pure fun H xs ds fp r R hf Q q => by
  unfold fMinL at hf
  split at hf
  · obtain ⟨ns, rfl, hp, hR⟩ := hf
    obtain ⟨x, rfl, rx⟩ := rps_one r
    simp only [Rp] at rx
    obtain ⟨a, ys, gp, rfl, rfl, h1, h2⟩ := rx
    obtain ⟨rfl, rfl⟩ := rps_ints h2
    exact ⟨a, ns, rfl, .of h1, hp, fun m h3 h4 => q _ _ (hR m h3 h4) int_rp⟩
  · exact False.elim hf
/-- x is None -/
def isNone : D → Bool
  | .none => true
  | _ => false
def fIsN (neg : Bool) : D → D → (D → Prop) → Prop := fun x y R => match y with
  | .none => R (.bool (if neg then !isNone x else isNone x))
  | _ => False
/-- x op y op' z -/
def dChain (f f' : D → D → (D → Prop) → Prop) (ma mb mc : DM) : DM := fun ρ R => ma ρ fun x => mb ρ fun y => f x y fun z => asB z fun k => cond k (mc ρ fun w => f' y w R) (R (.bool false))
theorem de_chain {r r' : R2} {f f' : D → D → (D → Prop) → Prop} {ta tb tc : TE} {ma mb mc : DM} {U V W : List Nat} (h : OpD K S r f) (h' : OpD K S r' f') (ha : DE K S ta ma U) (hb : DE K S tb mb V) (hc : DE K S tc mc W) : DE K S (tChain r r' ta tb tc) (dChain f f' ma mb mc) [] := fun G H ρ σ fps E R hm Q q =>
  ha G H ρ σ fps E _ hm _ fun d v H1 fp hR e1 s1 r1 n1 f1 => hb G H1 ρ σ fps (E.step e1 s1) _ hR _ fun e w H2 gp hR2 e2 s2 r2 n2 f2 =>
    h H2 v w d e fp gp s2 (r1.ext n1 e2 s1) n1 r2 n2 _ hR2 _ fun z u H3 kp hz e3 s3 r3 n3 nd fr => by
      obtain ⟨k, rfl, hk⟩ := asB_ok hz
      have e13 := e1.trans (e2.trans e3)
      refine ⟨k, rp_bl r3, ?_⟩
      cases k with
      | true => exact iteT (hc G H3 ρ σ fps (E.step e13 s3) _ hk _ fun c x H4 hp hR4 e4 s4 r4 n4 f4 => h' H4 w x e c gp hp s4 ((r2.ext n2 e3 s2).ext n2 e4 s3) n2 r4 n4 _ hR4 _ fun z' u' H5 lp hz5 e5 s5 r5 n5 nd5 fr5 =>
          q z' u' H5 lp hz5 (e13.trans (e4.trans e5)) s5 r5 n5 (.fresh (fun a ha => (e13.trans e4).free (fr5 a ha) (n5 a ha)) nd5))
      | false => exact iteF (q (.bool false) (.bl false) H3 [] hk e13 s3 (bl_rp H3) .nil (.fresh (fun a ha => by cases ha) List.nodup_nil))
end
end Z
set_option Elab.async false
set_option linter.all false
set_option maxRecDepth 100000
set_option maxHeartbeats 4000000
/-! Z17: zip(a, b, strict=True) of sequences of one length. -/
set_option Elab.async false
set_option linter.all false
set_option maxRecDepth 100000
set_option maxHeartbeats 4000000
/-! Z18: zip(a, b, strict=True) over the layer: lists and tuples of one length. -/
namespace Z
open PySem PySem.Spec PyProof.Rows L2
def ItIs (k : Bool) (h : Heap) (it a : Addr) (i : Nat) : Prop := if k then h.IsTupleIter it a i else h.IsListIter it a i
section
variable {X : Cx} {pins : List (Addr × Obj)} {σ : L2.St} {H : Hp} {s : Shared}
theorem ItIs.at {k : Bool} {h h' : Heap} {it a : Addr} {i : Nat} (x : ItIs k h it a i) (e : ∀ o, h.get? it = some o → h'.get? it = some o) : ItIs k h' it a i := by
  cases k with
  | true => exact Heap.IsTupleIter.at x e
  | false => exact Heap.IsListIter.at x e
end
section
variable {K : PySem.W.Frag} {S : Option (Addr × Addr)}
def dZipS (ms : DMs) : DMs := fun ρ R => ms ρ fun ds => match ds with
  | [.list xs, .list ys] => xs.length = ys.length ∧ R (zipD xs ys)
  | [.tuple xs, .tuple ys] => xs.length = ys.length ∧ R (zipD xs ys)
  | [.list xs, .tuple ys] => xs.length = ys.length ∧ R (zipD xs ys)
  | [.tuple xs, .list ys] => xs.length = ys.length ∧ R (zipD xs ys)
  | _ => False
end
end Z
set_option Elab.async false
set_option linter.all false
set_option maxRecDepth 100000
set_option maxHeartbeats 4000000
/-! Z19: x[i] = e, x an own list. -/
namespace Z
open PySem PySem.Spec PyProof.Rows L2
section
variable {K : PySem.W.Frag} {S : Option (Addr × Addr)}
theorem Rps.set {c : Zc} {H : Hp} {y : D} {w : V} {fp : List Addr} (hw : Rp c H y w fp) : ∀ {ds : List D} {xs : List V} {gp : List Addr} {j : Nat}, Rps c H ds xs gp → j < ds.length →
    ∃ gp', Rps c H (ds.set j y) (xs.set j w) gp' ∧ (∀ b ∈ gp', b ∈ gp ∨ b ∈ fp) ∧ (gp.Nodup → fp.Nodup → (∀ b ∈ gp, b ∉ fp) → gp'.Nodup)
  | [], _, _, _, _, hj => absurd hj (Nat.not_lt_zero _)
  | d :: ds, xs, gp, 0, h, _ => by
    simp only [Rps] at h
    obtain ⟨x, ys, f1, f2, rfl, rfl, h1, h2⟩ := h
    refine ⟨fp ++ f2, .cons hw h2, fun b hb => ?_, fun n1 n2 n3 => ?_⟩
    · rcases List.mem_append.mp hb with z | z
      · exact .inr z
      · exact .inl (List.mem_append_right _ z)
    · exact List.nodup_append.mpr ⟨n2, (List.nodup_append.mp n1).2.1, fun a ha b hb e => n3 b (List.mem_append_right _ hb) (e ▸ ha)⟩
  | d :: ds, xs, gp, j + 1, h, hj => by
    simp only [Rps] at h
    obtain ⟨x, ys, f1, f2, rfl, rfl, h1, h2⟩ := h
    obtain ⟨g', k1, k2, k3⟩ := Rps.set hw (j := j) h2 (by simpa using hj)
    refine ⟨f1 ++ g', .cons h1 k1, fun b hb => ?_, fun n1 n2 n3 => ?_⟩
    · rcases List.mem_append.mp hb with z | z
      · exact .inl (List.mem_append_left _ z)
      · rcases k2 b z with z | z
        · exact .inl (List.mem_append_right _ z)
        · exact .inr z
    · obtain ⟨m1, m2, m3⟩ := List.nodup_append.mp n1
      refine List.nodup_append.mpr ⟨m1, k3 m2 n2 fun b hb => n3 b (List.mem_append_right _ hb), fun a ha b hb e => ?_⟩
      subst e
      rcases k2 a hb with z | z
      · exact m3 a ha a z rfl
      · exact n3 a (List.mem_append_left _ ha) z
/-- x[i] = e -/
def sSetI (i : Nat) (mi me : DM) : DMS := fun ρ R => me ρ fun y => ownL ρ[i]? fun ds => mi ρ fun d => asI d fun k => ∃ j, ixN ds.length k = some j ∧ j < ds.length ∧ R.nx (ρ.set i (.own (.list (ds.set j y))))
end
end Z
set_option Elab.async false
set_option linter.all false
set_option maxRecDepth 100000
set_option maxHeartbeats 4000000
/-! Z20: sum of a tuple, tuple(range), stars in displays, all, any. -/
namespace Z
open PySem PySem.Spec PyProof.Rows L2
/-! ### sum -/
def rSumA (K : PySem.W.Frag) : List V → Hp → VK → Prop := fun vs H Q => ∃ (a : Addr) (ns : List Int), vs = [V.ref a] ∧ (SqL K H a (ns.map V.int) ∨ SqT K H a (ns.map V.int)) ∧ Q (.int ns.sum) H
theorem cr_sumA {X : Cx} (hc : X.calm = true) : CallR X (.builtin "sum") (rSumA X.K) := fun pins s σ H vs us Q I r h => by
  obtain ⟨a, ns, rfl, hs, q⟩ := h
  rcases hs with hs | hs
  · exact cr_sum hc pins s σ H _ us Q I r ⟨a, ns, rfl, hs, q⟩
  · obtain ⟨its, rv, ht, _⟩ := I.tuple hs
    rw [Vals.ref1 r]
    have ht' : s.heap.IsTuple a its.toArray := ht
    obtain ⟨xs, e⟩ := rv.ints.allInts.items
    have hn : numsOf (intItems xs).toList = ns := by rw [← e]; exact rv.ints.numsOf
    rw [nums_intItems] at hn
    rw [e] at ht'
    refine PySem.W.ktm_sumG (I.ok.hd hc) ht' fun h' tk t' hk => ?_
    rw [preSum_eq, List.take_of_length_le (by simp), hn]
    exact ⟨.int _, H, I.kept hk, ⟨_, rfl⟩, q⟩
/-! ### tuple(range) -/
section
variable {K : PySem.W.Frag} {S : Option (Addr × Addr)}
/-- sum of a list, a tuple of ints -/
def fSumA : List D → (D → Prop) → Prop := fun ds R => match ds with
  | [.list xs] => ∃ ns : List Int, xs = ns.map .int ∧ R (.int ns.sum)
  | [.tuple xs] => ∃ ns : List Int, xs = ns.map .int ∧ R (.int ns.sum)
  | _ => False
theorem cd_sumA : CallD K S (rSumA K) fSumA := .pure fun H xs ds fp r R hf Q q => by
  unfold fSumA at hf
  split at hf
  · obtain ⟨ns, rfl, hR⟩ := hf
    obtain ⟨x, rfl, rx⟩ := rps_one r
    simp only [Rp] at rx
    obtain ⟨a, ys, gp, rfl, rfl, h1, h2⟩ := rx
    obtain ⟨rfl, rfl⟩ := rps_ints h2
    exact ⟨a, ns, rfl, .inl (.of h1), q _ _ hR int_rp⟩
  · obtain ⟨ns, rfl, hR⟩ := hf
    obtain ⟨x, rfl, rx⟩ := rps_one r
    simp only [Rp] at rx
    obtain ⟨a, ys, rfl, h1, h2⟩ := rx
    obtain ⟨rfl, rfl⟩ := rps_ints h2
    exact ⟨a, ns, rfl, .inr h1.t, q _ _ hR int_rp⟩
  · exact hf.elim
def dTupRg (m : DM) : DM := fun ρ R => m ρ fun d => asI d fun j => (-1000000000 ≤ j ∧ j ≤ 10000000) ∧ R (.tuple (rangeD 0 j.toNat 1))
/-! ### *e in a display -/
def asSeq (d : D) (k : List D → Prop) : Prop := match d with
  | .list xs => k xs
  | .tuple xs => k xs
  | _ => False
def dStar (m : DM) (ms : DMs) : DMs := fun ρ R => m ρ fun d => asSeq d fun xs => ms ρ fun ds => R (xs ++ ds)
/-! ### all, any -/
def fAll : List D → (D → Prop) → Prop := fun ds R => match ds with
  | [.list xs] => ∃ bs : List Bool, xs = bs.map .bool ∧ R (.bool (bs.all id))
  | _ => False
def fAny : List D → (D → Prop) → Prop := fun ds R => match ds with
  | [.list xs] => ∃ bs : List Bool, xs = bs.map .bool ∧ R (.bool (bs.any id))
  | _ => False
/-! ### three at once -/
def sPar3 (i j l : Nat) (ms : DMs) : DMS := fun ρ R => ms ρ fun ds => match ds with
  | [x, y, z] => R.nx (((ρ.set i (.own x)).set j (.own y)).set l (.own z))
  | _ => False
end
end Z
set_option Elab.async false
set_option linter.all false
set_option maxRecDepth 100000
set_option maxHeartbeats 4000000
/-! Z21: isinstance, list + list of any data. -/
namespace Z
open PySem PySem.Spec PyProof.Rows L2
def isInt : D → Bool
  | .int _ => true
  | .bool _ => true
  | _ => false
def isBool : D → Bool
  | .bool _ => true
  | _ => false
def isStr : D → Bool
  | .str _ => true
  | _ => false
def isTuple : D → Bool
  | .tuple _ => true
  | _ => false
def isList : D → Bool
  | .list _ => true
  | .dict kvs => isFrz kvs
  | _ => false
def isDict : D → Bool
  | .dict kvs => !isFrz kvs
  | _ => false
section
variable {K : PySem.W.Frag} {S : Option (Addr × Addr)}
/-- no dict whose keys are tuples -/
def noFrz : D → Prop
  | .dict kvs => isFrz kvs = true ∨ (kvs.all fun p => !isTuple p.1) = true
  | _ => True
def fIsi (f : D → Bool) (d : D) (R : D → Prop) : Prop := match d with
  | .dict kvs => (isFrz kvs = true ∨ (kvs.all fun p => !isTuple p.1) = true) ∧ R (.bool (f (.dict kvs)))
  | .none => R (.bool (f .none))
  | .bool b => R (.bool (f (.bool b)))
  | .int i => R (.bool (f (.int i)))
  | .str x => R (.bool (f (.str x)))
  | .list ds => R (.bool (f (.list ds)))
  | .tuple ds => R (.bool (f (.tuple ds)))
def dIsi (f : D → Bool) (m : DM) : DM := fun ρ R => m ρ fun d => fIsi f d R
/-! ### list + list, whatever they hold -/
def dAddN (ma mb : DM) : DM := fun ρ R => ma ρ fun x => mb ρ fun y => match x with
  | .list a => match y with
    | .list b => a.length + b.length ≤ 10000000 ∧ R (.list (a ++ b))
    | _ => False
  | _ => False
end
end Z
set_option Elab.async false
set_option linter.all false
set_option maxRecDepth 100000
set_option maxHeartbeats 4000000
/-! Z22: dict(pairs) whose keys are tuples of ints: sorted of it, how many keys. -/
namespace Z
open PySem PySem.Spec PyProof.Rows L2
/-! ### the dict -/
/-- a dict with such keys, in this sequence -/
def KdO (a : Addr) (ks : List Value) : HO := .ext fun h => (a == sysModules) = false ∧ ks.length ≤ 10000000 ∧ ∃ es ep, h.DictRaw a es ep ∧ es.toList.map (·.key) = ks
/-! ### sorted of it, its length -/
theorem KdO.ok {X : Cx} {pins : List (Addr × Obj)} {s : Shared} {σ : L2.St} {H : Hp} (I : Inv X pins σ H s) {p : Addr} {ks : List Value} (h : H p = some (KdO p ks)) : (p == sysModules) = false ∧ ks.length ≤ 10000000 ∧ ∃ es ep, s.heap.DictRaw p es ep ∧ es.toList.map (·.key) = ks :=
  (show ObjOk X.prog X.w H s.heap p (KdO p ks) from I.hok p _ h).1
/-! ### over data -/
section
variable {K : PySem.W.Frag} {S : Option (Addr × Addr)}
/-- a list of pairs whose first ones are tuples of ints -/
def asPairs (d : D) (k : List (List Int) → Prop) : Prop := match d with
  | .list ps => ∃ qs : List (List Int × D), ps = qs.map (fun q => .tuple [tI q.1, q.2]) ∧ (∀ q ∈ qs, solid q.2 = true) ∧ qs.length ≤ 10000000 ∧ ∀ ks : List (List Int), ks.Nodup → (∀ n, n ∈ ks ↔ n ∈ qs.map (·.1)) → k ks
  | _ => False
def dSortDict (m : DM) : DM := fun ρ R => m ρ fun d => asPairs d fun ks => SortOk (ks.map tI) ∧ R (.list (sortD false (ks.map tI)))
def dLenDict (m : DM) : DM := fun ρ R => m ρ fun d => asPairs d fun ks => R (.int ((ks.length : Nat) : Int))
end
/-! ### max of a list, a tuple -/
def rMaxA (K : PySem.W.Frag) : List V → Hp → VK → Prop := fun vs H Q => ∃ (a : Addr) (ns : List Int), vs = [V.ref a] ∧ (SqL K H a (ns.map V.int) ∨ SqT K H a (ns.map V.int)) ∧ 0 < ns.length ∧ ∀ m, m ∈ ns → (∀ y, y ∈ ns → y ≤ m) → Q (.int m) H
theorem foldl_max : ∀ (ns : List Int) (n : Int), ns.foldl max n ∈ n :: ns ∧ ∀ y, y ∈ n :: ns → y ≤ ns.foldl max n
  | [], n => ⟨List.mem_cons_self .., fun y hy => by rw [List.mem_singleton.mp hy]; exact Int.le_refl _⟩
  | k :: ns, n => by
    obtain ⟨h1, h2⟩ := foldl_max ns (max n k)
    rw [List.foldl_cons]
    constructor
    · rcases List.mem_cons.mp h1 with z | z
      · rw [z]
        rcases Int.le_total n k with y | y
        · rw [Int.max_eq_right y]; simp
        · rw [Int.max_eq_left y]; simp
      · exact List.mem_cons_of_mem _ (List.mem_cons_of_mem _ z)
    · intro y hy
      have hm := h2 (max n k) (List.mem_cons_self ..)
      rcases List.mem_cons.mp hy with rfl | hy
      · omega
      · rcases List.mem_cons.mp hy with rfl | hy
        · omega
        · exact h2 y (List.mem_cons_of_mem _ hy)
theorem cr_maxA {X : Cx} (hc : X.calm = true) (hu : X.A.units + 64 < cLine) : CallR X (.builtin "max") (rMaxA X.K) := fun pins s σ H vs us Q I r h => by
  obtain ⟨a, ns, rfl, hs, hp, q⟩ := h
  rcases hs with hs | hs
  · exact cr_max hc pins s σ H _ us Q I r ⟨a, ns, rfl, hs, hp, q⟩
  · obtain ⟨its, rv, ht, _⟩ := I.tuple hs
    rw [Vals.ref1 r]
    cases ns with
    | nil => cases hp
    | cons n ns =>
      have rr : ReadsAll s.heap its.toArray.toList (.int n :: ns.map .int) [] := by
        have := rv.ints.reads s.heap
        exact this
      have dz : PyData.depthAll (.int n :: ns.map .int) = 0 := by
        have := PySem.W.depth_ints (n :: ns)
        exact this
      refine PySem.W.max_tuple_data (I.ok.hd hc) ht rr ?_ (by rw [dz]; omega) fun i v h' tk bs hv r k => ?_
      · refine ⟨fun x hx y hy => ?_, fun x hx => ?_⟩
        · obtain ⟨i, _, rfl⟩ := List.mem_map.mp (show x ∈ (n :: ns).map PyData.int from hx)
          obtain ⟨j, _, rfl⟩ := List.mem_map.mp (show y ∈ (n :: ns).map PyData.int from hy)
          simp only [PySem.W.alike]
        · obtain ⟨i, _, rfl⟩ := List.mem_map.mp (show x ∈ (n :: ns).map PyData.int from hx)
          intro z
          cases z
      · rw [PySem.W.maxD_ints] at r
        obtain ⟨h1, h2⟩ := foldl_max ns n
        generalize ns.foldl max n = m at *
        cases r
        exact ⟨.int m, H, I.kept k, ⟨_, rfl⟩, q m h1 h2⟩
section
variable {K : PySem.W.Frag} {S : Option (Addr × Addr)}
def fMaxA : List D → (D → Prop) → Prop := fun ds R => match ds with
  | [.list xs] => ∃ ns : List Int, xs = ns.map .int ∧ 0 < ns.length ∧ ∀ m, m ∈ ns → (∀ y, y ∈ ns → y ≤ m) → R (.int m)
  | [.tuple xs] => ∃ ns : List Int, xs = ns.map .int ∧ 0 < ns.length ∧ ∀ m, m ∈ ns → (∀ y, y ∈ ns → y ≤ m) → R (.int m)
  | _ => False
theorem cd_maxA : CallD K S (rMaxA K) fMaxA := .pure fun H xs ds fp r R hf Q q => by
  unfold fMaxA at hf
  split at hf
  · obtain ⟨ns, rfl, hp, hR⟩ := hf
    obtain ⟨x, rfl, rx⟩ := rps_one r
    simp only [Rp] at rx
    obtain ⟨a, ys, gp, rfl, rfl, h1, h2⟩ := rx
    obtain ⟨rfl, rfl⟩ := rps_ints h2
    exact ⟨a, ns, rfl, .inl (.of h1), hp, fun m h3 h4 => q _ _ (hR m h3 h4) int_rp⟩
  · obtain ⟨ns, rfl, hp, hR⟩ := hf
    obtain ⟨x, rfl, rx⟩ := rps_one r
    simp only [Rp] at rx
    obtain ⟨a, ys, rfl, h1, h2⟩ := rx
    obtain ⟨rfl, rfl⟩ := rps_ints h2
    exact ⟨a, ns, rfl, .inr h1.t, hp, fun m h3 h4 => q _ _ (hR m h3 h4) int_rp⟩
  · exact hf.elim
end
end Z
set_option Elab.async false
set_option linter.all false
set_option maxRecDepth 100000
set_option maxHeartbeats 4000000
/-! Z23: xs[::-1] of lists and tuples. -/
namespace HT
open PySem PySem.Spec PyProof.Rows
section
variable {prog : Program} {w : World} {A : Around} {E : Value → Shared → Prop} {s : Shared}
theorem sliceApplied_rev {sl : Addr} {vl vu vs : Value} {n : Nat} {Q : Int × Int × Nat → Shared → Prop} (hs : s.heap.IsSliceOf sl vl vu vs) (pl : IsPart vl none) (pu : IsPart vu none) (ps : IsPart vs (some (-1)))
    (h : Q ((n : Int) - 1, -1, n) s) : wpAny (model prog w) A (Builtin.Slice.sliceApplied (.ref sl) (pure (n : Int))) Q E s := by
  obtain ⟨os, hos, hcs, hds⟩ := id hs
  unfold Builtin.Slice.sliceApplied Builtin.Slice.sliceFields
  refine wpAny_bind (wpAny_bind (wpAny_field hos hds (x := vl) rfl (wpAny_bind (wpAny_field hos hds (x := vu) rfl (wpAny_bind (wpAny_field hos hds (x := vs) rfl (wpAny_pure ?_)))))))
  refine wpAny_bind (slicePart_ ps ?_)
  show wpAny _ _ (if ((-1 : Int) == 0) = true then _ else _) _ _ s
  rw [if_neg (by decide)]
  refine wpAny_bind (slicePart_ pl (wpAny_bind (slicePart_ pu (wpAny_bind (wpAny_pure ?_)))))
  show wpAny _ _ (match Builtin.Slice.sliceAdjust none none (-1) (n : Int) with | (lo, hi) => pure (lo, (-1 : Int), Builtin.Slice.slicePlaces lo hi (-1))) _ _ s
  have e : Builtin.Slice.sliceAdjust none none (-1) (n : Int) = ((n : Int) - 1, -1) := rfl
  rw [e]
  show wpAny _ _ (pure ((n : Int) - 1, (-1 : Int), Builtin.Slice.slicePlaces ((n : Int) - 1) (-1) (-1))) _ _ s
  have e2 : Builtin.Slice.slicePlaces ((n : Int) - 1) (-1) (-1) = n := by
    unfold Builtin.Slice.slicePlaces
    have h1 : ¬ ((-1 : Int) > 0) := by omega
    have h2 : (- (-1) : Int) = 1 := by omega
    simp only [h1, if_false, h2, Int.ediv_one]
    split <;> omega
  rw [e2]
  exact wpAny_pure h
theorem pick_rev (xs : Array Value) : ((List.range xs.size).filterMap fun (m : Nat) => xs[(((xs.size : Int) - 1) + (m : Int) * (-1)).toNat]?).toArray = xs.toList.reverse.toArray := by
  have e : ((List.range xs.size).filterMap fun (m : Nat) => xs[(((xs.size : Int) - 1) + (m : Int) * (-1)).toNat]?) = ((List.range xs.size).map fun k => xs.size - 1 - k).filterMap (xs[·]?) := by
    rw [List.filterMap_map]
    congr 1
    funext m
    have : (((xs.size : Int) - 1) + (m : Int) * (-1)).toNat = xs.size - 1 - m := by omega
    show xs[(((xs.size : Int) - 1) + (m : Int) * (-1)).toNat]? = xs[xs.size - 1 - m]?
    rw [this]
  rw [e, PySem.W.krv_range, List.filterMap_reverse, PySem.W.krv_all]
theorem getItem_tuple_rev {t sl : Addr} {items : Array Value} {vl vu vs : Value} {Q : Value → Shared → Prop} (ht : IsTup s.heap t items) (hs : s.heap.IsSliceOf sl vl vu vs) (pl : IsPart vl none) (pu : IsPart vu none) (ps : IsPart vs (some (-1)))
    (h : Q (.ref s.heap.objs.size) { s with heap := s.heap.push { cls := .type "tuple", data := .seq items.toList.reverse.toArray } })
    (hsz : items.size ≤ sizeLine) : wpAny (model prog w) A (getItem (.ref t) (.ref sl)) Q E s := by
  have htake : sizeOk (.seq items.toList.reverse.toArray) := by
    show items.toList.reverse.toArray.size ≤ sizeLine
    rw [List.size_toArray, List.length_reverse, Array.length_toList]
    exact hsz
  obtain ⟨os, hos, hcs, hds⟩ := id hs
  have hTs : s.TypeIs (.ref sl) "slice" := ⟨os, hos, hcs⟩
  unfold getItem
  try with_reducible refine wpAny_holding ?_
  first | refine wpAny_bind (wpAny_pure ?_) | skip
  refine wpAny_bind (wpAny_sequenceKey ht.typeIs (by decide) ?_)
  refine wpAny_bind (wpAny_callSpecial?_slot (name := Str.ofString "__getitem__") ht.typeIs PyProof.Rows.slot_tuple_getitem
    (wpAny_call_entry PyProof.Rows.slot_tuple_getitem ht.typeIs entry_tuple_getitem ?_ (args_tuple_getitem _ _)))
  show wpAny _ _ (Builtin.Tuple.tupleItemsOf (.ref t) >>= _) _ _ s
  refine wpAny_bind (tupleItemsOf_ ht ?_)
  refine wpAny_bind (wpAny_typeOf hTs ?_)
  rw [if_pos (by decide)]
  refine wpAny_bind (sliceApplied_rev hs pl pu ps ?_)
  have hno : ¬ ((((items.size : Int) - 1) == 0 && (-1 : Int) == 1 && items.size == items.size) = true) := by
    intro q
    rw [Bool.and_eq_true, Bool.and_eq_true] at q
    have q1 : (-1 : Int) = 1 := eq_of_beq q.1.2
    omega
  show wpAny _ _ (if (((items.size : Int) - 1) == 0 && (-1 : Int) == 1 && items.size == items.size) = true then _ else _) _ _ s
  rw [if_neg hno, pick_rev]
  first
    | exact wpAny_bind (m := Builtin.Tuple.tupleExact _) (wpAny_newObj_type (wpAny_pure ⟨_, rfl, wpAny_pure h⟩) htake)
    | exact wpAny_bind (m := Builtin.Tuple.tupleExact _) (wpAny_newObj_type (wpAny_bind (wpAny_pure (wpAny_pure ⟨_, rfl, wpAny_pure h⟩))) htake)
    | exact wpAny_bind (wpAny_bind (m := Builtin.Tuple.tupleExact _) (wpAny_newObj_type (wpAny_pure (wpAny_pure ⟨_, rfl, wpAny_pure h⟩)) htake))
    | exact wpAny_bind (wpAny_bind (m := Builtin.Tuple.tupleExact _) (wpAny_newObj_type (wpAny_pure ⟨_, rfl, wpAny_pure h⟩) htake))
end
end HT
namespace Z
open PySem PySem.Spec PyProof.Rows L2
def tRevZ (K : PySem.W.Frag) (te : TE) : TE := fun σ H Q => te σ H fun x H1 =>
  (∃ a xs, x = .ref a ∧ SqL K H1 a xs ∧ ∀ p, H1 p = none → Q (.ref p) (upd H1 p (.lst xs.reverse))) ∨
  (∃ a xs, x = .ref a ∧ SqT K H1 a xs ∧ ∀ p o, H1 p = none → o.dict = none → Q (.ref p) (upd H1 p (.frz o (.tup xs.reverse))))
section
variable {X : Cx}
theorem pe_revZ {e : Expr} {te : TE} {k : Nat} {p1 p2 p3 pos : Pos} (he : PE X e te) : PE X (.Subscript e (.Slice none none (some (.UnaryOp .USub (.Constant (.int 1) k p1) p2)) p3) pos) (tRevZ X.K te) := by
  refine ⟨fun pins s σ H Q I h => ?_⟩
  refine Subscript_ (thn (he.run pins s σ H _ I h) fun v s1 ⟨x, H1, I1, r1, q1⟩ => ?_)
  have hst : PO X (some (.UnaryOp .USub (.Constant (.int 1) k p1) p2)) (tPart (tUn (rU fun i => .int (-i)) (tC (.int 1)))) := po_some (pe_un un_neg pe_int)
  refine wpAny_Slice (thn (po_none.run pins s1 σ H1 (fun o H2 => o = none ∧ H2 = H1) I1 ⟨rfl, rfl⟩) fun vl s2 ⟨l, H2, I2, pl, el, e2⟩ => ?_)
  subst el e2
  refine thn (po_none.run pins s2 σ H2 (fun o H3 => o = none ∧ H3 = H2) I2 ⟨rfl, rfl⟩) fun vu s3 ⟨u, H3, I3, pu, eu, e3⟩ => ?_
  subst eu e3
  refine thn (hst.run pins s3 σ H3 (fun o H4 => o = some (-1) ∧ H4 = H3) I3 ⟨1, rfl, -1, rfl, rfl, rfl⟩) fun vs s4 ⟨o, H4, I4, ps, eo, e4⟩ => ?_
  subst eo e4
  have I5 : Inv X pins σ H4 { s4 with heap := s4.heap.push { cls := .type "slice", data := .fields #[vl, vu, vs] } } := I4.kept (t' := s4.toks) fun b ob q => Heap.get?_push_of_some _ q
  rcases q1 with ⟨a, xs, ex, hx, q⟩ | ⟨a, xs, ex, hx, q⟩
  · subst ex
    cases r1
    obtain ⟨its, r, ht, hz⟩ := I5.list hx
    have hlen := r.length
    show wpAny (model X.prog X.w) X.A (subscriptTail e (.Slice none none (some (.UnaryOp .USub (.Constant (.int 1) k p1) p2)) p3) (.ref a) (.ref s4.heap.objs.size)) (EP X pins σ Q) X.xe { s4 with heap := s4.heap.push { cls := .type "slice", data := .fields #[vl, vu, vs] } }
    refine tail_any (ops := [.ref a, .ref s4.heap.objs.size]) ht.isList.typeIs (PySem.slot_list_getitem.lookup) ?_ (by with_unfolding_all rfl)
    refine wpAny_getItem_list_slice ht.isList (Heap.IsSliceOf.new _ vl vu vs) pl pu ps (by decide) ?_ (by rw [List.size_toArray]; omega)
    rw [PySem.W.krv_pick]
    refine ⟨.ref _, _, I5.laid (t' := s4.toks) (o := .lst xs.reverse) (fun b ob q => Heap.get?_push_of_some _ q) (Nat.le_refl _) ?_, rfl, q _ (I5.hok.fresh (Nat.le_refl _))⟩
    exact ⟨by rw [List.length_reverse]; exact hz, _, 0, r.reverse, Heap.get?_push_size _ rfl⟩
  · subst ex
    cases r1
    obtain ⟨its, r, ht, hz⟩ := I5.tuple hx
    have hlen := r.length
    show wpAny (model X.prog X.w) X.A (subscriptTail e (.Slice none none (some (.UnaryOp .USub (.Constant (.int 1) k p1) p2)) p3) (.ref a) (.ref s4.heap.objs.size)) (EP X pins σ Q) X.xe { s4 with heap := s4.heap.push { cls := .type "slice", data := .fields #[vl, vu, vs] } }
    refine tail_any (ops := [.ref a, .ref s4.heap.objs.size]) ht.typeIs (PyProof.Rows.slot_tuple_getitem.lookup) ?_ (by with_unfolding_all rfl)
    refine HT.getItem_tuple_rev ht (Heap.IsSliceOf.new _ vl vu vs) pl pu ps ?_ (by rw [List.size_toArray]; omega)
    have e := Heap.get?_push_size (s4.heap.push { cls := .type "slice", data := .fields #[vl, vu, vs] }) (o := { cls := .type "tuple", data := .seq its.toArray.toList.reverse.toArray }) rfl
    exact ⟨.ref _, _, I5.laid (t' := s4.toks) (o := .frz { cls := .type "tuple", data := .seq its.toArray.toList.reverse.toArray } (.tup xs.reverse)) (fun b ob q => Heap.get?_push_of_some _ q) (Nat.le_refl _)
      ⟨e, by rw [List.length_reverse]; exact hz, _, r.reverse, ⟨_, e, rfl, _, rfl⟩⟩, rfl, q _ _ (I5.hok.fresh (Nat.le_refl _)) rfl⟩
end
section
variable {K : PySem.W.Frag} {S : Option (Addr × Addr)}
def fRev (d : D) (R : D → Prop) : Prop := match d with
  | .list ds => solids ds = true ∧ R (.list ds.reverse)
  | .tuple ds => solids ds = true ∧ R (.tuple ds.reverse)
  | _ => False
def dRev (m : DM) : DM := fun ρ R => m ρ fun d => fRev d R
theorem Rps.snoc {c : Zc} {H : Hp} {d : D} {x : V} (hx : Rp c H d x []) : ∀ {ds : List D} {xs : List V}, Rps c H ds xs [] → Rps c H (ds ++ [d]) (xs ++ [x]) []
  | [], xs, h => by
    simp only [Rps] at h
    rw [h.1]
    exact Rps.cons hx (by simp [Rps])
  | d :: ds, xs, h => by
    simp only [Rps] at h
    obtain ⟨x', ys, f1, f2, rfl, e, h1, h2⟩ := h
    obtain ⟨rfl, rfl⟩ := List.append_eq_nil_iff.mp e.symm
    exact Rps.cons h1 (Rps.snoc hx h2)
theorem Rps.rev {c : Zc} {H : Hp} : ∀ {ds : List D} {xs : List V}, Rps c H ds xs [] → Rps c H ds.reverse xs.reverse []
  | [], xs, h => by
    simp only [Rps] at h
    rw [h.1]
    simp [Rps]
  | d :: ds, xs, h => by
    simp only [Rps] at h
    obtain ⟨x, ys, f1, f2, rfl, e, h1, h2⟩ := h
    obtain ⟨rfl, rfl⟩ := List.append_eq_nil_iff.mp e.symm
    rw [List.reverse_cons, List.reverse_cons]
    exact Rps.snoc h1 (Rps.rev h2)
theorem de_rev {te : TE} {m : DM} {U : List Nat} (h : DE K S te m U) : DE K S (tRevZ K te) (dRev m) [] := fun G H ρ σ fps E R hm Q q =>
  h G H ρ σ fps E _ hm _ fun d v H3 fp hR ee s3 r3 n1 f1 => by
    cases d with
    | list ds =>
      simp only [Rp] at r3
      obtain ⟨a, xs, gp, rfl, rfl, ha, hv⟩ := r3
      have z := hv.solid _ _ _ hR.1
      subst z
      refine .inl ⟨a, xs, rfl, .of ha, fun p hp => ?_⟩
      have e := Ext.new (c := ⟨K, S⟩) (o := .lst xs.reverse) hp
      have hpn := s3.fresh hp
      refine q _ (.ref p) _ [p] hR.2 (ee.trans e) (s3.new hp) ?_ (fun b hb => by rw [List.mem_singleton.mp hb]; exact hpn) (.new (ee.free hp hpn))
      simp only [Rp]
      exact ⟨p, _, [], rfl, rfl, upd_same, hv.rev.ext .nil e s3⟩
    | tuple ds =>
      have z := r3.solid _ _ _ (by simp only [solid]; exact hR.1)
      subst z
      simp only [Rp] at r3
      obtain ⟨a, xs, rfl, ha, hv⟩ := r3
      refine .inr ⟨a, xs, rfl, ha.t, fun p o hp ho => ?_⟩
      have e := Ext.new (c := ⟨K, S⟩) (o := .frz o (.tup xs.reverse)) hp
      refine q _ (.ref p) _ [] hR.2 (ee.trans e) (s3.new hp) ?_ .nil (.fresh (fun b hb => by cases hb) List.nodup_nil)
      simp only [Rp]
      exact ⟨p, _, rfl, .new ho, hv.rev.ext .nil e s3⟩
    | _ => exact False.elim hR
end
end Z
set_option Elab.async false
set_option linter.all false
set_option maxRecDepth 100000
set_option maxHeartbeats 4000000
/-! Z24: dicts whose keys are ints and whose values are noughts: {}, d.update(dict(pairs)), len(d). -/
namespace Z
open PySem PySem.Spec PyProof.Rows L2
def d0D (ks : List Int) : D := .dict (ks.map fun k => (.int k, .int 0))
/-! ### d.update(e) -/
/-! ### len(d) -/
section
variable {K : PySem.W.Frag} {S : Option (Addr × Addr)}
def d0New : DM := fun _ R => R (d0D [])
/-- a list of pairs (int, nought) -/
def pairs0 (ns : List Int) : D := .list (ns.map fun k => .tuple [.int k, .int 0])
/-- the slot holds a dict of noughts -/
def own0 (s : Option Sl) (k : List Int → Prop) : Prop := ∃ ks, s = some (.own (d0D ks)) ∧ k ks
def sUpd0 (i : Nat) (m : DM) : DMS := fun ρ R => own0 ρ[i]? fun ks => m ρ fun d => ∃ ns : List Int, d = pairs0 ns ∧ ks.length + ns.length ≤ 10000000 ∧ ∀ us : List Int, us.Nodup → (∀ x, x ∈ us ↔ x ∈ ks ∨ x ∈ ns) → us.length ≤ ks.length + ns.length → R.nx (ρ.set i (.own (d0D us)))
/-- len(d), d of noughts -/
def dLen0 (m : DM) : DM := fun ρ R => m ρ fun d => ∃ ks : List Int, d = d0D ks ∧ R (.int ((ks.length : Nat) : Int))
end
end Z
set_option Elab.async false
set_option linter.all false
set_option maxRecDepth 100000
set_option maxHeartbeats 4000000
/-! Z25: lists that never change any more. -/
namespace Z
open PySem PySem.Spec PyProof.Rows L2
section
variable {K : PySem.W.Frag} {S : Option (Addr × Addr)}
def fFrz (d : D) (R : D → Prop) : Prop := match d with
  | .list ds => solids ds = true ∧ R (frzD ds)
  | _ => False
def dFrz (m : DM) : DM := fun ρ R => m ρ fun d => fFrz d R
/-! ### reads -/
theorem sql_frz {K : PySem.W.Frag} {H : Hp} {a : Addr} {xs : List V} (h : ∃ o, H a = some (.frz o (.lst xs))) : SqL K H a xs := .inl (.inr h)
/-- x[i] -/
def fIxF (x y : D) (R : D → Prop) : Prop := match x with
  | .dict kvs => asI y fun i => ∃ ds d, .dict kvs = frzD ds ∧ atI ds i = some d ∧ R d
  | .none => fIx .none y R
  | .bool b => fIx (.bool b) y R
  | .int i => fIx (.int i) y R
  | .str s => fIx (.str s) y R
  | .list ds => fIx (.list ds) y R
  | .tuple ds => fIx (.tuple ds) y R
theorem fIxF_tup {ds : List D} {y : D} {R : D → Prop} : fIxF (.tuple ds) y R = fIx (.tuple ds) y R := rfl
theorem fIxF_list {ds : List D} {y : D} {R : D → Prop} : fIxF (.list ds) y R = fIx (.list ds) y R := rfl
/-- a list, of either kind -/
def IsL (d : D) (ds : List D) : Prop := d = .list ds ∨ d = frzD ds
theorem IsL.rp {c : Zc} {H : Hp} {d : D} {ds : List D} {v : V} {fp : List Addr} (l : IsL d ds) (r : Rp c H d v fp) :
    ∃ a xs gp, v = .ref a ∧ SqL c.K H a xs ∧ Rps c H ds xs gp ∧ (∀ b ∈ gp, b ∈ fp) ∧ ∀ H', Tk H H' → (∀ b ∈ fp, H' b = H b) → SqL c.K H' a xs := by
  rcases l with rfl | rfl
  · simp only [Rp] at r
    obtain ⟨a, xs, gp, rfl, rfl, ha, hv⟩ := r
    exact ⟨a, xs, gp, rfl, .of ha, hv, fun b hb => List.mem_cons_of_mem _ hb, fun H' _ k => .of (by rw [k a (List.mem_cons_self ..)]; exact ha)⟩
  · obtain ⟨a, xs, rfl, rfl, ⟨o, ho⟩, h2⟩ := rp_frz.mp r
    exact ⟨a, xs, [], rfl, sql_frz ⟨o, ho⟩, h2, fun b hb => hb, fun H' t _ => sql_frz ⟨o, t a _ ho trivial⟩⟩
/-- zip of two lists, of either kind -/
def dZipF (ms : DMs) : DMs := fun ρ R => ms ρ fun ds => ∃ x y xs ys, ds = [x, y] ∧ IsL x xs ∧ IsL y ys ∧ R (zipD xs ys)
/-- x.index(k) of a list of either kind -/
def dIndexF (m : DM) (ms : DMs) : DM := fun ρ R => m ρ fun d => ∃ xs, IsL d xs ∧ ms ρ fun ys => ∃ (k : Int) (ns : List Int), ys = [.int k] ∧ xs = ns.map .int ∧ k ∈ ns ∧ R (.int (ns.idxOf k : Nat))
end
end Z
set_option Elab.async false
set_option linter.all false
set_option maxRecDepth 100000
set_option maxHeartbeats 4000000
/-! Z26: sorted(dict(pairs)), the keys ints. -/
namespace Z
open PySem PySem.Spec PyProof.Rows L2
section
variable {K : PySem.W.Frag} {S : Option (Addr × Addr)}
/-- sorted(dict(pairs)), the keys ints -/
def dSortDict0 (m : DM) : DM := fun ρ R => m ρ fun d => ∃ ns : List Int, d = pairs0 ns ∧ ∀ ks : List Int, ks.Nodup → (∀ x, x ∈ ks ↔ x ∈ ns) → ks.length ≤ ns.length → SortOk (ks.map fun k => (.int k : D)) ∧ R (.list (sortD false (ks.map fun k => (.int k : D))))
end
end Z
set_option Elab.async false
set_option linter.all false
set_option maxRecDepth 100000
set_option maxHeartbeats 4000000
/-! Z27: x = xs.pop(k), xs an own list of what never changes. -/
namespace Z
open PySem PySem.Spec PyProof.Rows L2
section
variable {K : PySem.W.Frag} {S : Option (Addr × Addr)}
theorem Rps.erase {c : Zc} {H : Hp} : ∀ {ds : List D} {xs : List V} (j : Nat), Rps c H ds xs [] → Rps c H (ds.eraseIdx j) (xs.eraseIdx j) []
  | [], xs, j, h => by
    simp only [Rps] at h
    rw [h.1]
    simp [Rps]
  | d :: ds, xs, 0, h => by
    simp only [Rps] at h
    obtain ⟨x, ys, f1, f2, rfl, e, h1, h2⟩ := h
    obtain ⟨rfl, rfl⟩ := List.append_eq_nil_iff.mp e.symm
    exact h2
  | d :: ds, xs, j + 1, h => by
    simp only [Rps] at h
    obtain ⟨x, ys, f1, f2, rfl, e, h1, h2⟩ := h
    obtain ⟨rfl, rfl⟩ := List.append_eq_nil_iff.mp e.symm
    exact Rps.cons h1 (Rps.erase j h2)
def sPopAt (j i : Nat) (m : DM) : DMS := fun ρ R => ownL ρ[i]? fun ds => m ρ fun d => asI d fun k => 0 ≤ k ∧ k < ds.length ∧ ds.length ≤ 10000000 ∧ solids ds = true ∧ ∃ y, ds[k.toNat]? = some y ∧ R.nx ((ρ.set i (.own (.list (ds.eraseIdx k.toNat)))).set j (.own y))
end
end Z
set_option Elab.async false
set_option linter.all false
set_option maxRecDepth 100000
set_option maxHeartbeats 4000000
/-! Z28: return (x, y) of two own values; zip(.., strict=True) of lists of either kind. -/
namespace Z
open PySem PySem.Spec PyProof.Rows L2
section
variable {K : PySem.W.Frag} {S : Option (Addr × Addr)}
def sRet2 (i j : Nat) : DMS := fun ρ R => match ρ[i]? with
  | some (.own d) => match ρ[j]? with
    | some (.own e) => i ≠ j ∧ R.rt (.tuple [d, e])
    | _ => False
  | _ => False
/-- zip(x, y, strict=True) of lists of either kind -/
def dZipSF (ms : DMs) : DMs := fun ρ R => ms ρ fun ds => ∃ x y xs ys, ds = [x, y] ∧ IsL x xs ∧ IsL y ys ∧ xs.length = ys.length ∧ R (zipD xs ys)
end
end Z
set_option Elab.async false
set_option linter.all false
set_option maxRecDepth 100000
set_option maxHeartbeats 4000000
/-! Z29: values of all kinds that never change: repr of them, == of a tuple with (), {} that never changes. -/
namespace Z
open PySem PySem.Spec PyProof.Rows L2
mutual
/-- as it is shown -/
def thaw : D → D
  | .none => .none
  | .bool b => .bool b
  | .int i => .int i
  | .str x => .str x
  | .list ds => .list (thaws ds)
  | .tuple ds => .tuple (thaws ds)
  | .dict kvs => if isFrz kvs = true then .list (thawk kvs).tail else .dict []
def thaws : List D → List D
  | [] => []
  | d :: ds => thaw d :: thaws ds
def thawk : List (D × D) → List D
  | [] => []
  | (_, d) :: r => thaw d :: thawk r
end
mutual
/-- whether it is such a value -/
def canT : D → Bool
  | .none => true
  | .bool _ => true
  | .int _ => true
  | .str _ => true
  | .list ds => canTs ds
  | .tuple ds => canTs ds
  | .dict kvs => (isFrz kvs && canTk kvs) || (isFrd kvs && kvs.length == 1)
def canTs : List D → Bool
  | [] => true
  | d :: ds => canT d && canTs ds
def canTk : List (D × D) → Bool
  | [] => true
  | (_, d) :: r => canT d && canTk r
end
theorem thaws_map : ∀ ds : List D, thaws ds = ds.map thaw
  | [] => by simp [thaws]
  | d :: ds => by simp [thaws, thaws_map ds]
theorem thawk_frz (ds : List D) (k : D) : thawk (ds.map fun d => (k, d)) = ds.map thaw := by
  induction ds with
  | nil => simp [thawk]
  | cons d ds ih => simp [thawk, ih]
theorem thaw_frz (ds : List D) : thaw (frzD ds) = .list (ds.map thaw) := by
  unfold frzD frzK
  simp only [thaw, thawk, thawk_frz]
  rfl
theorem thaw_frd : thaw (frdD []) = .dict [] := by
  unfold frdD frdK
  simp only [thaw]
  rfl
theorem isFrz_cons {kvs : List (D × D)} (h : isFrz kvs = true) : ∃ r, kvs = (.bool true, .none) :: r := by
  unfold isFrz at h
  split at h
  · exact ⟨_, rfl⟩
  · cases h
theorem isFrd_cons {kvs : List (D × D)} (h : isFrd kvs = true) : ∃ r, kvs = (.bool false, .none) :: r := by
  unfold isFrd at h
  split at h
  · exact ⟨_, rfl⟩
  · cases h
/-- such a value, shown by at most w signs, at most k deep -/
structure OkT (k w : Nat) (d : D) : Prop where
  can : canT d = true
  depth : (thaw d).depth ≤ k
  show' : (thaw d).showable = true
  len : (thaw d).shown.length ≤ w
section
variable {K : PySem.W.Frag} {S : Option (Addr × Addr)}
def fReprU : List D → (D → Prop) → Prop := fun ds R => match ds with
  | [d] => OkT 40 10000000 d ∧ R (.str (thaw d).shown)
  | _ => False
/-! ### x == () -/
end
section
variable {K : PySem.W.Frag} {S : Option (Addr × Addr)}
def fEqE (neg : Bool) : D → D → (D → Prop) → Prop := fun x y R => match x with
  | .tuple xs => y = .tuple [] ∧ R (.bool (if neg then !xs.isEmpty else xs.isEmpty))
  | _ => False
/-! ### {} that never changes -/
def tFrd (te : TE) : TE := fun σ H Q => te σ H fun v H1 => ∃ a, v = .ref a ∧ H1 a = some (.dK []) ∧ ∀ o, Q v (upd H1 a (.frz o (.dK [])))
end
theorem pe_frd {X : Cx} {e : Expr} {te : TE} (h : PE X e te) : PE X e (tFrd te) := ⟨fun pins s σ H Q I w => by
  refine thn (h.run pins s σ H _ I w) fun u s1 ⟨x, H1, I1, r1, a, ex, ha, q⟩ => ?_
  subst ex
  have ok := I1.hok a _ ha
  obtain ⟨z, hs, vs, rel, ob, es, ep, e1, hr⟩ := id ok
  exact ⟨.ref a, _, Inv.write (x := a) (e := a) (o := .frz ob (.dK [])) (h' := s1.heap) (t' := s1.toks) I1 (by rw [ha]; exact True.intro) (.inl rfl) (fun b u _ k => k) ⟨_, e1⟩ ⟨e1, z, hs, vs, rel, ob, es, ep, e1, hr⟩, r1, q _⟩⟩
section
variable {K : PySem.W.Frag} {S : Option (Addr × Addr)}
theorem de_frdNew : DE K S (tFrd tDNewK) (dC (frdD [])) [] := fun G H ρ σ fps E R hm Q q p hp => by
  refine ⟨p, rfl, upd_same, fun o => ?_⟩
  rw [upd_upd]
  exact q _ _ _ [] hm (Ext.new hp) (E.src.new hp) (rp_frd.mpr ⟨p, [], [], rfl, rfl, ⟨o, _, upd_same, .inl ⟨[], rfl, List.nodup_nil, rfl, rfl⟩⟩, by simp [Rpk]⟩) .nil .nil
end
end Z
set_option Elab.async false
set_option linter.all false
set_option maxRecDepth 100000
set_option maxHeartbeats 4000000
/-! Z30: list + list of either kind; two targets at once through tuples, both own. -/
namespace Z
open PySem PySem.Spec PyProof.Rows L2
section
variable {K : PySem.W.Frag} {S : Option (Addr × Addr)}
/-- x, y = a, b by way of a tuple -/
theorem ds_parG (i j : Nat) {t : TA} {ms : DMs} (h : DA K S t ms []) (hij : i ≠ j := by decide) : DS K S (tAsg (tTupF t) (gTup K 2 (gCons (gName i) (gCons (gName j) gNil)))) (sPar i j ms) [i, j] := fun G H ρ σ fps E R hm D d =>
  h G H ρ σ fps E _ hm _ fun ds vs H1 fp hR e1 s1 r n f => by
    split at hR
    · rename_i x y
      simp only [Rps] at r
      obtain ⟨v, ys, g1, g2, rfl, rfl, r1, w, zs, g3, g4, rfl, rfl, r2, rfl, rfl⟩ := r
      rw [List.append_nil] at f n
      have nd := f.2 rfl
      obtain ⟨nd1, nd2, nd3⟩ := List.nodup_append.mp nd
      refine ⟨lim_ok (by simp), fun p o hp ho => ?_⟩
      have e2 := Ext.new (c := ⟨K, S⟩) (o := .frz o (.tup [v, w])) hp
      have s2 := s1.new (o := .frz o (.tup [v, w])) hp
      have E1 := E.step (e1.trans e2) s2
      have fr : ∀ a ∈ g1 ++ g3, ∀ k, k < ρ.length → a ∉ fps k := fun a ha k hk hb => by
        obtain ⟨o', ho', _⟩ := E.thereAt hk a hb
        rw [f.off a ha] at ho'
        cases ho'
      have gn : ∀ a ∈ g1 ++ g3, G a = none := fun a ha => back_none E.ext (f.off a ha) (n a ha)
      have n1 : NoS ⟨K, S⟩ g1 := fun a ha => n a (List.mem_append_left _ ha)
      have n3 : NoS ⟨K, S⟩ g3 := fun a ha => n a (List.mem_append_right _ ha)
      refine ⟨p, [v, w], rfl, SqD.t (.new ho), rfl, v, [w], rfl, ?_⟩
      refine ⟨w, [], rfl, ?_⟩
      refine ⟨rfl, ?_⟩
      have E2 := E1.setOwn (r1.ext n1 e2 s1) n1 nd1 (fun a ha => gn a (List.mem_append_left _ ha)) i fun k hk _ a ha hb => fr a (List.mem_append_left _ ha) k hk hb
      have E3 := E2.setOwn (r2.ext n3 e2 s1) n3 nd2 (fun a ha => gn a (List.mem_append_right _ ha)) j fun k hk hkj a ha hb => by
        by_cases hki : k = i
        · simp only [if_pos hki] at hb
          exact nd3 a hb a ha rfl
        · simp only [if_neg hki] at hb
          exact fr a (List.mem_append_right _ ha) k (by simpa using hk) hb
      refine d.nx _ _ _ _ hR E3 ⟨by simp, fun k hk => ?_⟩
      have k1 : j ≠ k := fun e => hk (by simp [e])
      have k2 : i ≠ k := fun e => hk (by simp [e])
      rw [List.getElem?_set_ne k1, List.getElem?_set_ne k2]
    · exact hR.elim
/-- the items of a list that never changes -/
def dItemsZ (m : DM) : DMs := fun ρ R => m ρ fun d => ∃ xs, d = frzD xs ∧ R xs
/-- how long a list of either kind is -/
def fLenF : List D → (D → Prop) → Prop := fun ds R => match ds with
  | [d] => ∃ xs, IsL d xs ∧ R (.int ((xs.length : Nat) : Int))
  | _ => False
end
end Z
set_option Elab.async false
set_option linter.all false
/-! G1: rows over two marks; reduced bases are told by their span. Plain Lean. -/
namespace Z
def xr (a b : List Bool) : List Bool := List.zipWith (fun x y => x ^^ y) a b
def gt (v : List Bool) (p : Nat) : Bool := v.getD p false
def lead (r : List Bool) : Nat := r.idxOf true
def nul (n : Nat) : List Bool := List.replicate n false
theorem xr_len {a b : List Bool} (h : a.length = b.length) : (xr a b).length = a.length := by simp [xr, h]
theorem gt_xr {a b : List Bool} (h : a.length = b.length) (p : Nat) : gt (xr a b) p = (gt a p ^^ gt b p) := by
  unfold gt xr
  rw [List.getD_eq_getElem?_getD, List.getD_eq_getElem?_getD, List.getD_eq_getElem?_getD, List.getElem?_zipWith]
  by_cases hp : p < a.length
  · rw [List.getElem?_eq_getElem hp, List.getElem?_eq_getElem (h ▸ hp)]
    rfl
  · rw [List.getElem?_eq_none (by omega), List.getElem?_eq_none (by omega)]
    rfl
theorem gt_nul (n p : Nat) : gt (nul n) p = false := by
  unfold gt nul
  rw [List.getD_eq_getElem?_getD, List.getElem?_replicate]
  split <;> rfl
theorem gt_out {a : List Bool} {p : Nat} (h : a.length ≤ p) : gt a p = false := by
  unfold gt
  rw [List.getD_eq_getElem?_getD, List.getElem?_eq_none h]
  rfl
theorem row_ext {a b : List Bool} (h : a.length = b.length) (e : ∀ p, gt a p = gt b p) : a = b := by
  apply List.ext_getElem h
  intro i h1 h2
  have := e i
  unfold gt at this
  rw [List.getD_eq_getElem?_getD, List.getD_eq_getElem?_getD, List.getElem?_eq_getElem h1, List.getElem?_eq_getElem h2] at this
  exact this
theorem nul_len (n : Nat) : (nul n).length = n := List.length_replicate ..
theorem xr_nul {a : List Bool} {n : Nat} (h : a.length = n) : xr a (nul n) = a := row_ext (by rw [xr_len (by rw [nul_len]; exact h)]) fun p => by rw [gt_xr (by rw [nul_len]; exact h), gt_nul, Bool.xor_false]
theorem xr_assoc {a b c : List Bool} (h : a.length = b.length) (k : b.length = c.length) : xr (xr a b) c = xr a (xr b c) :=
  row_ext (by rw [xr_len (by rw [xr_len h, h, k]), xr_len h, xr_len (by rw [xr_len k, h])]) fun p => by
    rw [gt_xr (by rw [xr_len h, h, k]), gt_xr h, gt_xr (by rw [xr_len k, h]), gt_xr k, Bool.xor_assoc]
theorem xr_comm {a b : List Bool} (h : a.length = b.length) : xr a b = xr b a := row_ext (by rw [xr_len h, xr_len h.symm, h]) fun p => by rw [gt_xr h, gt_xr h.symm, Bool.xor_comm]
theorem xr_self {a : List Bool} : xr a a = nul a.length := row_ext (by rw [xr_len rfl, nul_len]) fun p => by rw [gt_xr rfl, gt_nul, Bool.xor_self]
theorem lead_gt {r : List Bool} (h : true ∈ r) : gt r (lead r) = true := by
  unfold gt lead
  have hl := List.idxOf_lt_length_iff.mpr h
  rw [List.getD_eq_getElem?_getD, List.getElem?_eq_getElem hl]
  exact List.getElem_idxOf hl
theorem lead_below {r : List Bool} {q : Nat} (h : q < lead r) : gt r q = false := by
  unfold lead at h
  cases e : gt r q with
  | false => rfl
  | true =>
    exfalso
    unfold gt at e
    rw [List.getD_eq_getElem?_getD] at e
    cases hq : r[q]? with
    | none => rw [hq] at e; cases e
    | some b =>
      rw [hq] at e
      have eb : b = true := e
      subst eb
      induction r generalizing q with
      | nil => simp at hq
      | cons x xs ih =>
        cases q with
        | zero =>
          simp at hq
          subst hq
          simp at h
        | succ q =>
          cases x with
          | true => simp at h
          | false =>
            simp [List.idxOf_cons] at h
            exact ih h (by simpa using hq)
theorem lead_le {r : List Bool} {q : Nat} (h : gt r q = true) : lead r ≤ q := Nat.le_of_not_lt fun z => by rw [lead_below z] at h; cases h
theorem mem_of_gt {r : List Bool} {q : Nat} (h : gt r q = true) : true ∈ r := by
  unfold gt at h
  rw [List.getD_eq_getElem?_getD] at h
  cases hq : r[q]? with
  | none => rw [hq] at h; cases h
  | some b =>
    rw [hq] at h
    have eb : b = true := h
    subst eb
    exact List.mem_of_getElem? hq
theorem not_nul {r : List Bool} {n : Nat} (hl : r.length = n) (h : true ∉ r) : r = nul n := row_ext (by rw [hl, nul_len]) fun p => by
  rw [gt_nul]
  cases e : gt r p with
  | false => rfl
  | true => exact (h (mem_of_gt e)).elim
theorem lead_eq {r : List Bool} {p : Nat} (h : gt r p = true) (h0 : ∀ q, q < p → gt r q = false) : lead r = p :=
  Nat.le_antisymm (lead_le h) (Nat.le_of_not_lt fun z => by have := h0 _ z; rw [lead_gt (mem_of_gt h)] at this; cases this)
/-- the sums of rows of B -/
inductive Sp (n : Nat) (B : List (List Bool)) : List Bool → Prop
  | zero : Sp n B (nul n)
  | add {b v : List Bool} : b ∈ B → Sp n B v → Sp n B (xr b v)
def Len (n : Nat) (B : List (List Bool)) : Prop := ∀ b ∈ B, b.length = n
section
variable {n : Nat} {B C : List (List Bool)}
theorem Sp.len (h : Len n B) {v : List Bool} (s : Sp n B v) : v.length = n := by
  induction s with
  | zero => exact nul_len n
  | add hb _ ih => rw [xr_len (by rw [h _ hb, ih]), h _ hb]
theorem Sp.mem (h : Len n B) {b : List Bool} (hb : b ∈ B) : Sp n B b := by
  have := Sp.add hb (Sp.zero (n := n) (B := B))
  rwa [xr_nul (h b hb)] at this
theorem Sp.xr (h : Len n B) {u v : List Bool} (s : Sp n B u) (t : Sp n B v) : Sp n B (xr u v) := by
  induction s with
  | zero => rw [xr_comm (by rw [nul_len, t.len h]), xr_nul (t.len h)]; exact t
  | @add b w hb hw ih =>
    rw [xr_assoc (by rw [h b hb, hw.len h]) (by rw [hw.len h, t.len h])]
    exact .add hb ih
theorem Sp.sub (hC : Len n C) (h : ∀ b ∈ B, Sp n C b) {v : List Bool} (s : Sp n B v) : Sp n C v := by
  induction s with
  | zero => exact .zero
  | add hb _ ih => exact (h _ hb).xr hC ih
theorem Sp.mono (h : ∀ b ∈ B, b ∈ C) {v : List Bool} (s : Sp n B v) : Sp n C v := by
  induction s with
  | zero => exact .zero
  | add hb _ ih => exact .add (h _ hb) ih
/-- each lead stands in its own row alone -/
structure Red (n : Nat) (B : List (List Bool)) : Prop where
  len : Len n B
  ne : ∀ b ∈ B, true ∈ b
  un : ∀ b ∈ B, ∀ c ∈ B, b ≠ c → gt b (lead c) = false
  nd : B.Nodup
def par (f : List Bool → Bool) : List (List Bool) → Nat → Bool
  | [], _ => false
  | b :: B, p => (f b && gt b p) ^^ par f B p
theorem par_congr {f g : List Bool → Bool} {p : Nat} : ∀ {B : List (List Bool)}, (∀ b ∈ B, f b = g b) → par f B p = par g B p
  | [], _ => rfl
  | b :: B, h => by
    unfold par
    rw [h b (List.mem_cons_self ..), par_congr fun c hc => h c (List.mem_cons_of_mem _ hc)]
theorem par_none {f : List Bool → Bool} {p : Nat} : ∀ {B : List (List Bool)}, (∀ b ∈ B, f b = true → gt b p = false) → par f B p = false
  | [], _ => rfl
  | b :: B, h => by
    unfold par
    rw [par_none fun c hc => h c (List.mem_cons_of_mem _ hc)]
    cases e : f b with
    | false => rfl
    | true => rw [h b (List.mem_cons_self ..) e]; rfl
theorem par_some {f : List Bool → Bool} {p : Nat} (h : par f B p = true) : ∃ b ∈ B, f b = true ∧ gt b p = true := Classical.byContradiction fun z => by
  have := par_none (f := f) (p := p) (B := B) fun b hb hf => by
    cases e : gt b p with
    | false => rfl
    | true => exact (z ⟨b, hb, hf, e⟩).elim
  rw [this] at h
  cases h
theorem par_flip {f g : List Bool → Bool} {p : Nat} {b : List Bool} : ∀ {B : List (List Bool)}, B.Nodup → b ∈ B → (∀ c ∈ B, c ≠ b → f c = g c) → f b = !g b → par f B p = (gt b p ^^ par g B p)
  | [], _, hb, _, _ => by cases hb
  | c :: B, nd, hb, h, hf => by
    unfold par
    have nd' := List.nodup_cons.mp nd
    by_cases e : c = b
    · subst e
      rw [hf, par_congr (g := g) fun d hd => h d (List.mem_cons_of_mem _ hd) fun z => nd'.1 (z ▸ hd)]
      cases g c <;> cases gt c p <;> cases par g B p <;> rfl
    · have hb' : b ∈ B := (List.mem_cons.mp hb).resolve_left (Ne.symm e)
      rw [h c (List.mem_cons_self ..) e, par_flip nd'.2 hb' (fun d hd => h d (List.mem_cons_of_mem _ hd)) hf]
      cases g c <;> cases gt c p <;> cases gt b p <;> cases par g B p <;> rfl
/-- a sum is told by its marks at the leads -/
theorem Red.tell (r : Red n B) {v : List Bool} (s : Sp n B v) (p : Nat) : gt v p = par (fun b => gt v (lead b)) B p := by
  induction s with
  | zero =>
    rw [gt_nul, par_none]
    intro b _ z
    rw [gt_nul] at z
    cases z
  | @add b w hb hw ih =>
    have hl : b.length = w.length := by rw [r.len b hb, hw.len r.len]
    rw [gt_xr hl, ih]
    refine (par_flip (g := fun c => gt w (lead c)) r.nd hb (fun c hc hne => ?_) ?_).symm
    · show gt (Z.xr b w) (lead c) = gt w (lead c)
      rw [gt_xr hl, r.un b hb c hc (Ne.symm hne), Bool.false_xor]
    · show gt (Z.xr b w) (lead b) = !gt w (lead b)
      rw [gt_xr hl, lead_gt (r.ne b hb), Bool.true_xor]
theorem Red.same (r : Red n B) {u v : List Bool} (hu : Sp n B u) (hv : Sp n B v) (h : ∀ b ∈ B, gt u (lead b) = gt v (lead b)) : u = v :=
  row_ext (by rw [hu.len r.len, hv.len r.len]) fun p => by rw [r.tell hu, r.tell hv]; exact par_congr h
theorem Red.leads (r : Red n B) {v : List Bool} (s : Sp n B v) (h : true ∈ v) : ∃ b ∈ B, lead b = lead v := by
  have h1 := lead_gt h
  rw [r.tell s] at h1
  obtain ⟨b, hb, h2, h3⟩ := par_some h1
  exact ⟨b, hb, Nat.le_antisymm (lead_le h3) (lead_le h2)⟩
theorem Red.sub (r : Red n B) (q : Red n C) (h : ∀ v, Sp n B v ↔ Sp n C v) : ∀ b ∈ B, b ∈ C := fun b hb => by
  obtain ⟨c, hc, hl⟩ := q.leads ((h b).mp (Sp.mem r.len hb)) (r.ne b hb)
  have e : b = c := r.same (Sp.mem r.len hb) ((h c).mpr (Sp.mem q.len hc)) fun b' hb' => by
    by_cases e : b = b'
    · subst e
      rw [lead_gt (r.ne b hb), ← hl, lead_gt (q.ne c hc)]
    · rw [r.un b hb b' hb' e]
      obtain ⟨c', hc', hl'⟩ := q.leads ((h b').mp (Sp.mem r.len hb')) (r.ne b' hb')
      have hne : c ≠ c' := fun z => by
        have h1 := r.un b hb b' hb' e
        rw [← hl', ← z, hl, lead_gt (r.ne b hb)] at h1
        cases h1
      rw [← hl', q.un c hc c' hc' hne]
  rw [e]
  exact hc
theorem sorted_same : ∀ {B C : List (List Bool)}, B.Pairwise (fun a b => lead a < lead b) → C.Pairwise (fun a b => lead a < lead b) → (∀ b, b ∈ B ↔ b ∈ C) → B = C
  | [], [], _, _, _ => rfl
  | [], c :: C, _, _, h => by have := (h c).mpr (List.mem_cons_self ..); cases this
  | b :: B, [], _, _, h => by have := (h b).mp (List.mem_cons_self ..); cases this
  | b :: B, c :: C, hB, hC, h => by
    rw [List.pairwise_cons] at hB hC
    have e : b = c := by
      rcases List.mem_cons.mp ((h b).mp (List.mem_cons_self ..)) with z | z
      · exact z
      · rcases List.mem_cons.mp ((h c).mpr (List.mem_cons_self ..)) with y | y
        · exact y.symm
        · have h1 := hB.1 c y
          have h2 := hC.1 b z
          omega
    subst e
    rw [sorted_same hB.2 hC.2 fun d => ⟨fun hd => ?_, fun hd => ?_⟩]
    · rcases List.mem_cons.mp ((h d).mp (List.mem_cons_of_mem _ hd)) with z | z
      · have := hB.1 d hd
        rw [z] at this
        omega
      · exact z
    · rcases List.mem_cons.mp ((h d).mpr (List.mem_cons_of_mem _ hd)) with z | z
      · have := hC.1 d hd
        rw [z] at this
        omega
      · exact z
/-- the reduced base of what rows span, by ascending leads -/
structure Rref (n : Nat) (rows B : List (List Bool)) : Prop where
  red : Red n B
  asc : B.Pairwise (fun a b => lead a < lead b)
  span : ∀ v, Sp n B v ↔ Sp n rows v
theorem Rref.unique {rows : List (List Bool)} (h : Rref n rows B) (k : Rref n rows C) : B = C :=
  sorted_same h.asc k.asc fun b => ⟨h.red.sub k.red (fun v => (h.span v).trans (k.span v).symm) b, k.red.sub h.red (fun v => (k.span v).trans (h.span v).symm) b⟩
end
end Z
set_option Elab.async false
set_option linter.all false
/-! G2: two ways to a reduced base. Plain Lean. -/
namespace Z
section
variable {n : Nat} {B C : List (List Bool)}
theorem pigeon : ∀ (n : Nat) (l : List Nat), l.Nodup → (∀ x ∈ l, x < n) → l.length ≤ n
  | 0, l, _, h => by
    cases l with
    | nil => simp
    | cons x xs => exact absurd (h x (List.mem_cons_self ..)) (Nat.not_lt_zero _)
  | n + 1, l, nd, h => by
    have ih := pigeon n (l.erase n) (nd.erase n) fun x hx => by
      have h1 := h x (List.mem_of_mem_erase hx)
      have h2 : x ≠ n := fun e => by rw [e] at hx; exact (List.Nodup.not_mem_erase nd) hx
      omega
    by_cases hm : n ∈ l
    · have := List.length_erase_of_mem hm
      omega
    · rw [List.erase_of_not_mem hm] at ih
      omega
theorem Red.count (r : Red n B) : B.length ≤ n := by
  have h := pigeon n (B.map lead) (by
    refine List.Pairwise.map _ (fun a b z => z) (List.Pairwise.imp_of_mem (fun {a b} ha hb hne z => ?_) r.nd)
    have := r.un a ha b hb hne
    rw [← z, lead_gt (r.ne a ha)] at this
    cases this) fun x hx => by
      obtain ⟨b, hb, rfl⟩ := List.mem_map.mp hx
      rw [← r.len b hb]
      exact List.idxOf_lt_length_iff.mpr (r.ne b hb)
  rwa [List.length_map] at h
/-! ### row by row -/
def red1 (B : List (List Bool)) (h : List Bool) : List Bool := B.foldl (fun h b => if gt h (lead b) then xr h b else h) h
def stepP (B : List (List Bool)) (h : List Bool) : List (List Bool) := if (red1 B h).contains true then B.map (fun b => if gt b (lead (red1 B h)) then xr b (red1 B h) else b) ++ [red1 B h] else B
def toldP (rows : List (List Bool)) : List (List Bool) := rows.foldl stepP []
theorem red1_go (r : Red n B) : ∀ (D : List (List Bool)) (h : List Bool), h.length = n → (∀ c ∈ D, c ∈ B) → D.Nodup →
    (∀ c ∈ D, gt (red1 D h) (lead c) = false) ∧ (∀ b ∈ B, b ∉ D → gt (red1 D h) (lead b) = gt h (lead b)) ∧ ∃ s, Sp n B s ∧ red1 D h = xr h s
  | [], h, hl, _, _ => ⟨fun c hc => (by cases hc), fun b _ _ => rfl, nul n, .zero, (xr_nul hl).symm⟩
  | d :: D, h, hl, hs, nd => by
    have nd' := List.nodup_cons.mp nd
    have hd := hs d (List.mem_cons_self ..)
    have ld := r.len d hd
    let h1 := if gt h (lead d) then xr h d else h
    have l1 : h1.length = n := by
      show (if gt h (lead d) then xr h d else h).length = n
      split
      · rw [xr_len (by rw [hl, ld]), hl]
      · exact hl
    obtain ⟨a1, a2, s, a3, a4⟩ := red1_go r D h1 l1 (fun c hc => hs c (List.mem_cons_of_mem _ hc)) nd'.2
    have e : red1 (d :: D) h = red1 D h1 := rfl
    have z1 : gt h1 (lead d) = false := by
      show gt (if gt h (lead d) then xr h d else h) (lead d) = false
      cases q : gt h (lead d) with
      | false => simpa using q
      | true =>
        simp only [if_true]
        rw [gt_xr (by rw [hl, ld]), q, lead_gt (r.ne d hd)]
        rfl
    have z2 : ∀ b ∈ B, b ≠ d → gt h1 (lead b) = gt h (lead b) := fun b hb hne => by
      show gt (if gt h (lead d) then xr h d else h) (lead b) = _
      split
      · rw [gt_xr (by rw [hl, ld]), r.un d hd b hb (Ne.symm hne), Bool.xor_false]
      · rfl
    refine ⟨fun c hc => ?_, fun b hb hn => ?_, ?_⟩
    · rw [e]
      rcases List.mem_cons.mp hc with rfl | hc
      · rw [a2 c hd nd'.1]
        exact z1
      · exact a1 c hc
    · rw [e, a2 b hb fun z => hn (List.mem_cons_of_mem _ z)]
      exact z2 b hb fun z => hn (z ▸ List.mem_cons_self ..)
    · rw [e, a4]
      show ∃ t, Sp n B t ∧ xr (if gt h (lead d) then xr h d else h) s = xr h t
      split
      · exact ⟨xr d s, .add hd a3, xr_assoc (by rw [hl, ld]) (by rw [ld, a3.len r.len])⟩
      · exact ⟨s, a3, rfl⟩
theorem red_row (r : Red n B) {h k : List Bool} (hk : k = red1 B h) (hl : h.length = n) : k.length = n ∧ (∀ b ∈ B, gt k (lead b) = false) ∧ Sp n (h :: B) k ∧ Sp n (k :: B) h := by
  obtain ⟨a1, _, s, a3, a4⟩ := red1_go r B h hl (fun _ h => h) r.nd
  have ls := a3.len r.len
  subst hk
  have lk : (red1 B h).length = n := by rw [a4, xr_len (by rw [hl, ls]), hl]
  have L1 : Len n (h :: B) := fun b hb => (List.mem_cons.mp hb).elim (fun e => e ▸ hl) (r.len b)
  refine ⟨lk, a1, ?_, ?_⟩
  · have := Sp.add (n := n) (List.mem_cons_self (a := h) (l := B)) (Sp.mono (C := h :: B) (fun b hb => List.mem_cons_of_mem _ hb) a3)
    rw [← a4] at this
    exact this
  · have e : xr (red1 B h) s = h := by rw [a4, xr_assoc (by rw [hl, ls]) rfl, xr_self, ls, xr_nul hl]
    have := Sp.add (n := n) (List.mem_cons_self (a := red1 B h) (l := B)) (Sp.mono (C := red1 B h :: B) (fun b hb => List.mem_cons_of_mem _ hb) a3)
    rw [e] at this
    exact this
/-- r, freed of head's mark at p -/
def clr (p : Nat) (head r : List Bool) : List Bool := if gt r p then xr r head else r
theorem clr_len {p : Nat} {head r : List Bool} (h : head.length = n) (k : r.length = n) : (clr p head r).length = n := by
  unfold clr
  split
  · rw [xr_len (by rw [h, k]), k]
  · exact k
theorem clr_at {p : Nat} {head r : List Bool} (h : head.length = n) (k : r.length = n) (hp : gt head p = true) : gt (clr p head r) p = false := by
  unfold clr
  split
  · rename_i q
    rw [gt_xr (by rw [h, k]), q, hp]
    rfl
  · rename_i q
    simpa using q
theorem clr_other {p q : Nat} {head r : List Bool} (h : head.length = n) (k : r.length = n) (hq : gt head q = false) : gt (clr p head r) q = gt r q := by
  unfold clr
  split
  · rw [gt_xr (by rw [h, k]), hq, Bool.xor_false]
  · rfl
theorem clr_sp {p : Nat} {head r : List Bool} (hL : Len n C) (h : Sp n C head) (k : Sp n C r) : Sp n C (clr p head r) := by
  unfold clr
  split
  · exact k.xr hL h
  · exact k
theorem sp_clr {p : Nat} {head r : List Bool} (hL : Len n C) (l1 : head.length = n) (l2 : r.length = n) (h : Sp n C head) (k : Sp n C (clr p head r)) : Sp n C r := by
  unfold clr at k
  split at k
  · have := k.xr hL h
    rw [xr_assoc (by rw [l1, l2]) rfl, xr_self, l1, xr_nul l2] at this
    exact this
  · exact k
theorem lead_same {a b : List Bool} (h : true ∈ a) (e : ∀ q, q ≤ lead a → gt b q = gt a q) : lead b = lead a :=
  lead_eq (by rw [e _ (Nat.le_refl _), lead_gt h]) fun q hq => by rw [e q (Nat.le_of_lt hq), lead_below hq]
theorem step_red (r : Red n B) {h : List Bool} (hl : h.length = n) : Red n (stepP B h) ∧ ∀ v, Sp n (stepP B h) v ↔ Sp n (h :: B) v := by
  have L1 : Len n (h :: B) := fun b hb => (List.mem_cons.mp hb).elim (fun e => e ▸ hl) (r.len b)
  obtain ⟨lk, k0, k1, k2⟩ := red_row r rfl hl
  unfold stepP
  generalize hk : red1 B h = k at *
  have Lk : Len n (k :: B) := fun b hb => (List.mem_cons.mp hb).elim (fun e => e ▸ lk) (r.len b)
  cases hc : k.contains true with
  | false =>
    simp only [Bool.false_eq_true, if_false]
    have hn : true ∉ k := fun z => by rw [List.contains_iff_mem.mpr z] at hc; cases hc
    have ek := not_nul lk hn
    refine ⟨r, fun v => ⟨fun s => s.mono fun b hb => List.mem_cons_of_mem _ hb, fun s => s.sub r.len fun b hb => ?_⟩⟩
    rcases List.mem_cons.mp hb with rfl | hb
    · refine k2.sub r.len fun c hc => ?_
      rcases List.mem_cons.mp hc with rfl | hc
      · rw [ek]
        exact .zero
      · exact Sp.mem r.len hc
    · exact Sp.mem r.len hb
  | true =>
    simp only [if_true]
    have hm : true ∈ k := List.contains_iff_mem.mp hc
    have pk := lead_gt hm
    show Red n (B.map (clr (lead k) k) ++ [k]) ∧ ∀ v, Sp n (B.map (clr (lead k) k) ++ [k]) v ↔ _
    have LM : Len n (B.map (clr (lead k) k) ++ [k]) := fun b hb => by
      rcases List.mem_append.mp hb with hb | hb
      · obtain ⟨c, hc, rfl⟩ := List.mem_map.mp hb
        exact clr_len lk (r.len c hc)
      · rw [List.mem_singleton.mp hb]
        exact lk
    -- the leads stay
    have ld : ∀ b ∈ B, lead (clr (lead k) k b) = lead b := fun b hb => by
      unfold clr
      split
      · rename_i q
        have h1 := lead_le q
        have h2 : lead b ≠ lead k := fun z => by
          have := k0 b hb
          rw [z, pk] at this
          cases this
        refine lead_same (r.ne b hb) fun q' hq' => ?_
        rw [gt_xr (by rw [r.len b hb, lk]), lead_below (r := k) (by omega), Bool.xor_false]
      · rfl
    have un : ∀ b ∈ B, ∀ c ∈ B, b ≠ c → gt (clr (lead k) k b) (lead c) = false := fun b hb c hc hne => by rw [clr_other lk (r.len b hb) (k0 c hc), r.un b hb c hc hne]
    refine ⟨⟨LM, fun b hb => ?_, fun b hb c hc hne => ?_, ?_⟩, fun v => ⟨fun s => s.sub L1 fun b hb => ?_, fun s => s.sub LM fun b hb => ?_⟩⟩
    · rcases List.mem_append.mp hb with hb | hb
      · obtain ⟨c, hc, rfl⟩ := List.mem_map.mp hb
        refine mem_of_gt (q := lead c) ?_
        rw [clr_other lk (r.len c hc) (k0 c hc), lead_gt (r.ne c hc)]
      · rw [List.mem_singleton.mp hb]
        exact hm
    · rcases List.mem_append.mp hb with hb | hb <;> rcases List.mem_append.mp hc with hc | hc
      · obtain ⟨b', hb', rfl⟩ := List.mem_map.mp hb
        obtain ⟨c', hc', rfl⟩ := List.mem_map.mp hc
        rw [ld c' hc']
        exact un b' hb' c' hc' fun z => hne (by rw [z])
      · obtain ⟨b', hb', rfl⟩ := List.mem_map.mp hb
        rw [List.mem_singleton.mp hc]
        exact clr_at lk (r.len b' hb') pk
      · obtain ⟨c', hc', rfl⟩ := List.mem_map.mp hc
        rw [List.mem_singleton.mp hb, ld c' hc']
        exact k0 c' hc'
      · exact (hne ((List.mem_singleton.mp hb).trans (List.mem_singleton.mp hc).symm)).elim
    · refine List.nodup_append.mpr ⟨?_, by simp, fun a ha b hb z => ?_⟩
      · refine List.Pairwise.map _ (fun a b z => z) ?_
        refine List.Pairwise.imp_of_mem (fun {a b} ha hb hne z => ?_) r.nd
        have h1 : lead a = lead b := by rw [← ld a ha, ← ld b hb, z]
        have h2 := r.un a ha b hb hne
        rw [← h1, lead_gt (r.ne a ha)] at h2
        cases h2
      · obtain ⟨c, hc, rfl⟩ := List.mem_map.mp ha
        have h1 : gt (clr (lead k) k c) (lead k) = false := clr_at lk (r.len c hc) pk
        rw [z, List.mem_singleton.mp hb, pk] at h1
        cases h1
    · rcases List.mem_append.mp hb with hb | hb
      · obtain ⟨c, hc, rfl⟩ := List.mem_map.mp hb
        exact clr_sp L1 k1 (Sp.mem L1 (List.mem_cons_of_mem _ hc))
      · rw [List.mem_singleton.mp hb]
        exact k1
    · have sk : Sp n (B.map (clr (lead k) k) ++ [k]) k := Sp.mem LM (by simp)
      have sb : ∀ c ∈ B, Sp n (B.map (clr (lead k) k) ++ [k]) c := fun c hc => sp_clr LM lk (r.len c hc) sk (Sp.mem LM (List.mem_append_left _ (List.mem_map.mpr ⟨c, hc, rfl⟩)))
      rcases List.mem_cons.mp hb with rfl | hb
      · exact k2.sub LM fun c hc => (List.mem_cons.mp hc).elim (fun e => e ▸ sk) (sb c)
      · exact sb b hb
theorem told_go : ∀ (rows B : List (List Bool)), Red n B → Len n rows → Red n (rows.foldl stepP B) ∧ ∀ v, Sp n (rows.foldl stepP B) v ↔ Sp n (rows ++ B) v
  | [], B, r, _ => ⟨r, fun v => Iff.rfl⟩
  | h :: rows, B, r, hL => by
    obtain ⟨r1, s1⟩ := step_red r (hL h (List.mem_cons_self ..))
    obtain ⟨r2, s2⟩ := told_go rows (stepP B h) r1 fun b hb => hL b (List.mem_cons_of_mem _ hb)
    have L2 : Len n (rows ++ stepP B h) := fun b hb => (List.mem_append.mp hb).elim (fun z => hL b (List.mem_cons_of_mem _ z)) (r1.len b)
    have L3 : Len n (h :: rows ++ B) := fun b hb => (List.mem_append.mp hb).elim (hL b) (r.len b)
    refine ⟨r2, fun v => (s2 v).trans ⟨fun s => s.sub L3 fun b hb => ?_, fun s => s.sub L2 fun b hb => ?_⟩⟩
    · rcases List.mem_append.mp hb with hb | hb
      · exact Sp.mem L3 (List.mem_append_left _ (List.mem_cons_of_mem _ hb))
      · refine ((s1 b).mp (Sp.mem r1.len hb)).mono fun c hc => ?_
        rcases List.mem_cons.mp hc with rfl | hc
        · exact List.mem_append_left _ (List.mem_cons_self ..)
        · exact List.mem_append_right _ hc
    · have big : ∀ c, c ∈ h :: B → Sp n (rows ++ stepP B h) c := fun c hc => ((s1 c).mpr (Sp.mem (fun b hb => (List.mem_cons.mp hb).elim (fun e => e ▸ hL h (List.mem_cons_self ..)) (r.len b)) hc)).mono fun d hd => List.mem_append_right _ hd
      rcases List.mem_append.mp hb with hb | hb
      · rcases List.mem_cons.mp hb with rfl | hb
        · exact big _ (List.mem_cons_self ..)
        · exact Sp.mem L2 (List.mem_append_left _ hb)
      · exact big _ (List.mem_cons_of_mem _ hb)
theorem red_nil : Red n [] := ⟨fun b hb => (by cases hb), fun b hb => (by cases hb), fun b hb => (by cases hb), List.nodup_nil⟩
theorem told_red {rows : List (List Bool)} (h : Len n rows) : Red n (toldP rows) ∧ ∀ v, Sp n (toldP rows) v ↔ Sp n rows v := by
  have := told_go rows [] red_nil h
  rw [List.append_nil] at this
  exact this
/-- put in a sequence by leads -/
theorem Rref.of_perm {rows S : List (List Bool)} (r : Red n B) (h : ∀ v, Sp n B v ↔ Sp n rows v) (p : S.Perm B) (asc : S.Pairwise fun a b => lead a < lead b) : Rref n rows S := by
  have m : ∀ b, b ∈ S ↔ b ∈ B := fun b => p.mem_iff
  refine ⟨⟨fun b hb => r.len b ((m b).mp hb), fun b hb => r.ne b ((m b).mp hb), fun b hb c hc => r.un b ((m b).mp hb) c ((m c).mp hc), p.nodup_iff.mpr r.nd⟩, asc, fun v => ?_⟩
  exact (show Sp n S v ↔ Sp n B v from ⟨fun s => s.mono fun b => (m b).mp, fun s => s.mono fun b => (m b).mpr⟩).trans (h v)
/-! ### place by place -/
end
end Z
set_option Elab.async false
set_option linter.all false
set_option maxRecDepth 100000
set_option maxHeartbeats 4000000
/-! G3: rows of marks below two as data. -/
namespace Z
open PySem PySem.Spec PyProof.Rows L2
def bI (b : Bool) : Int := if b then 1 else 0
def rowI (r : List Bool) : List Int := r.map bI
abbrev rowD (r : List Bool) : D := tI (rowI r)
abbrev rowsD (B : List (List Bool)) : List D := B.map rowD
theorem solid_rowD (r : List Bool) : solid (rowD r) = true := solid_tI _
theorem solids_rowsD (B : List (List Bool)) : solids (rowsD B) = true := solids_of fun r _ => solid_rowD r
theorem eqvAll_ints : ∀ xs ys : List Int, PyData.eqvAll (xs.map .int) (ys.map .int) = decide (xs = ys)
  | [], [] => by simp [PyData.eqvAll]
  | [], _ :: _ => by simp [PyData.eqvAll]
  | _ :: _, [] => by simp [PyData.eqvAll]
  | x :: xs, y :: ys => by
    simp only [List.map_cons, PyData.eqvAll, PyData.eqv, eqvAll_ints xs ys]
    by_cases h : x = y <;> by_cases k : xs = ys <;> simp [h, k]
theorem plain_ints (xs : List Int) : PyData.plainAll (xs.map .int) = true := plainAll_of fun d hd => by
  obtain ⟨x, _, rfl⟩ := List.mem_map.mp hd
  simp [PyData.plain, PyData.canLay0]
theorem depth_ints0 (xs : List Int) : PyData.depthAll (xs.map .int) = 0 := PySem.W.depth_ints xs
theorem plain_rowD (r : List Bool) : (rowD r).plain = true := by
  show PyData.plain (.tuple _) = true
  simp only [PyData.plain]
  exact plain_ints _
theorem depth_rowD (r : List Bool) : (rowD r).depth = 1 := by
  show PyData.depth (.tuple _) = 1
  simp only [PyData.depth]
  rw [depth_ints0]
theorem plain_rowsD (B : List (List Bool)) : PyData.plainAll (rowsD B) = true := plainAll_of fun d hd => by
  obtain ⟨x, _, rfl⟩ := List.mem_map.mp hd
  exact plain_rowD x
theorem depth_rowsD (B : List (List Bool)) : PyData.depthAll (rowsD B) ≤ 1 := depthAll_of fun d hd => by
  obtain ⟨x, _, rfl⟩ := List.mem_map.mp hd
  exact Nat.le_of_eq (depth_rowD x)
theorem fEq_bI {neg : Bool} {a b : Bool} {R : D → Prop} (h : R (.bool (if neg then !(a == b) else (a == b)))) : fEq neg (.int (bI a)) (.int (bI b)) R := fEq_int (by
  have : (bI a == bI b) = (a == b) := by cases a <;> cases b <;> rfl
  rw [this]
  exact h)
/-- a mark is one -/
theorem fEq_one {neg : Bool} {a : Bool} {R : D → Prop} (h : R (.bool (if neg then !a else a))) : fEq neg (.int (bI a)) (.int 1) R := fEq_int (by
  have : (bI a == 1) = a := by cases a <;> rfl
  rw [this]
  exact h)
theorem fIn_one {r : List Bool} {R : D → Prop} (h : R (.bool (r.contains true))) : fIn false (.int 1) (rowD r) R := by
  refine ⟨by simp [PyData.plain, PyData.canLay0], plain_ints _, by rw [depth_ints0]; simp, ?_⟩
  have e : ((rowI r).map PyData.int).any (fun z => PyData.eqv z (.int 1)) = r.contains true := by
    unfold rowI
    clear h
    induction r with
    | nil => rfl
    | cons b r ih =>
      simp only [List.map_cons, List.any_cons, List.contains_cons]
      rw [ih]
      cases b <;> simp [bI, PyData.eqv]
  simp only [Bool.false_eq_true, if_false]
  rw [e]
  exact h
theorem idx_one (r : List Bool) : (rowI r).idxOf 1 = lead r := by
  unfold rowI lead
  induction r with
  | nil => rfl
  | cons b r ih =>
    rw [List.map_cons, List.idxOf_cons, List.idxOf_cons, ih]
    cases b <;> rfl
theorem one_mem {r : List Bool} (h : true ∈ r) : (1 : Int) ∈ rowI r := List.mem_map.mpr ⟨true, h, rfl⟩
theorem at_rowD {r : List Bool} {p : Nat} (h : p < r.length) : ((rowI r).map PyData.int)[p]? = some (.int (bI (gt r p))) := by
  unfold rowI gt
  rw [List.getElem?_map, List.getElem?_map, List.getD_eq_getElem?_getD, List.getElem?_eq_getElem h]
  rfl
theorem fIx_rowD {r : List Bool} {p : Nat} {R : D → Prop} (h : p < r.length) (k : R (.int (bI (gt r p)))) : fIx (rowD r) (.int p) R := ⟨_, atI_ok (at_rowD h) rfl, k⟩
theorem bI_small (b : Bool) : (bI b).natAbs < 10 ^ 12 := by cases b <;> decide
theorem okI {xs : List Int} {n : Nat} (hn : xs.length ≤ n) (h : ∀ x ∈ xs, x.natAbs < 10 ^ 12) : Ok 1 (n * 15 + 3) (tI xs) :=
  Ok.tuple (fun d hd => by obtain ⟨x, hx, rfl⟩ := List.mem_map.mp hd; exact Ok.int (h x hx)) (by simpa using hn)
theorem ok_rowD {r : List Bool} {n : Nat} (h : r.length ≤ n) : Ok 1 (n * 15 + 3) (rowD r) := okI (by simpa [rowI] using h) fun x hx => by
  obtain ⟨b, _, rfl⟩ := List.mem_map.mp hx
  exact bI_small b
theorem ok_rowsD {B : List (List Bool)} {n m : Nat} (h : ∀ r ∈ B, r.length ≤ n) (k : B.length ≤ m) : Ok 2 (m * (n * 15 + 5) + 3) (.tuple (rowsD B)) :=
  Ok.tuple (fun d hd => by obtain ⟨x, hx, rfl⟩ := List.mem_map.mp hd; exact ok_rowD (h x hx)) (by simpa [rowsD] using k)
/-! ### sorted rows -/
theorem alike_rowD (a b : List Bool) : PySem.W.alike (rowD a) (rowD b) = true := by
  show PySem.W.alike (.tuple _) (.tuple _) = true
  simp only [PySem.W.alike]
  exact PySem.W.alike_ints _ _
theorem sortOk_rowsD {B : List (List Bool)} {n : Nat} (h : Len (n + 1) B) (k : B.length ≤ 10000000) : SortOk (rowsD B) := by
  refine ⟨plain_rowsD B, PySem.W.AllAlike.of alike_rowD, .inl fun d hd => ?_, by simpa [rowsD] using k, Nat.le_trans (depth_rowsD B) (by decide)⟩
  obtain ⟨r, hr, rfl⟩ := List.mem_map.mp hd
  have hl := h r hr
  cases r with
  | nil => simp at hl
  | cons x xs => exact ⟨_, _, rfl⟩
theorem dataLe_up : PySem.W.dataLe (β := List Bool) false rowD = fun a b => decide (rowI a ≤ rowI b) := by
  funext a b
  show (!PySem.W.dataLt (.tuple ((rowI b).map .int)) (.tuple ((rowI a).map .int))) = _
  rw [PySem.W.dataLt_tuple]
  show (!PySem.W.rowLt ((rowI b).map .int) ((rowI a).map .int)) = _
  rw [PySem.W.dataLt_ints]
  by_cases h : rowI b < rowI a
  · have h' : ¬ rowI a ≤ rowI b := fun r => List.not_lt.mpr r h
    simp [h, h']
  · have h' : rowI a ≤ rowI b := List.not_lt.mp h
    simp [h, h']
theorem dataLe_down : PySem.W.dataLe (β := List Bool) true rowD = fun a b => decide (rowI b ≤ rowI a) := by
  funext a b
  have := congrFun (congrFun dataLe_up b) a
  exact this
theorem sortD_map (b : Bool) (B : List (List Bool)) : sortD b (rowsD B) = rowsD (B.mergeSort (PySem.W.dataLe b rowD)) := by
  have := List.map_mergeSort (r := PySem.W.dataLe (β := List Bool) b rowD) (s := PySem.W.dataLe b id) (f := rowD) (l := B) (fun a _ b' _ => rfl)
  exact this.symm
theorem sort_pairs (b : Bool) (B : List (List Bool)) : (B.mergeSort (PySem.W.dataLe b rowD)).Pairwise fun x y => PySem.W.dataLe b rowD x y = true :=
  have t := PySem.W.sortLe_total (PyProof.Rows.listOrd PyProof.Rows.itemOrd) b (fun r : List Bool => PySem.W.keyToks (rowD r))
  List.pairwise_mergeSort t.trans (fun a b => by rw [Bool.or_eq_true]; exact t.total a b) B
theorem lex_lead : ∀ {a b : List Bool}, a.length = b.length → true ∈ b → lead b < lead a → rowI a < rowI b
  | [], [], _, h, _ => by cases h
  | [], _ :: _, h, _, _ => by simp at h
  | _ :: _, [], h, _, _ => by simp at h
  | x :: xs, y :: ys, hl, hm, hlt => by
    unfold lead at hlt
    rw [List.idxOf_cons, List.idxOf_cons] at hlt
    show (bI x :: rowI xs) < (bI y :: rowI ys)
    rw [List.cons_lt_cons_iff]
    cases x with
    | true => simp at hlt
    | false =>
      cases y with
      | true => exact .inl (by decide)
      | false =>
        refine .inr ⟨rfl, lex_lead (by simpa using hl) (by simpa using hm) ?_⟩
        simpa [lead] using hlt
/-- sorted downwards: by ascending leads -/
theorem sort_asc {n : Nat} {B : List (List Bool)} (r : Red n B) : (B.mergeSort (PySem.W.dataLe true rowD)).Perm B ∧ (B.mergeSort (PySem.W.dataLe true rowD)).Pairwise fun a b => lead a < lead b := by
  have p : (B.mergeSort (PySem.W.dataLe true rowD)).Perm B := List.mergeSort_perm _ _
  refine ⟨p, ?_⟩
  have nd := p.nodup_iff.mpr r.nd
  refine List.Pairwise.imp_of_mem (fun {a b} ha hb h => ?_) ((sort_pairs true B).and nd)
  obtain ⟨h1, h2⟩ := h
  have ma := p.mem_iff.mp ha
  have mb := p.mem_iff.mp hb
  rw [dataLe_down] at h1
  have h3 := of_decide_eq_true h1
  rcases Nat.lt_trichotomy (lead a) (lead b) with z | z | z
  · exact z
  · have := r.un a ma b mb h2
    rw [← z, lead_gt (r.ne a ma)] at this
    cases this
  · exact (List.not_lt.mpr h3 (lex_lead (by rw [r.len a ma, r.len b mb]) (r.ne b mb) z)).elim
/-! ### walks over rows -/
theorem row_ints (r : List Bool) : (rowI r).map PyData.int = r.map fun b => .int (bI b) := by simp [rowI, List.map_map, Function.comp_def]
theorem xr_zip : ∀ (a b : List Bool), ((a.zip b).map fun p => (.int (bI (p.1 ^^ p.2)) : D)) = (rowI (xr a b)).map .int
  | [], _ => rfl
  | _ :: _, [] => rfl
  | x :: xs, y :: ys => by
    have := xr_zip xs ys
    rw [List.zip_cons_cons, List.map_cons, this]
    rfl
theorem xr_enum {a b : List Bool} (h : a.length = b.length) : (a.zipIdx.map fun p => (.int (bI (p.1 ^^ gt b p.2)) : D)) = (rowI (xr a b)).map .int := by
  rw [← xr_zip]
  apply List.ext_getElem?
  intro i
  rw [List.getElem?_map, List.getElem?_map, List.getElem?_zipIdx]
  by_cases hi : i < a.length
  · rw [List.getElem?_eq_getElem hi, List.getElem?_eq_getElem (by rw [List.length_zip]; omega)]
    simp [gt, List.getD_eq_getElem?_getD, h ▸ hi]
  · rw [List.getElem?_eq_none (by omega), List.getElem?_eq_none (by rw [List.length_zip]; omega)]
    rfl
theorem solid_mem : ∀ {xs : List D}, solids xs = true → ∀ x ∈ xs, solid x = true
  | y :: ys, h, x, hx => by
    simp only [solids, Bool.and_eq_true] at h
    rcases List.mem_cons.mp hx with rfl | hx
    · exact h.1
    · exact solid_mem h.2 x hx
theorem at_mem {xs : List D} {k : Int} (k0 : 0 ≤ k) (k1 : k < xs.length) : ∃ x, x ∈ xs ∧ atI xs k = some x := by
  obtain ⟨j, rfl⟩ := Int.eq_ofNat_of_zero_le k0
  have hj : j < xs.length := by omega
  exact ⟨xs[j], List.getElem_mem hj, atI_ok (List.getElem?_eq_getElem hj) rfl⟩
theorem perm_map {α β : Type} {f : α → β} {as bs : List β} (p : as.Perm bs) : ∀ {F : List α}, bs = F.map f → ∃ G : List α, G.Perm F ∧ as = G.map f := by
  induction p with
  | nil => exact fun h => ⟨_, List.Perm.refl _, h⟩
  | cons x _ ih =>
    intro F h
    cases F with
    | nil => cases h
    | cons a F =>
      rw [List.map_cons, List.cons.injEq] at h
      obtain ⟨G, g1, g2⟩ := ih h.2
      exact ⟨a :: G, g1.cons a, by rw [List.map_cons, h.1, g2]⟩
  | swap x y l =>
    intro F h
    match F, h with
    | a :: b :: F, h =>
      rw [List.map_cons, List.map_cons, List.cons.injEq, List.cons.injEq] at h
      exact ⟨b :: a :: F, List.Perm.swap a b F, by rw [List.map_cons, List.map_cons, h.1, h.2.1, h.2.2]⟩
  | trans _ _ ih1 ih2 =>
    intro F h
    obtain ⟨G, g1, g2⟩ := ih2 h
    obtain ⟨G', g3, g4⟩ := ih1 g2
    exact ⟨G', g3.trans g1, g4⟩
theorem fEq_eq {x : Str} {R : D → Prop} (h : R (.bool false)) : fEq true (.str x) (.str x) R := fEq_str (by simpa using h)
theorem cutL_take {α : Type} (xs : List α) (k : Nat) : cutL xs none (some (k : Int)) = xs.take k := by
  unfold cutL
  rw [HT.sIx_none, HT.sIx_nat, List.drop_zero, Nat.sub_zero]
  rcases Nat.le_total k xs.length with h | h
  · rw [Nat.min_eq_left h]
  · rw [Nat.min_eq_right h, List.take_of_length_le (Nat.le_refl _), List.take_of_length_le h]
end Z
set_option Elab.async false
set_option linter.all false
/-! G4: rows by numbers. -/
namespace Z
section
variable {n : Nat} {B S : List (List Bool)}
/-- the sum of those rows that are asked for -/
def cmb (n : Nat) : List Bool → List (List Bool) → List Bool
  | c :: cs, b :: B => if c then xr b (cmb n cs B) else cmb n cs B
  | _, _ => nul n
def bits : Nat → Nat → List Bool
  | 0, _ => []
  | k + 1, x => ((x / 2 ^ k) % 2 != 0) :: bits k x
def bN (b : Bool) : Nat := if b then 1 else 0
theorem cmb_len (h : Len n B) : ∀ cs, (cmb n cs B).length = n := by
  induction B with
  | nil => intro cs; cases cs <;> exact nul_len n
  | cons b B ih =>
    have ih := ih fun c hc => h c (List.mem_cons_of_mem _ hc)
    intro cs
    cases cs with
    | nil => exact nul_len n
    | cons c cs =>
      unfold cmb
      split
      · rw [xr_len (by rw [ih, h b (List.mem_cons_self ..)]), h b (List.mem_cons_self ..)]
      · exact ih cs
theorem cmb_sp (h : Len n B) : ∀ cs, Sp n B (cmb n cs B) := by
  induction B with
  | nil => intro cs; cases cs <;> exact .zero
  | cons b B ih =>
    have ih := ih fun c hc => h c (List.mem_cons_of_mem _ hc)
    intro cs
    cases cs with
    | nil => exact .zero
    | cons c cs =>
      unfold cmb
      have := (ih cs).mono (C := b :: B) fun d hd => List.mem_cons_of_mem _ hd
      split
      · exact .add (List.mem_cons_self ..) this
      · exact this
theorem gt_cmb (h : Len n B) (f : List Bool → Bool) (p : Nat) : gt (cmb n (B.map f) B) p = par f B p := by
  induction B with
  | nil => exact gt_nul n p
  | cons b B ih =>
    have hB : Len n B := fun c hc => h c (List.mem_cons_of_mem _ hc)
    have ih := ih hB
    show gt (if f b then xr b (cmb n (B.map f) B) else cmb n (B.map f) B) p = ((f b && gt b p) ^^ par f B p)
    cases f b with
    | true =>
      simp only [if_true]
      rw [gt_xr (by rw [h b (List.mem_cons_self ..), cmb_len hB]), ih]
      simp
    | false => simp [ih]
theorem Red.cmb (r : Red n S) {v : List Bool} (s : Sp n S v) : v = cmb n (S.map fun b => gt v (lead b)) S :=
  row_ext (by rw [s.len r.len, cmb_len r.len]) fun p => by rw [gt_cmb r.len]; exact r.tell s p
theorem bits_mod : ∀ (k x : Nat), bits k (x % 2 ^ k) = bits k x
  | 0, _ => rfl
  | k + 1, x => by
    have e1 : x % 2 ^ (k + 1) / 2 ^ k % 2 = x / 2 ^ k % 2 := by
      rw [Nat.pow_succ, Nat.mod_mul_right_div_self, Nat.mod_mod]
    have e2 : bits k (x % 2 ^ (k + 1)) = bits k x := by
      rw [← bits_mod k (x % 2 ^ (k + 1)), ← bits_mod k x, Nat.pow_succ, Nat.mod_mul_right_mod]
    unfold bits
    rw [e1, e2]
/-! ### numbers ascend as rows do -/
def Below (S : List (List Bool)) (u v : List Bool) : Prop := ∃ p, (∃ b ∈ S, lead b = p) ∧ (∀ q, q < p → gt u q = gt v q) ∧ gt u p = false ∧ gt v p = true
theorem lex_at : ∀ {a b : List Bool} {p : Nat}, a.length = b.length → (∀ q, q < p → gt a q = gt b q) → gt a p = false → gt b p = true → rowI a < rowI b
  | [], [], p, _, _, _, h => by simp [gt] at h
  | [], _ :: _, _, h, _, _, _ => by simp at h
  | _ :: _, [], _, h, _, _, _ => by simp at h
  | x :: xs, y :: ys, p, hl, he, h0, h1 => by
    show (bI x :: rowI xs) < (bI y :: rowI ys)
    rw [List.cons_lt_cons_iff]
    cases p with
    | zero =>
      have e0 : x = false := h0
      have e1 : y = true := h1
      subst e0 e1
      exact .inl (by decide)
    | succ p =>
      have e : x = y := he 0 (Nat.succ_pos p)
      subst e
      exact .inr ⟨rfl, lex_at (by simpa using hl) (fun q hq => he (q + 1) (Nat.succ_lt_succ hq)) h0 h1⟩
theorem cmb_below : ∀ {S : List (List Bool)}, Red n S → S.Pairwise (fun a b => lead a < lead b) → ∀ x y, x < y → y < 2 ^ S.length → Below S (cmb n (bits S.length x) S) (cmb n (bits S.length y) S)
  | [], _, _, x, y, h1, h2 => by simp at h2; omega
  | b :: S, r, asc, x, y, h1, h2 => by
    have hb := r.len b (List.mem_cons_self ..)
    have hS : Red n S := ⟨fun c hc => r.len c (List.mem_cons_of_mem _ hc), fun c hc => r.ne c (List.mem_cons_of_mem _ hc), fun c hc d hd => r.un c (List.mem_cons_of_mem _ hc) d (List.mem_cons_of_mem _ hd), (List.nodup_cons.mp r.nd).2⟩
    rw [List.pairwise_cons] at asc
    have nb : ∀ c ∈ S, c ≠ b := fun c hc z => (List.nodup_cons.mp r.nd).1 (z ▸ hc)
    have lo : ∀ cs q, q ≤ lead b → gt (cmb n cs S) q = false := fun cs q hq => by
      rw [hS.tell (cmb_sp hS.len cs)]
      refine par_none fun c hc _ => ?_
      exact lead_below (Nat.lt_of_le_of_lt hq (asc.1 c hc))
    have lx : ∀ z, bits (b :: S).length z = ((z / 2 ^ S.length) % 2 != 0) :: bits S.length z := fun z => rfl
    rw [lx, lx]
    have pw : 2 ^ (b :: S).length = 2 ^ S.length * 2 := by rw [List.length_cons, Nat.pow_succ]
    rw [pw] at h2
    have P := Nat.two_pow_pos S.length
    have y2 : y / 2 ^ S.length < 2 := Nat.div_lt_of_lt_mul h2
    have x2 : x / 2 ^ S.length < 2 := Nat.div_lt_of_lt_mul (by omega)
    have xy : x / 2 ^ S.length ≤ y / 2 ^ S.length := Nat.div_le_div_right (by omega)
    have dx := Nat.div_add_mod x (2 ^ S.length)
    have dy := Nat.div_add_mod y (2 ^ S.length)
    have mx := Nat.mod_lt x P
    have my := Nat.mod_lt y P
    rcases Nat.lt_or_ge (x / 2 ^ S.length) (y / 2 ^ S.length) with z | z
    · have two : ∀ a b : Nat, a < b → b < 2 → a = 0 ∧ b = 1 := fun a b _ _ => by omega
      obtain ⟨ex, ey⟩ := two _ _ z y2
      rw [ex, ey]
      show Below _ (cmb n (bits S.length x) S) (xr b (cmb n (bits S.length y) S))
      have lc := cmb_len hS.len (bits S.length y)
      refine ⟨lead b, ⟨b, List.mem_cons_self .., rfl⟩, fun q hq => ?_, lo _ _ (Nat.le_refl _), ?_⟩
      · rw [lo _ q (Nat.le_of_lt hq), gt_xr (by rw [hb, lc]), lead_below hq, lo _ q (Nat.le_of_lt hq)]
        rfl
      · rw [gt_xr (by rw [hb, lc]), lead_gt (r.ne b (List.mem_cons_self ..)), lo _ _ (Nat.le_refl _)]
        rfl
    · have e : x / 2 ^ S.length = y / 2 ^ S.length := Nat.le_antisymm xy z
      have hlt : x % 2 ^ S.length < y % 2 ^ S.length := by rw [e] at dx; omega
      obtain ⟨p, ⟨c, hc, hp⟩, q1, q2, q3⟩ := cmb_below hS asc.2 _ _ hlt my
      rw [bits_mod, bits_mod] at q1
      rw [bits_mod] at q2 q3
      rw [e]
      have l1 := cmb_len hS.len (bits S.length x)
      have l2 := cmb_len hS.len (bits S.length y)
      unfold cmb
      split
      · have zb : gt b p = false := by rw [← hp]; exact r.un b (List.mem_cons_self ..) c (List.mem_cons_of_mem _ hc) (Ne.symm (nb c hc))
        exact ⟨p, ⟨c, List.mem_cons_of_mem _ hc, hp⟩, fun q hq => by rw [gt_xr (by rw [hb, l1]), gt_xr (by rw [hb, l2]), q1 q hq], by rw [gt_xr (by rw [hb, l1]), zb, q2]; rfl, by rw [gt_xr (by rw [hb, l2]), zb, q3]; rfl⟩
      · exact ⟨p, ⟨c, List.mem_cons_of_mem _ hc, hp⟩, q1, q2, q3⟩
def numbered (n : Nat) (S : List (List Bool)) : List (List Bool) := (List.range (2 ^ S.length)).map fun x => cmb n (bits S.length x) S
theorem numbered_asc (r : Red n S) (asc : S.Pairwise fun a b => lead a < lead b) : (numbered n S).Pairwise fun a b => rowI a < rowI b := by
  unfold numbered
  rw [List.pairwise_map]
  refine List.Pairwise.imp_of_mem (fun {x y} hx hy h => ?_) List.pairwise_lt_range
  obtain ⟨p, _, q1, q2, q3⟩ := cmb_below r asc x y h (List.mem_range.mp hy)
  exact lex_at (by rw [cmb_len r.len, cmb_len r.len]) q1 q2 q3
theorem perm_of_sub {α : Type} [BEq α] [LawfulBEq α] : ∀ (A M : List α), A.Nodup → (∀ a ∈ A, a ∈ M) → M.length ≤ A.length → M.Perm A
  | [], M, _, _, h => by
    have := List.eq_nil_of_length_eq_zero (Nat.le_zero.mp h)
    subst this
    exact .nil
  | a :: A, M, nd, hs, h => by
    have nd' := List.nodup_cons.mp nd
    have ha := hs a (List.mem_cons_self ..)
    have p := List.perm_cons_erase ha
    refine p.trans (List.Perm.cons a (perm_of_sub A (M.erase a) nd'.2 (fun b hb => ?_) ?_))
    · exact (List.mem_erase_of_ne fun e => nd'.1 (by rw [← e]; exact hb)).mpr (hs b (List.mem_cons_of_mem _ hb))
    · have := List.length_erase_of_mem ha
      simp at h
      omega
theorem sorted_unique {α : Type} {key : α → List Int} : ∀ (M N : List α), M.Perm N → M.Pairwise (fun a b => key a ≤ key b) → N.Pairwise (fun a b => key a < key b) → M = N
  | [], N, p, _, _ => by rw [p.symm.eq_nil]
  | m :: M, [], p, _, _ => by cases p.eq_nil
  | m :: M, c :: N, p, hM, hN => by
    rw [List.pairwise_cons] at hM hN
    have e : m = c := by
      rcases List.mem_cons.mp (p.mem_iff.mp (List.mem_cons_self (a := m))) with z | z
      · exact z
      · rcases List.mem_cons.mp (p.mem_iff.mpr (List.mem_cons_self (a := c))) with y | y
        · exact y.symm
        · have h1 := hM.1 c y
          have h2 := hN.1 m z
          exact (List.not_lt.mpr h1 h2).elim
    subst e
    rw [sorted_unique M N (List.perm_cons _ |>.mp p) hM.2 hN.2]
/-! ### all sums -/
def sums (n : Nat) (B : List (List Bool)) : List (List Bool) := B.foldl (fun F b => F ++ F.map (xr b)) [nul n]
theorem sums_go (hB : Len n B) : ∀ (C F : List (List Bool)), (∀ c ∈ C, c ∈ B) → (∀ v ∈ F, Sp n B v) → ∀ v ∈ C.foldl (fun F b => F ++ F.map (xr b)) F, Sp n B v
  | [], F, _, h, v, hv => h v hv
  | c :: C, F, hC, h, v, hv => sums_go hB C (F ++ F.map (xr c)) (fun d hd => hC d (List.mem_cons_of_mem _ hd)) (fun w hw => by
      rcases List.mem_append.mp hw with hw | hw
      · exact h w hw
      · obtain ⟨u, hu, rfl⟩ := List.mem_map.mp hw
        exact .add (hC c (List.mem_cons_self ..)) (h u hu)) v hv
theorem sums_len : ∀ (C F : List (List Bool)), (C.foldl (fun F b => F ++ F.map (xr b)) F).length = F.length * 2 ^ C.length
  | [], F => by simp
  | c :: C, F => by
    rw [List.foldl_cons, sums_len C, List.length_append, List.length_map, List.length_cons, Nat.pow_succ]
    have : (F.length + F.length) * 2 ^ C.length = F.length * (2 ^ C.length * 2) := by rw [Nat.add_mul, Nat.mul_comm (2 ^ C.length) 2, ← Nat.mul_assoc, Nat.mul_two, Nat.add_mul]
    exact this
theorem sums_all (hB : Len n B) {v : List Bool} (s : Sp n B v) : v ∈ sums n B := by
  -- closed under what was added
  have go : ∀ (C F D : List (List Bool)), Len n C → Len n D → Len n F → nul n ∈ F → (∀ d ∈ D, ∀ v ∈ F, xr d v ∈ F) → nul n ∈ C.foldl (fun F b => F ++ F.map (xr b)) F ∧ ∀ d, d ∈ D ∨ d ∈ C → ∀ v ∈ C.foldl (fun F b => F ++ F.map (xr b)) F, xr d v ∈ C.foldl (fun F b => F ++ F.map (xr b)) F := fun C => by
    induction C with
    | nil => exact fun F D _ _ _ h0 h => ⟨h0, fun d hd => h d (hd.resolve_right fun z => by cases z)⟩
    | cons c C ih =>
      intro F D hC hD hF h0 h
      have lc := hC c (List.mem_cons_self ..)
      have := ih (F ++ F.map (xr c)) (c :: D) (fun d hd => hC d (List.mem_cons_of_mem _ hd)) (fun d hd => (List.mem_cons.mp hd).elim (fun e => e ▸ lc) (hD d)) (fun w hw => by
        rcases List.mem_append.mp hw with hw | hw
        · exact hF w hw
        · obtain ⟨u, hu, rfl⟩ := List.mem_map.mp hw
          rw [xr_len (by rw [lc, hF u hu]), lc]) (List.mem_append_left _ h0) fun d hd v hv => by
          rcases List.mem_append.mp hv with hw | hw
          · rcases List.mem_cons.mp hd with e | hd
            · rw [e]
              exact List.mem_append_right _ (List.mem_map.mpr ⟨v, hw, rfl⟩)
            · exact List.mem_append_left _ (h d hd v hw)
          · obtain ⟨u, hu, rfl⟩ := List.mem_map.mp hw
            have lu := hF u hu
            rcases List.mem_cons.mp hd with rfl | hd
            · rw [← xr_assoc rfl (by rw [lc, lu]), xr_self, lc, xr_comm (by rw [nul_len, lu]), xr_nul lu]
              exact List.mem_append_left _ hu
            · have ld := hD d hd
              rw [← xr_assoc (by rw [ld, lc]) (by rw [lc, lu]), xr_comm (a := d) (by rw [ld, lc]), xr_assoc (by rw [lc, ld]) (by rw [ld, lu])]
              exact List.mem_append_right _ (List.mem_map.mpr ⟨_, h d hd u hu, rfl⟩)
      refine ⟨this.1, fun d hd => this.2 d ?_⟩
      rcases hd with hd | hd
      · exact .inl (List.mem_cons_of_mem _ hd)
      · rcases List.mem_cons.mp hd with rfl | hd
        · exact .inl (List.mem_cons_self ..)
        · exact .inr hd
  obtain ⟨h0, h1⟩ := go B [nul n] [] hB (fun d hd => (by cases hd)) (fun w hw => by rw [List.mem_singleton.mp hw]; exact nul_len n) (by simp) (fun d hd => by cases hd)
  induction s with
  | zero => exact h0
  | add hb _ ih => exact h1 _ (.inr hb) _ ih
/-- sorted, all sums of independent rows are the rows by their numbers -/
theorem sums_sorted (h : Rref n B S) (hB : Len n B) (hk : S.length = B.length) : (sums n B).mergeSort (PySem.W.dataLe false rowD) = numbered n S := by
  have asc := numbered_asc h.red h.asc
  have nd : (numbered n S).Nodup := asc.imp fun {a b} z e => by rw [e] at z; exact List.lt_irrefl _ z
  have p : (sums n B).Perm (numbered n S) := perm_of_sub _ _ nd (fun v hv => by
    obtain ⟨x, _, rfl⟩ := List.mem_map.mp hv
    exact sums_all hB ((h.span _).mp (cmb_sp h.red.len _))) (by
      unfold sums numbered
      rw [sums_len, List.length_map, List.length_range, hk]
      simp)
  refine sorted_unique (key := rowI) _ _ ((List.mergeSort_perm _ _).trans p) ?_ asc
  refine (sort_pairs false (sums n B)).imp fun {a b} z => ?_
  rw [dataLe_up] at z
  exact of_decide_eq_true z
/-! ### independent rows -/
def Ind (n : Nat) (B : List (List Bool)) : Prop := ∀ S, Rref n B S → S.length = B.length
theorem toldP_len (B : List (List Bool)) : (toldP B).length ≤ B.length := by
  have step : ∀ (B : List (List Bool)) (h : List Bool), (stepP B h).length ≤ B.length + 1 := fun B h => by
    unfold stepP
    split <;> simp
  have go : ∀ (rows B : List (List Bool)), (rows.foldl stepP B).length ≤ B.length + rows.length := fun rows => by
    induction rows with
    | nil => intro B; simp
    | cons h rows ih =>
      intro B
      have h1 := ih (stepP B h)
      have h2 := step B h
      simp only [List.foldl_cons, List.length_cons]
      omega
  have := go B []
  unfold toldP
  simpa using this
theorem rref_ex (h : Len n B) : ∃ S, Rref n B S ∧ S.length ≤ B.length := by
  obtain ⟨r, sp⟩ := told_red h
  obtain ⟨p, asc⟩ := sort_asc r
  exact ⟨_, Rref.of_perm r sp p asc, by rw [p.length_eq]; exact toldP_len B⟩
theorem rref_len (h : Len n B) (k : Rref n B S) : S.length ≤ B.length := by
  obtain ⟨T, hT, hl⟩ := rref_ex h
  rw [k.unique hT]
  exact hl
theorem ind_nil : Ind n [] := fun S h => by
  have := rref_len (n := n) (B := []) (fun b hb => by cases hb) h
  simpa using this
theorem rref_self (k : Rref n B S) : Rref n S S := ⟨k.red, k.asc, fun v => Iff.rfl⟩
theorem ind_rref (k : Rref n B S) : Ind n S := fun T hT => by rw [hT.unique (rref_self k)]
theorem ind_perm {P : List (List Bool)} (p : P.Perm B) (h : Ind n B) : Ind n P := fun S k => by
  rw [p.length_eq]
  exact h S ⟨k.red, k.asc, fun v => (k.span v).trans ⟨fun s => s.mono fun b hb => p.mem_iff.mp hb, fun s => s.mono fun b hb => p.mem_iff.mpr hb⟩⟩
end
end Z
set_option Elab.async false
set_option linter.all false
/-! G5: even rows. -/
namespace Z
section
variable {n : Nat} {B S T : List (List Bool)}
/-- the row with marks at some places -/
def mkRow (n : Nat) (L : List Nat) : List Bool := (List.range n).map fun q => L.contains q
theorem mkRow_len (n : Nat) (L : List Nat) : (mkRow n L).length = n := by simp [mkRow]
theorem gt_mkRow {n : Nat} {L : List Nat} {q : Nat} (h : q < n) : gt (mkRow n L) q = L.contains q := by
  unfold gt mkRow
  rw [List.getD_eq_getElem?_getD, List.getElem?_map, List.getElem?_range h]
  rfl
theorem mkRow_cons {n : Nat} {p : Nat} {L : List Nat} (h : p ∉ L) : mkRow n (p :: L) = xr (mkRow n [p]) (mkRow n L) :=
  row_ext (by rw [xr_len (by rw [mkRow_len, mkRow_len]), mkRow_len, mkRow_len]) fun q => by
    rw [gt_xr (by rw [mkRow_len, mkRow_len])]
    rcases Nat.lt_or_ge q n with z | z
    · rw [gt_mkRow z, gt_mkRow z, gt_mkRow z, List.contains_cons, List.contains_cons]
      by_cases e : q = p
      · subst e
        have : L.contains q = false := by simpa using h
        rw [this]
        simp
      · have : (q == p) = false := by simpa using e
        rw [this]
        simp
    · rw [gt_out (by rw [mkRow_len]; exact z), gt_out (by rw [mkRow_len]; exact z), gt_out (by rw [mkRow_len]; exact z)]
      rfl
theorem mkRow_nil (n : Nat) : mkRow n [] = nul n := row_ext (by rw [mkRow_len, nul_len]) fun q => by
  rw [gt_nul]
  rcases Nat.lt_or_ge q n with z | z
  · rw [gt_mkRow z]; rfl
  · rw [gt_out (by rw [mkRow_len]; exact z)]
/-! ### the free rows -/
/-! ### how many -/
theorem nodup_sub_len {α : Type} [BEq α] [LawfulBEq α] : ∀ (A M : List α), A.Nodup → (∀ a ∈ A, a ∈ M) → A.length ≤ M.length
  | [], M, _, _ => Nat.zero_le _
  | a :: A, M, nd, hs => by
    have nd' := List.nodup_cons.mp nd
    have ha := hs a (List.mem_cons_self ..)
    have ih := nodup_sub_len A (M.erase a) nd'.2 fun b hb => (List.mem_erase_of_ne fun e => nd'.1 (by rw [← e]; exact hb)).mpr (hs b (List.mem_cons_of_mem _ hb))
    have := List.length_erase_of_mem ha
    have := List.length_pos_of_mem ha
    simp only [List.length_cons]
    omega
theorem told_ind (h : Len n B) : Ind n B ↔ (toldP B).length = B.length := by
  obtain ⟨r, sp⟩ := told_red h
  obtain ⟨p, asc⟩ := sort_asc r
  have k := Rref.of_perm r sp p asc
  constructor
  · intro i
    have := i _ k
    rw [p.length_eq] at this
    exact this
  · intro e S hS
    rw [hS.unique k, p.length_eq]
    exact e
theorem ind_snoc {r : List Bool} (h : Len n B) (hr : r.length = n) (i : Ind n B) (z : ¬ Sp n B r) : Ind n (B ++ [r]) := by
  have h2 : Len n (B ++ [r]) := fun b hb => (List.mem_append.mp hb).elim (h b) fun y => by rw [List.mem_singleton.mp y]; exact hr
  rw [told_ind h2]
  rw [told_ind h] at i
  obtain ⟨rd, sp⟩ := told_red h
  have e : toldP (B ++ [r]) = stepP (toldP B) r := by unfold toldP; rw [List.foldl_append]; rfl
  rw [e]
  obtain ⟨lk, k0, k1, k2⟩ := red_row rd rfl hr
  have hm : (red1 (toldP B) r).contains true = true := by
    cases c : (red1 (toldP B) r).contains true with
    | true => rfl
    | false =>
      exfalso
      have hn : true ∉ red1 (toldP B) r := fun y => by rw [List.contains_iff_mem.mpr y] at c; cases c
      have ek := not_nul lk hn
      refine z ((sp r).mp (k2.sub rd.len fun c hc => ?_))
      rcases List.mem_cons.mp hc with rfl | hc
      · rw [ek]
        exact .zero
      · exact Sp.mem rd.len hc
  unfold stepP
  rw [hm]
  simp [i]
/-! ### all rows -/
end
theorem Rref.congr {rows rows' : List (List Bool)} (h : Rref n rows S) (e : ∀ v, Sp n rows v ↔ Sp n rows' v) : Rref n rows' S := ⟨h.red, h.asc, fun v => (h.span v).trans (e v)⟩
/-! ### as data -/
open PySem PySem.Spec PyProof.Rows L2
abbrev natD (k : Nat) : D := .int ((k : Nat) : Int)
theorem rangeD_nats (n : Nat) : rangeD 0 n 1 = (List.range n).map natD := by
  apply List.ext_getElem?
  intro i
  rcases Nat.lt_or_ge i n with z | z
  · rw [List.getElem?_map, List.getElem?_range z]
    cases e : (rangeD 0 n 1)[i]? with
    | none =>
      rw [List.getElem?_eq_none_iff, rangeD_len] at e
      omega
    | some x =>
      rw [(range_at e).2]
      rfl
  · rw [List.getElem?_eq_none (by rw [rangeD_len]; omega), List.getElem?_eq_none (by rw [List.length_map, List.length_range]; exact z)]
theorem any_nats (x : Nat) : ∀ L : List Nat, ((L.map natD).any fun z => PyData.eqv z (natD x)) = L.contains x
  | [] => rfl
  | k :: L => by
    rw [List.map_cons, List.any_cons, any_nats x L, List.contains_cons]
    congr 1
    show PyData.eqv (.int _) (.int _) = _
    simp only [PyData.eqv]
    rw [Bool.eq_iff_iff]
    simp only [beq_iff_eq, decide_eq_true_eq]
    omega
theorem plain_nats (L : List Nat) : PyData.plainAll (L.map natD) = true := plainAll_of fun d hd => by
  obtain ⟨x, _, rfl⟩ := List.mem_map.mp hd
  simp [PyData.plain, PyData.canLay0]
theorem depth_nats (L : List Nat) : PyData.depthAll (L.map natD) = 0 := by
  have := PySem.W.depth_ints (L.map fun k => ((k : Nat) : Int))
  rw [List.map_map] at this
  exact this
theorem fIn_natsT {neg : Bool} {x : Nat} {L : List Nat} {R : D → Prop} (h : R (.bool (if neg then !L.contains x else L.contains x))) : fIn neg (natD x) (.tuple (L.map natD)) R :=
  ⟨by simp [PyData.plain, PyData.canLay0], plain_nats L, by rw [depth_nats]; simp, by rw [any_nats]; exact h⟩
theorem solids_nats (L : List Nat) : solids (L.map natD) = true := solids_of fun k _ => solid_int _
theorem ix0 {x : D} {xs : List D} {P : D → Prop} : (∃ d, atI (x :: xs) 0 = some d ∧ P d) = P x :=
  propext ⟨fun ⟨d, e, h⟩ => by
    have e' : atI (x :: xs) 0 = some x := atI_ok (j := 0) rfl rfl
    rw [e'] at e
    rw [← Option.some.inj e] at h
    exact h, fun h => ⟨x, atI_ok (j := 0) rfl rfl, h⟩⟩
theorem ix1 {x y : D} {xs : List D} {P : D → Prop} : (∃ d, atI (x :: y :: xs) 1 = some d ∧ P d) = P y :=
  propext ⟨fun ⟨d, e, h⟩ => by
    have e' : atI (x :: y :: xs) 1 = some y := atI_ok (j := 1) rfl rfl
    rw [e'] at e
    rw [← Option.some.inj e] at h
    exact h, fun h => ⟨y, atI_ok (j := 1) rfl rfl, h⟩⟩
end Z
set_option Elab.async false
set_option linter.all false
set_option maxRecDepth 100000
set_option maxHeartbeats 4000000
/-! G6: sums and meets of codes. -/
namespace Z
section
variable {n : Nat} {A B C S T U : List (List Bool)}
theorem len_app (h : Len n A) (k : Len n B) : Len n (A ++ B) := fun b hb => (List.mem_append.mp hb).elim (h b) (k b)
theorem sp_left {v : List Bool} (s : Sp n A v) : Sp n (A ++ B) v := s.mono fun b hb => List.mem_append_left _ hb
theorem sp_right {v : List Bool} (s : Sp n B v) : Sp n (A ++ B) v := s.mono fun b hb => List.mem_append_right _ hb
theorem sp_app (hA : Len n A) (hB : Len n B) {v : List Bool} (s : Sp n (A ++ B) v) : ∃ a b, Sp n A a ∧ Sp n B b ∧ v = xr a b := by
  induction s with
  | zero => exact ⟨nul n, nul n, .zero, .zero, (xr_nul (nul_len n)).symm⟩
  | @add r w hr hw ih =>
    obtain ⟨a, b, ha, hb, rfl⟩ := ih
    have la := ha.len hA
    have lb := hb.len hB
    rcases List.mem_append.mp hr with z | z
    · exact ⟨xr r a, b, .add z ha, hb, (xr_assoc (by rw [hA r z, la]) (by rw [la, lb])).symm⟩
    · have lr := hB r z
      refine ⟨a, xr r b, ha, .add z hb, ?_⟩
      rw [← xr_assoc (by rw [lr, la]) (by rw [la, lb]), xr_comm (a := r) (by rw [lr, la]), xr_assoc (by rw [la, lr]) (by rw [lr, lb])]
theorem xr_back {a b : List Bool} (h : a.length = b.length) : xr a (xr a b) = b := by
  rw [← xr_assoc rfl h, xr_self, xr_comm (by rw [nul_len, h]), xr_nul h.symm]
theorem sp_snoc (hB : Len n B) {r v : List Bool} (hr : r.length = n) (s : Sp n (B ++ [r]) v) : Sp n B v ∨ Sp n B (xr r v) := by
  induction s with
  | zero => exact .inl .zero
  | @add b w hb hw ih =>
    have lw : w.length = n := hw.len (len_app hB fun c hc => by rw [List.mem_singleton.mp hc]; exact hr)
    rcases List.mem_append.mp hb with z | z
    · rcases ih with y | y
      · exact .inl (.add z y)
      · refine .inr ?_
        have lb := hB b z
        rw [← xr_assoc (by rw [hr, lb]) (by rw [lb, lw]), xr_comm (a := r) (by rw [hr, lb]), xr_assoc (by rw [lb, hr]) (by rw [hr, lw])]
        exact .add z y
    · obtain rfl := List.mem_singleton.mp z
      rcases ih with y | y
      · refine .inr ?_
        rw [xr_back (by rw [hr, lw])]
        exact y
      · exact .inl y
theorem foldP_len' : ∀ (rows B : List (List Bool)), (rows.foldl stepP B).length ≤ B.length + rows.length
  | [], B => by simp
  | h :: rows, B => by
    have := foldP_len' rows (stepP B h)
    have h1 : (stepP B h).length ≤ B.length + 1 := by
      unfold stepP
      split <;> simp
    simp only [List.foldl_cons, List.length_cons]
    omega
theorem ind_prefix (hA : Len n A) (hB : Len n B) (i : Ind n (A ++ B)) : Ind n A := by
  rw [told_ind (len_app hA hB)] at i
  rw [told_ind hA]
  have e : toldP (A ++ B) = B.foldl stepP (toldP A) := by unfold toldP; rw [List.foldl_append]
  have h1 := foldP_len' B (toldP A)
  have h2 := toldP_len A
  rw [e, List.length_append] at i
  omega
theorem ind_out (hB : Len n B) {r : List Bool} (hr : r.length = n) (i : Ind n (B ++ [r])) : ¬ Sp n B r := fun s => by
  obtain ⟨S, hS, hl⟩ := rref_ex hB
  have L1 : Len n (B ++ [r]) := len_app hB fun c hc => by rw [List.mem_singleton.mp hc]; exact hr
  have k : Rref n (B ++ [r]) S := hS.congr fun v => ⟨fun s => sp_left s, fun t => t.sub hB fun b hb => by
    rcases List.mem_append.mp hb with z | z
    · exact Sp.mem hB z
    · rw [List.mem_singleton.mp z]; exact s⟩
  have := i S k
  rw [List.length_append, List.length_singleton] at this
  omega
theorem ind_congr (i : Ind n A) (hA : Len n A) (e : ∀ v, Sp n A v ↔ Sp n B v) (h : Rref n B S) : S.length = A.length := i S (h.congr fun v => (e v).symm)
theorem sums_mem (hB : Len n B) {v : List Bool} : v ∈ sums n B ↔ Sp n B v := ⟨fun h => sums_go hB B [nul n] (fun _ h => h) (fun w hw => by rw [List.mem_singleton.mp hw]; exact .zero) v h, sums_all hB⟩
theorem sums_nodup (h : Rref n B S) (hB : Len n B) (hk : S.length = B.length) : (sums n B).Nodup := by
  have e := sums_sorted h hB hk
  have p : (sums n B).Perm (numbered n S) := by rw [← e]; exact (List.mergeSort_perm _ _).symm
  refine p.nodup_iff.mpr ((numbered_asc h.red h.asc).imp fun {a b} z e => by rw [e] at z; exact List.lt_irrefl _ z)
end
open PySem PySem.Spec PyProof.Rows L2
/-- two ways that go on alike -/
theorem joinK {G : Prop} {P Q : En → Prop} (key : ∀ ρ, Q ρ → P ρ) (main : (∀ ρ, Q ρ → P ρ) → G) : G := main key
end Z
set_option Elab.async false
set_option linter.all false
set_option maxRecDepth 100000
set_option maxHeartbeats 4000000
/-! G7: rows seen at places; kernels and images. -/
namespace Z
/-- a map of rows that keeps sums -/
structure Lin (n m : Nat) (f : List Bool → List Bool) : Prop where
  len : ∀ v, v.length = n → (f v).length = m
  add : ∀ u v, u.length = n → v.length = n → f (xr u v) = xr (f u) (f v)
  zer : f (nul n) = nul m
section
variable {n m : Nat} {A B C S T U : List (List Bool)} {f : List Bool → List Bool}
theorem Lin.lens (h : Lin n m f) (hB : Len n B) : Len m (B.map f) := fun b hb => by
  obtain ⟨c, hc, rfl⟩ := List.mem_map.mp hb
  exact h.len c (hB c hc)
theorem Lin.sp (h : Lin n m f) (hB : Len n B) (w : List Bool) : Sp m (B.map f) w ↔ ∃ u, Sp n B u ∧ w = f u := by
  constructor
  · intro s
    induction s with
    | zero => exact ⟨nul n, .zero, h.zer.symm⟩
    | @add b v hb hv ih =>
      obtain ⟨c, hc, rfl⟩ := List.mem_map.mp hb
      obtain ⟨u, hu, rfl⟩ := ih
      exact ⟨xr c u, .add hc hu, (h.add c u (hB c hc) (hu.len hB)).symm⟩
  · rintro ⟨u, hu, rfl⟩
    induction hu with
    | zero => rw [h.zer]; exact .zero
    | @add b v hb hv ih =>
      rw [h.add b v (hB b hb) (hv.len hB)]
      exact .add (List.mem_map.mpr ⟨b, hb, rfl⟩) ih
/-- ranks of a kernel and of an image add up -/
theorem rank_null (h : Lin n m f) (hB : Len n B) (iB : Ind n B) : ∃ K R : List (List Bool), Len n K ∧ Len m R ∧ Ind n K ∧ Ind m R ∧ K.length + R.length = B.length ∧ (∀ v, Sp n K v ↔ Sp n B v ∧ f v = nul m) ∧ ∀ w, Sp m R w ↔ ∃ u, Sp n B u ∧ w = f u := by
  have go : ∀ q l : List (List Bool), l ++ q = B → (∃ K R : List (List Bool), Len n K ∧ Len m R ∧ Ind n K ∧ Ind m R ∧ K.length + R.length = l.length ∧ (∀ v, Sp n K v ↔ Sp n l v ∧ f v = nul m) ∧ ∀ w, Sp m R w ↔ ∃ u, Sp n l u ∧ w = f u) →
      ∃ K R : List (List Bool), Len n K ∧ Len m R ∧ Ind n K ∧ Ind m R ∧ K.length + R.length = B.length ∧ (∀ v, Sp n K v ↔ Sp n B v ∧ f v = nul m) ∧ ∀ w, Sp m R w ↔ ∃ u, Sp n B u ∧ w = f u := fun q => by
    induction q with
    | nil => intro l e h; rw [List.append_nil] at e; subst e; exact h
    | cons p q ih =>
      intro l e hyp
      refine ih (l ++ [p]) (by rw [List.append_assoc]; exact e) ?_
      have hl : Len n l := fun b hb => hB b (by rw [← e]; exact List.mem_append_left _ hb)
      have hp : p.length = n := hB p (by rw [← e]; simp)
      have hp1 : Len n [p] := fun c hc => by rw [List.mem_singleton.mp hc]; exact hp
      have hq : Len n q := fun b hb => hB b (by rw [← e]; simp [hb])
      have i1 : Ind n (l ++ [p]) := ind_prefix (len_app hl hp1) hq (by rw [List.append_assoc]; exact (show l ++ ([p] ++ q) = B from e) ▸ iB)
      have np := ind_out hl hp i1
      have lp := len_app hl hp1
      have sp1 : Sp n (l ++ [p]) p := sp_right (Sp.mem hp1 (List.mem_singleton.mpr rfl))
      obtain ⟨K, R, lK, lR, iK, iR, c, sK, sR⟩ := hyp
      have fp := h.len p hp
      by_cases z : Sp m R (f p)
      · obtain ⟨u, hu, eu⟩ := (sR _).mp z
        have lu := hu.len hl
        have fu := h.len u lu
        have fz : f (xr p u) = nul m := by rw [h.add p u hp lu, eu, xr_self, fu]
        have spu : Sp n (l ++ [p]) (xr p u) := sp1.xr lp (sp_left hu)
        have lpu : (xr p u).length = n := by rw [xr_len (by rw [hp, lu]), hp]
        have l1 : Len n [xr p u] := fun c hc => by rw [List.mem_singleton.mp hc]; exact lpu
        have nin : ¬ Sp n K (xr p u) := fun y => by
          have h1 := ((sK _).mp y).1.xr hl hu
          rw [xr_assoc (by rw [hp, lu]) rfl, xr_self, lu, xr_nul hp] at h1
          exact np h1
        refine ⟨K ++ [xr p u], R, len_app lK l1, lR, ind_snoc lK lpu iK nin, iR, by rw [List.length_append, List.length_append, List.length_singleton, List.length_singleton]; omega, fun v => ⟨fun s => ?_, fun ⟨s, ez⟩ => ?_⟩, fun w => ⟨fun s => ?_, fun ⟨v, s, ew⟩ => ?_⟩⟩
        · obtain ⟨a, b, ha, hb, rfl⟩ := sp_app lK l1 s
          have h1 := (sK a).mp ha
          have la := ha.len lK
          have hb' : b = nul n ∨ b = xr p u := by
            clear s
            induction hb with
            | zero => exact .inl rfl
            | @add r w hr hw ih =>
              rw [List.mem_singleton.mp hr]
              rcases ih with e1 | e1
              · exact .inr (by rw [e1, xr_nul lpu])
              · exact .inl (by rw [e1, xr_self, lpu])
          rcases hb' with rfl | rfl
          · rw [xr_nul la]
            exact ⟨sp_left h1.1, h1.2⟩
          · refine ⟨(sp_left h1.1).xr lp spu, ?_⟩
            rw [h.add a _ la lpu, h1.2, fz, xr_nul (nul_len m)]
        · have lv := s.len lp
          rcases sp_snoc hl hp s with y | y
          · exact sp_left ((sK v).mpr ⟨y, ez⟩)
          · have h1 : Sp n K (xr (xr p u) v) := (sK _).mpr ⟨by
              rw [xr_comm (a := p) (by rw [hp, lu]), xr_assoc (by rw [lu, hp]) (by rw [hp, lv])]
              exact hu.xr hl y, by rw [h.add _ v lpu lv, fz, ez, xr_nul (nul_len m)]⟩
            have l2 := len_app lK l1
            have h2 := (Sp.mem l2 (b := xr p u) (by simp)).xr l2 (sp_left (B := [xr p u]) h1)
            rwa [xr_back (by rw [lpu, lv])] at h2
        · obtain ⟨v, hv, ew⟩ := (sR w).mp s
          exact ⟨v, sp_left hv, ew⟩
        · have lv := s.len lp
          rcases sp_snoc hl hp s with y | y
          · exact (sR w).mpr ⟨v, y, ew⟩
          · have h1 : Sp m R (f (xr p v)) := (sR _).mpr ⟨_, y, rfl⟩
            have h2 := z.xr lR h1
            rw [h.add p v hp lv, xr_back (by rw [fp, h.len v lv])] at h2
            rw [ew]
            exact h2
      · have l1 : Len m [f p] := fun c hc => by rw [List.mem_singleton.mp hc]; exact fp
        refine ⟨K, R ++ [f p], lK, len_app lR l1, iK, ind_snoc lR fp iR z, by rw [List.length_append, List.length_append, List.length_singleton, List.length_singleton]; omega, fun v => ?_, fun w => ⟨fun s => ?_, fun ⟨v, s, ew⟩ => ?_⟩⟩
        · rw [sK v]
          refine ⟨fun y => ⟨sp_left y.1, y.2⟩, fun y => ⟨?_, y.2⟩⟩
          have lv := y.1.len lp
          rcases sp_snoc hl hp y.1 with x | x
          · exact x
          · refine (z ((sR _).mpr ⟨_, x, ?_⟩)).elim
            rw [h.add p v hp lv, y.2, xr_nul fp]
        · obtain ⟨a, b, ha, hb, rfl⟩ := sp_app lR l1 s
          obtain ⟨u, hu, eu⟩ := (sR a).mp ha
          have la := ha.len lR
          have hb' : b = nul m ∨ b = f p := by
            clear s
            induction hb with
            | zero => exact .inl rfl
            | @add r w hr hw ih =>
              rw [List.mem_singleton.mp hr]
              rcases ih with e1 | e1
              · exact .inr (by rw [e1, xr_nul fp])
              · exact .inl (by rw [e1, xr_self, fp])
          rcases hb' with rfl | rfl
          · exact ⟨u, sp_left hu, by rw [xr_nul la]; exact eu⟩
          · exact ⟨xr u p, (sp_left hu).xr lp sp1, by rw [h.add u p (hu.len hl) hp, eu]⟩
        · have lv := s.len lp
          rw [ew]
          rcases sp_snoc hl hp s with y | y
          · exact sp_left ((sR _).mpr ⟨v, y, rfl⟩)
          · have h1 : Sp m R (f (xr p v)) := (sR _).mpr ⟨_, y, rfl⟩
            have l2 := len_app lR l1
            have h2 := (Sp.mem l2 (b := f p) (by simp)).xr l2 (sp_left (B := [f p]) h1)
            rw [h.add p v hp lv, xr_back (by rw [fp, h.len v lv])] at h2
            exact h2
  refine go B [] rfl ⟨[], [], fun b hb => (by cases hb), fun b hb => (by cases hb), ind_nil, ind_nil, by simp, fun v => ⟨fun s => ?_, fun s => s.1⟩, fun w => ⟨fun s => ?_, fun ⟨u, hu, e⟩ => ?_⟩⟩
  · cases s with
    | zero => exact ⟨.zero, h.zer⟩
    | add hb _ => cases hb
  · cases s with
    | zero => exact ⟨nul n, .zero, h.zer.symm⟩
    | add hb _ => cases hb
  · cases hu with
    | zero => rw [e, h.zer]; exact .zero
    | add hb _ => cases hb
theorem ind_zero (hB : Len n B) (iB : Ind n B) (h : ∀ v, Sp n B v → v = nul n) : B.length = 0 := by
  have k : Rref n B [] := by
    refine ⟨red_nil, .nil, fun v => ⟨fun s => ?_, fun s => ?_⟩⟩
    · cases s with
      | zero => exact .zero
      | add hb _ => cases hb
    · rw [h v s]
      exact .zero
  have := iB [] k
  simpa using this.symm
/-! ### places -/
def atP (P : List Nat) (v : List Bool) : List Bool := P.map fun p => gt v p
theorem atP_len (P : List Nat) (v : List Bool) : (atP P v).length = P.length := List.length_map ..
theorem gt_atP {P : List Nat} {v : List Bool} {j : Nat} (h : j < P.length) : gt (atP P v) j = gt v P[j] := by
  show (P.map fun p => gt v p).getD j false = _
  rw [List.getD_eq_getElem?_getD, List.getElem?_map, List.getElem?_eq_getElem h]
  rfl
theorem lin_atP (n : Nat) (P : List Nat) : Lin n P.length (atP P) := by
  refine ⟨fun v _ => atP_len P v, fun u v hu hv => ?_, ?_⟩
  · refine row_ext (by rw [xr_len (by rw [atP_len, atP_len]), atP_len, atP_len]) fun j => ?_
    rw [gt_xr (by rw [atP_len, atP_len])]
    rcases Nat.lt_or_ge j P.length with z | z
    · rw [gt_atP z, gt_atP z, gt_atP z, gt_xr (by rw [hu, hv])]
    · rw [gt_out (by rw [atP_len]; exact z), gt_out (by rw [atP_len]; exact z), gt_out (by rw [atP_len]; exact z)]
      rfl
  · refine row_ext (by rw [atP_len, nul_len]) fun j => ?_
    rw [gt_nul]
    rcases Nat.lt_or_ge j P.length with z | z
    · rw [gt_atP z, gt_nul]
    · rw [gt_out (by rw [atP_len]; exact z)]
/-- the row with told marks at places, noughts elsewhere -/
def extP (n : Nat) (P : List Nat) (v : List Bool) : List Bool := (List.range n).map fun q => gt v (P.idxOf q) && P.contains q
def outP (n : Nat) (P : List Nat) : List Nat := (List.range n).filter fun q => !P.contains q
theorem mem_outP {P : List Nat} {q : Nat} : q ∈ outP n P ↔ q < n ∧ q ∉ P := by
  unfold outP
  rw [List.mem_filter, List.mem_range]
  simp
/-! ### the code left at places -/
structure LeftAt (n : Nat) (B : List (List Bool)) (P : List Nat) (L : List (List Bool)) : Prop where
  red : Red P.length L
  asc : L.Pairwise fun a b => lead a < lead b
  span : ∀ v, Sp P.length L v ↔ v.length = P.length ∧ Sp n B (extP n P v)
theorem LeftAt.unique {P : List Nat} {L M : List (List Bool)} (h : LeftAt n B P L) (k : LeftAt n B P M) : L = M :=
  Rref.unique (rows := L) ⟨h.red, h.asc, fun v => Iff.rfl⟩ ⟨k.red, k.asc, fun v => (k.span v).trans (h.span v).symm⟩
theorem LeftAt.congr {P : List Nat} {L : List (List Bool)} (h : LeftAt n B P L) (e : ∀ v, Sp n B v ↔ Sp n C v) : LeftAt n C P L := ⟨h.red, h.asc, fun v => (h.span v).trans (and_congr Iff.rfl (e _))⟩
end
open PySem PySem.Spec PyProof.Rows L2
theorem atP_data (P : List Nat) (v : List Bool) : (P.map fun p => (.int (bI (gt v p)) : D)) = (rowI (atP P v)).map .int := by
  unfold rowI atP
  rw [List.map_map, List.map_map]
  rfl
end Z
set_option Elab.async false
set_option linter.all false
set_option maxRecDepth 100000
set_option maxHeartbeats 4000000
/-! G8: rows made of rows, bases changed. -/
namespace Z
section
variable {n k : Nat} {A B C S T : List (List Bool)}
/-- the places of the marks -/
def idxs (c : List Bool) : List Nat := (List.range c.length).filter fun i => gt c i
theorem mem_idxs {c : List Bool} {i : Nat} : i ∈ idxs c ↔ gt c i = true := by
  unfold idxs
  rw [List.mem_filter, List.mem_range]
  refine ⟨fun z => z.2, fun z => ⟨Nat.lt_of_not_le fun h => (by rw [gt_out h] at z; cases z), z⟩⟩
theorem idxs_lt {c : List Bool} {i : Nat} (h : i ∈ idxs c) : i < c.length := by
  unfold idxs at h
  exact List.mem_range.mp (List.mem_filter.mp h).1
theorem up_same : ∀ {A B : List Nat}, A.Pairwise (· < ·) → B.Pairwise (· < ·) → (∀ x, x ∈ A ↔ x ∈ B) → A = B
  | [], [], _, _, _ => rfl
  | [], c :: C, _, _, h => by have := (h c).mpr (List.mem_cons_self ..); cases this
  | b :: B, [], _, _, h => by have := (h b).mp (List.mem_cons_self ..); cases this
  | b :: B, c :: C, hB, hC, h => by
    rw [List.pairwise_cons] at hB hC
    have e : b = c := by
      rcases List.mem_cons.mp ((h b).mp (List.mem_cons_self ..)) with z | z
      · exact z
      · rcases List.mem_cons.mp ((h c).mpr (List.mem_cons_self ..)) with y | y
        · exact y.symm
        · have h1 := hB.1 c y
          have h2 := hC.1 b z
          omega
    subst e
    rw [up_same hB.2 hC.2 fun d => ⟨fun hd => ?_, fun hd => ?_⟩]
    · rcases List.mem_cons.mp ((h d).mp (List.mem_cons_of_mem _ hd)) with z | z
      · have := hB.1 d hd
        omega
      · exact z
    · rcases List.mem_cons.mp ((h d).mpr (List.mem_cons_of_mem _ hd)) with z | z
      · have := hC.1 d hd
        omega
      · exact z
/-! ### a base with another row -/
/-! ### rows taken down by others -/
end
open PySem PySem.Spec PyProof.Rows L2
/-! ### as data -/
theorem dataLe_nats : PySem.W.dataLe (β := Nat) false natD = fun a b => decide (a ≤ b) := by
  funext a b
  show (!PySem.W.dataLt (.int ((b : Nat) : Int)) (.int ((a : Nat) : Int))) = _
  rw [PySem.W.dataLt_int]
  by_cases h : b < a
  · have h1 : (b : Int) < (a : Int) := by omega
    have h2 : ¬ a ≤ b := by omega
    simp [h1, h2]
  · have h1 : ¬ (b : Int) < (a : Int) := by omega
    have h2 : a ≤ b := by omega
    simp [h1, h2]
theorem sortD_nats {L M : List Nat} (nd : L.Nodup) (asc : M.Pairwise (· < ·)) (h : ∀ x, x ∈ L ↔ x ∈ M) : sortD false (L.map natD) = M.map natD := by
  have e : sortD false (L.map natD) = (L.mergeSort (PySem.W.dataLe false natD)).map natD := by
    have := List.map_mergeSort (r := PySem.W.dataLe (β := Nat) false natD) (s := PySem.W.dataLe false id) (f := natD) (l := L) (fun a _ b' _ => rfl)
    exact this.symm
  have p : (L.mergeSort (PySem.W.dataLe false natD)).Perm L := List.mergeSort_perm _ _
  rw [e]
  congr 1
  refine up_same ?_ asc fun x => by rw [p.mem_iff, h x]
  have pw : (L.mergeSort (PySem.W.dataLe false natD)).Pairwise fun a b => decide (a ≤ b) = true := by
    rw [dataLe_nats]
    exact List.pairwise_mergeSort (le := fun a b => decide (a ≤ b)) (fun a b c h1 h2 => by simp only [decide_eq_true_eq] at *; omega) (fun a b => by simp only [Bool.or_eq_true, decide_eq_true_eq]; omega) L
  refine (pw.and (p.nodup_iff.mpr nd)).imp fun {a b} z => ?_
  have := of_decide_eq_true z.1
  have := z.2
  omega
theorem sortOk_nats {L : List Nat} (h : L.length ≤ 10000000) : SortOk (L.map natD) := by
  refine ⟨plain_nats L, PySem.W.AllAlike.of (fun a b => ?_), .inr fun d hd => ?_, by simpa using h, by rw [depth_nats]; omega⟩
  · show PySem.W.alike (.int _) (.int _) = true
    simp only [PySem.W.alike]
  · obtain ⟨x, _, rfl⟩ := List.mem_map.mp hd
    exact ⟨(by intro z; cases z), (by intro xs z; cases z)⟩
end Z
set_option Elab.async false
set_option linter.all false
set_option maxRecDepth 100000
set_option maxHeartbeats 4000000
/-! G9: rows of any marks. -/
set_option Elab.async false
set_option linter.all false
set_option maxRecDepth 100000
set_option maxHeartbeats 4000000
/-! G10: rows as numbers, place k for 2 to the k. -/
namespace Z
open PySem PySem.Spec PyProof.Rows L2
section
variable {n m : Nat} {A B C S T U : List (List Bool)} {f : List Bool → List Bool}
def numB : List Bool → Nat
  | [] => 0
  | b :: bs => bN b + 2 * numB bs
def meetB (a b : List Bool) : List Bool := List.zipWith (fun x y => x && y) a b
theorem meetB_len {a b : List Bool} (h : a.length = b.length) : (meetB a b).length = a.length := by simp [meetB, h]
theorem numB_inj : ∀ {a b : List Bool}, a.length = b.length → numB a = numB b → a = b
  | [], [], _, _ => rfl
  | [], b :: bs, h, _ => by cases h
  | a :: as, [], h, _ => by cases h
  | a :: as, b :: bs, h, e => by
    simp only [numB] at e
    have l : as.length = bs.length := by simpa using h
    have e1 : numB as = numB bs := by cases a <;> cases b <;> simp [bN] at e <;> omega
    have e2 : a = b := by cases a <;> cases b <;> simp [bN] at e ⊢ <;> omega
    rw [e2, numB_inj l e1]
theorem numB_nul : ∀ n, numB (nul n) = 0
  | 0 => rfl
  | n + 1 => by
    have := numB_nul n
    unfold nul at this ⊢
    rw [List.replicate_succ]
    simp [numB, this, bN]
theorem numB_zero {v : List Bool} (h : numB v = 0) : v = nul v.length := numB_inj (by rw [nul_len]) (by rw [h, numB_nul])
theorem numB_xr : ∀ {a b : List Bool}, a.length = b.length → (numB (xr a b) : Int) = numB a + numB b - 2 * numB (meetB a b)
  | [], [], _ => by simp [xr, meetB, numB]
  | [], b :: bs, h => by cases h
  | a :: as, [], h => by cases h
  | a :: as, b :: bs, h => by
    have l : as.length = bs.length := by simpa using h
    have ih := numB_xr l
    have e1 : xr (a :: as) (b :: bs) = (a ^^ b) :: xr as bs := rfl
    have e2 : meetB (a :: as) (b :: bs) = (a && b) :: meetB as bs := rfl
    rw [e1, e2]
    simp only [numB]
    cases a <;> cases b <;> simp [bN] <;> omega
theorem and_numB : ∀ {a b : List Bool}, a.length = b.length → Builtin.bitAnd (numB a) (numB b) = (numB (meetB a b) : Int)
  | [], [], _ => by decide
  | [], b :: bs, h => by cases h
  | a :: as, [], h => by cases h
  | a :: as, b :: bs, h => by
    have l : as.length = bs.length := by simpa using h
    have ih := and_numB l
    have e2 : meetB (a :: as) (b :: bs) = (a && b) :: meetB as bs := rfl
    rw [e2, PySem.W.kbt_halves]
    have d1 : ((numB (a :: as) : Nat) : Int) / 2 = numB as := by simp only [numB]; cases a <;> simp [bN] <;> omega
    have d2 : ((numB (b :: bs) : Nat) : Int) / 2 = numB bs := by simp only [numB]; cases b <;> simp [bN] <;> omega
    have m1 : ((numB (a :: as) : Nat) : Int) % 2 = 1 ↔ a = true := by simp only [numB]; cases a <;> simp [bN] <;> omega
    have m2 : ((numB (b :: bs) : Nat) : Int) % 2 = 1 ↔ b = true := by simp only [numB]; cases b <;> simp [bN] <;> omega
    rw [d1, d2, ih]
    simp only [m1, m2, numB]
    cases a <;> cases b <;> simp [bN] <;> omega
theorem xor_numB {a b : List Bool} (h : a.length = b.length) : Builtin.bitXor (numB a) (numB b) = (numB (xr a b) : Int) := by
  rw [bitXor_and, and_numB h, numB_xr h]
/-- the last place with a mark -/
def top : List Bool → Nat
  | [] => 0
  | b :: bs => if bs.contains true then top bs + 1 else 0
theorem gt_cons (b : Bool) (bs : List Bool) (p : Nat) : gt (b :: bs) (p + 1) = gt bs p := rfl
theorem top_gt : ∀ {h : List Bool}, true ∈ h → gt h (top h) = true
  | [], z => by cases z
  | b :: bs, z => by
    unfold top
    by_cases c : bs.contains true = true
    · rw [if_pos c, gt_cons]
      exact top_gt (by simpa using c)
    · rw [if_neg c]
      rcases List.mem_cons.mp z with rfl | z
      · rfl
      · exact absurd (by simpa using z) c
theorem less_top : ∀ {v h : List Bool}, v.length = h.length → true ∈ h → (numB (xr v h) < numB v ↔ gt v (top h) = true)
  | _, [], _, z => by cases z
  | [], b :: bs, h, _ => by cases h
  | a :: as, b :: bs, h, z => by
    have l : as.length = bs.length := by simpa using h
    have e1 : xr (a :: as) (b :: bs) = (a ^^ b) :: xr as bs := rfl
    rw [e1]
    unfold top
    by_cases c : bs.contains true = true
    · have z2 : true ∈ bs := by simpa using c
      have ih := less_top l z2
      rw [if_pos c, gt_cons, ← ih]
      have ne : numB (xr as bs) ≠ numB as := fun w => by
        have w2 := numB_inj (by rw [xr_len l]) w
        have g := top_gt z2
        have := congrArg (fun r => gt r (top bs)) w2
        simp only [gt_xr l, g] at this
        cases h2 : gt as (top bs) <;> rw [h2] at this <;> cases this
      simp only [numB]
      cases a <;> cases b <;> simp [bN] <;> omega
    · have bz : bs = nul bs.length := not_nul rfl (by simpa using c)
      have xe : xr as bs = as := by rw [bz]; exact xr_nul l
      have hb : b = true := by
        rcases List.mem_cons.mp z with rfl | z
        · rfl
        · exact absurd (by simpa using z) c
      subst hb
      rw [if_neg c, xe]
      simp only [numB]
      cases a <;> simp [bN, gt]
/-! ### numbers solved -/
def stepM (v h : List Bool) : List Bool := if numB (xr v h) < numB v then xr v h else v
def stepS (acc : List (List Bool)) (v : List Bool) : List (List Bool) := if numB (acc.foldl stepM v) ≠ 0 then acc ++ [acc.foldl stepM v] else acc
def solve (L : List (List Bool)) : List (List Bool) := L.foldl stepS []
/-- no later one has a mark at the last place of an earlier one -/
structure Heads (n : Nat) (L : List (List Bool)) : Prop where
  len : Len n L
  any : ∀ h ∈ L, true ∈ h
  low : L.Pairwise fun a b => gt b (top a) = false
theorem sp_one {h : List Bool} (hl : h.length = n) {u : List Bool} (s : Sp n [h] u) : u = nul n ∨ u = h := by
  induction s with
  | zero => exact .inl rfl
  | @add c u hc su ih =>
    rw [List.mem_singleton.mp hc]
    rcases ih with rfl | rfl
    · right; rw [xr_nul hl]
    · left; rw [xr_self, hl]
theorem sp_split {h : List Bool} (hl : h.length = n) (hL : Len n A) {v : List Bool} (s : Sp n (h :: A) v) : Sp n A v ∨ ∃ w, Sp n A w ∧ v = xr h w := by
  have l1 : Len n [h] := fun b hb => by rw [List.mem_singleton.mp hb]; exact hl
  obtain ⟨a, b, sa, sb, rfl⟩ := sp_app (A := [h]) l1 hL s
  have lb := sb.len hL
  rcases sp_one hl sa with rfl | rfl
  · left
    rw [xr_comm (by rw [nul_len, lb]), xr_nul lb]
    exact sb
  · exact .inr ⟨b, sb, rfl⟩
theorem xr_mid {v h y : List Bool} (lv : v.length = n) (lh : h.length = n) (ly : y.length = n) : xr v y = xr h (xr (xr v h) y) := by
  have l1 : (xr v h).length = n := by rw [xr_len (by rw [lv, lh]), lv]
  have l2 : (xr (xr v h) y).length = n := by rw [xr_len (by rw [l1, ly]), l1]
  refine row_ext (by rw [xr_len (by rw [lv, ly]), xr_len (by rw [lh, l2]), lv, lh]) fun p => ?_
  rw [gt_xr (by rw [lv, ly]), gt_xr (by rw [lh, l2]), gt_xr (by rw [l1, ly]), gt_xr (by rw [lv, lh])]
  cases gt v p <;> cases gt h p <;> cases gt y p <;> rfl
theorem heads_zero : ∀ {L : List (List Bool)}, Heads n L → ∀ {v : List Bool}, Sp n L v → (∀ h ∈ L, gt v (top h) = false) → v = nul n
  | [], _, v, s, _ => by
    cases s with
    | zero => rfl
    | add hb _ => cases hb
  | h :: L, H, v, s, z => by
    have low := List.pairwise_cons.mp H.low
    have hl := H.len h (List.mem_cons_self ..)
    have H' : Heads n L := ⟨fun b hb => H.len b (List.mem_cons_of_mem _ hb), fun b hb => H.any b (List.mem_cons_of_mem _ hb), low.2⟩
    have zero : ∀ w, Sp n L w → gt w (top h) = false := fun w sw => by
      induction sw with
      | zero => exact gt_nul ..
      | @add b u hb su ih => rw [gt_xr (by rw [H'.len b hb, su.len H'.len]), low.1 b hb, ih]; rfl
    rcases sp_split hl H'.len s with s | ⟨w, sw, rfl⟩
    · exact heads_zero H' s fun b hb => z b (List.mem_cons_of_mem _ hb)
    · have := z h (List.mem_cons_self ..)
      rw [gt_xr (by rw [hl, sw.len H'.len]), zero w sw, top_gt (H.any h (List.mem_cons_self ..))] at this
      cases this
theorem stepM_eq {v h : List Bool} (l : v.length = h.length) (z : true ∈ h) : stepM v h = if gt v (top h) then xr v h else v := by
  unfold stepM
  by_cases c : gt v (top h) = true
  · rw [if_pos ((less_top l z).mpr c), if_pos c]
  · rw [if_neg fun w => c ((less_top l z).mp w), if_neg c]
theorem solve_row : ∀ {L : List (List Bool)}, Heads n L → ∀ {v : List Bool}, v.length = n → (L.foldl stepM v).length = n ∧ (∀ h ∈ L, gt (L.foldl stepM v) (top h) = false) ∧ (∀ p, (∀ h ∈ L, gt h p = false) → gt (L.foldl stepM v) p = gt v p) ∧ Sp n L (xr v (L.foldl stepM v))
  | [], _, v, lv => ⟨lv, fun h hh => (by cases hh), fun p _ => rfl, by show Sp n [] (xr v v); rw [xr_self, lv]; exact .zero⟩
  | h :: L, H, v, lv => by
    have low := List.pairwise_cons.mp H.low
    have hl := H.len h (List.mem_cons_self ..)
    have hz := H.any h (List.mem_cons_self ..)
    have H' : Heads n L := ⟨fun b hb => H.len b (List.mem_cons_of_mem _ hb), fun b hb => H.any b (List.mem_cons_of_mem _ hb), low.2⟩
    have l1 : (stepM v h).length = n := by
      rw [stepM_eq (by rw [lv, hl]) hz]
      split
      · rw [xr_len (by rw [lv, hl]), lv]
      · exact lv
    have g1 : gt (stepM v h) (top h) = false := by
      rw [stepM_eq (by rw [lv, hl]) hz]
      by_cases c : gt v (top h) = true
      · rw [if_pos c, gt_xr (by rw [lv, hl]), c, top_gt hz]; rfl
      · rw [if_neg c]; simpa using c
    obtain ⟨i1, i2, i3, i4⟩ := solve_row H' l1
    rw [List.foldl_cons]
    refine ⟨i1, fun b hb => ?_, fun p hp => ?_, ?_⟩
    · rcases List.mem_cons.mp hb with rfl | hb
      · rw [i3 _ low.1, g1]
      · exact i2 b hb
    · rw [i3 p fun b hb => hp b (List.mem_cons_of_mem _ hb), stepM_eq (by rw [lv, hl]) hz]
      split
      · rw [gt_xr (by rw [lv, hl]), hp h (List.mem_cons_self ..), Bool.xor_false]
      · rfl
    · have i5 : Sp n (h :: L) (xr (stepM v h) (L.foldl stepM (stepM v h))) := i4.mono fun b hb => List.mem_cons_of_mem _ hb
      rw [stepM_eq (by rw [lv, hl]) hz] at i5 i1 ⊢
      by_cases c : gt v (top h) = true
      · rw [if_pos c] at i5 i1 ⊢
        have sh : Sp n (h :: L) h := Sp.mem H.len (List.mem_cons_self ..)
        have e := xr_mid lv hl i1
        rw [e]
        exact sh.xr H.len i5
      · rw [if_neg c] at i5 i1 ⊢
        exact i5
theorem numB_any {v : List Bool} (h : numB v ≠ 0) : true ∈ v := Classical.byContradiction fun z => h (by rw [not_nul rfl z, numB_nul])
theorem solve_go : ∀ (L : List (List Bool)) {acc D : List (List Bool)}, Len n L → Heads n acc → Ind n acc → Len n D → (∀ v, Sp n acc v ↔ Sp n D v) →
    Heads n (L.foldl stepS acc) ∧ Ind n (L.foldl stepS acc) ∧ ∀ v, Sp n (L.foldl stepS acc) v ↔ Sp n (D ++ L) v
  | [], acc, D, hL, H, i, lD, sp => ⟨H, i, fun v => by rw [List.append_nil]; exact sp v⟩
  | x :: L, acc, D, hL, H, i, lD, sp => by
    have lx := hL x (List.mem_cons_self ..)
    have hL' : Len n L := fun b hb => hL b (List.mem_cons_of_mem _ hb)
    have l1 : Len n [x] := fun b hb => by rw [List.mem_singleton.mp hb]; exact lx
    obtain ⟨r1, r2, r3, r4⟩ := solve_row H lx
    have lDx := len_app lD l1
    have sx : Sp n (D ++ [x]) x := sp_right (Sp.mem l1 (List.mem_singleton.mpr rfl))
    have sacc : ∀ v, Sp n acc v → Sp n (D ++ [x]) v := fun v s => sp_left ((sp v).mp s)
    have e : D ++ x :: L = (D ++ [x]) ++ L := by simp
    rw [List.foldl_cons, e]
    have back : ∀ E : List (List Bool), Len n E → (∀ b ∈ acc, Sp n E b) → Sp n E (acc.foldl stepM x) → ∀ v, Sp n (D ++ [x]) v → Sp n E v := fun E lE hE hr v s => by
      refine s.sub lE fun b hb => ?_
      rcases List.mem_append.mp hb with hb | hb
      · exact Sp.sub lE hE ((sp b).mpr (Sp.mem lD hb))
      · rw [List.mem_singleton.mp hb]
        have := (Sp.sub lE hE r4).xr lE hr
        rw [xr_assoc (by rw [lx, r1]) (by rw [r1]), xr_self, r1, xr_nul lx] at this
        exact this
    unfold stepS
    by_cases c : numB (acc.foldl stepM x) ≠ 0
    · rw [if_pos c]
      have lr : Len n [acc.foldl stepM x] := fun b hb => by rw [List.mem_singleton.mp hb]; exact r1
      have la := len_app H.len lr
      have nin : ¬ Sp n acc (acc.foldl stepM x) := fun s => c (by rw [heads_zero H s r2, numB_nul])
      refine solve_go L hL' ⟨la, fun b hb => ?_, List.pairwise_append.mpr ⟨H.low, List.pairwise_singleton _ _, fun a ha b hb => by rw [List.mem_singleton.mp hb]; exact r2 a ha⟩⟩ (ind_snoc H.len r1 i nin) lDx fun v => ⟨fun s => ?_, back _ la (fun b hb => Sp.mem la (List.mem_append_left _ hb)) (sp_right (Sp.mem lr (List.mem_singleton.mpr rfl))) v⟩
      · rcases List.mem_append.mp hb with hb | hb
        · exact H.any b hb
        · rw [List.mem_singleton.mp hb]; exact numB_any c
      · refine s.sub lDx fun b hb => ?_
        rcases List.mem_append.mp hb with hb | hb
        · exact sacc b (Sp.mem H.len hb)
        · rw [List.mem_singleton.mp hb]
          have := sx.xr lDx (sacc _ r4)
          rw [← xr_assoc rfl (by rw [lx, r1]), xr_self, lx, xr_comm (by rw [nul_len, r1]), xr_nul r1] at this
          exact this
    · rw [if_neg c]
      have z : acc.foldl stepM x = nul n := by
        have := numB_zero (v := acc.foldl stepM x) (by omega)
        rw [r1] at this
        exact this
      exact solve_go L hL' H i lDx fun v => ⟨fun s => sacc v s, back _ H.len (fun b hb => Sp.mem H.len hb) (by rw [z]; exact .zero) v⟩
theorem solve_ok {L : List (List Bool)} (h : Len n L) : Len n (solve L) ∧ Ind n (solve L) ∧ ∀ v, Sp n (solve L) v ↔ Sp n L v := by
  have := solve_go L (acc := []) (D := []) h ⟨fun b hb => (by cases hb), fun b hb => (by cases hb), .nil⟩ ind_nil (fun b hb => by cases hb) fun v => Iff.rfl
  exact ⟨this.1.len, this.2.1, by unfold solve; simpa using this.2.2⟩
/-- how many rows are independent -/
def rkN (B : List (List Bool)) : Nat := (toldP B).length
theorem rk_eq (h : Len n B) (k : Rref n B S) : S.length = rkN B := by
  obtain ⟨r, sp⟩ := told_red h
  obtain ⟨p, asc⟩ := sort_asc r
  rw [k.unique (Rref.of_perm r sp p asc), p.length_eq]
  rfl
theorem rk_ind (hB : Len n B) (hA : Len n A) (i : Ind n A) (e : ∀ v, Sp n A v ↔ Sp n B v) : A.length = rkN B := by
  obtain ⟨S, hS, _⟩ := rref_ex hB
  rw [← rk_eq hB hS]
  exact (ind_congr i hA e hS).symm
theorem rk_congr (hA : Len n A) (hB : Len n B) (e : ∀ v, Sp n A v ↔ Sp n B v) : rkN A = rkN B := by
  obtain ⟨S, hS, _⟩ := rref_ex hA
  rw [← rk_eq hA hS]
  exact rk_eq hB (hS.congr e)
theorem rk_le (B : List (List Bool)) : rkN B ≤ B.length := toldP_len B
theorem ind_rk (hB : Len n B) : Ind n B ↔ rkN B = B.length := told_ind hB
theorem solve_len {L : List (List Bool)} (h : Len n L) : (solve L).length = rkN L := by
  obtain ⟨a, b, c⟩ := solve_ok h
  exact rk_ind h a b c
end
end Z
set_option Elab.async false
set_option linter.all false
set_option maxRecDepth 100000
set_option maxHeartbeats 4000000
/-! G11: ranks at places, widths. -/
namespace Z
open PySem PySem.Spec PyProof.Rows L2
section
variable {n m : Nat} {A B C S T U : List (List Bool)} {f : List Bool → List Bool} {P Q : List Nat}
/-- a row with noughts outside P -/
def maskP (n : Nat) (P : List Nat) (v : List Bool) : List Bool := (List.range n).map fun q => gt v q && P.contains q
theorem maskP_len (n : Nat) (P : List Nat) (v : List Bool) : (maskP n P v).length = n := by simp [maskP]
theorem gt_maskP {v : List Bool} {q : Nat} (h : q < n) : gt (maskP n P v) q = (gt v q && P.contains q) := by
  unfold maskP gt
  simp [h]
theorem meet_mask {v : List Bool} (h : v.length = n) : meetB v (mkRow n P) = maskP n P v := by
  refine row_ext (by rw [meetB_len (by rw [h, mkRow_len]), h, maskP_len]) fun p => ?_
  by_cases hp : p < n
  · have e : gt (meetB v (mkRow n P)) p = (gt v p && gt (mkRow n P) p) := by
      unfold gt meetB
      rw [List.getD_eq_getElem?_getD, List.getElem?_zipWith, List.getD_eq_getElem?_getD, List.getD_eq_getElem?_getD]
      rw [List.getElem?_eq_getElem (by rw [h]; exact hp), List.getElem?_eq_getElem (by rw [mkRow_len]; exact hp)]
      rfl
    rw [e, gt_maskP hp, gt_mkRow hp]
  · rw [gt_out (by rw [meetB_len (by rw [h, mkRow_len]), h]; omega), gt_out (by rw [maskP_len]; omega)]
theorem lin_mask (n : Nat) (P : List Nat) : Lin n n (maskP n P) := by
  refine ⟨fun v _ => maskP_len n P v, fun u v hu hv => ?_, ?_⟩
  · refine row_ext (by rw [maskP_len, xr_len (by rw [maskP_len, maskP_len]), maskP_len]) fun p => ?_
    by_cases hp : p < n
    · rw [gt_xr (by rw [maskP_len, maskP_len]), gt_maskP hp, gt_maskP hp, gt_maskP hp, gt_xr (by rw [hu, hv])]
      cases gt u p <;> cases gt v p <;> cases P.contains p <;> rfl
    · rw [gt_out (by rw [maskP_len]; omega), gt_out (by rw [xr_len (by rw [maskP_len, maskP_len]), maskP_len]; omega)]
  · refine row_ext (by rw [maskP_len, nul_len]) fun p => ?_
    by_cases hp : p < n
    · rw [gt_maskP hp, gt_nul, Bool.false_and]
    · rw [gt_out (by rw [maskP_len]; omega), gt_nul]
/-- maps that lose nothing keep the rank -/
theorem rk_map (h : Lin n m f) (hB : Len n B) (z : ∀ v, Sp n B v → f v = nul m → v = nul n) : rkN (B.map f) = rkN B := by
  obtain ⟨S, hS, _⟩ := rref_ex hB
  have lS := hS.red.len
  have iS : Ind n S := ind_rref hS
  obtain ⟨K, R, lK, lR, iK, iR, c, sK, sR⟩ := rank_null h lS iS
  have k0 : K.length = 0 := ind_zero lK iK fun v s => by
    obtain ⟨s1, s2⟩ := (sK v).mp s
    exact z v ((hS.span v).mp s1) s2
  rw [← rk_eq hB hS, ← rk_ind (h.lens hB) lR iR fun w => (sR w).trans (((h.sp hB w).trans (exists_congr fun u => and_congr (hS.span u).symm Iff.rfl)).symm)]
  omega
theorem atP_mask {v : List Bool} (hP : ∀ p ∈ P, p < n) : atP P (maskP n P v) = atP P v := by
  unfold atP
  refine List.map_congr_left fun p hp => ?_
  rw [gt_maskP (hP p hp)]
  simp [hp]
theorem mask_zero {v : List Bool} (hP : ∀ p ∈ P, p < n) (h : atP P v = nul P.length) : maskP n P v = nul n := by
  refine row_ext (by rw [maskP_len, nul_len]) fun q => ?_
  by_cases hq : q < n
  · rw [gt_maskP hq, gt_nul]
    by_cases c : q ∈ P
    · obtain ⟨j, hj, e⟩ := List.mem_iff_getElem.mp c
      have := congrArg (fun r => gt r j) h
      simp only [gt_atP hj, gt_nul, e] at this
      rw [this]; rfl
    · simp [c]
  · rw [gt_out (by rw [maskP_len]; omega), gt_nul]
/-- the rank at places -/
def rkP (B : List (List Bool)) (P : List Nat) : Nat := rkN (B.map (atP P))
theorem rkP_mask (hB : Len n B) (hP : ∀ p ∈ P, p < n) : rkN (B.map (maskP n P)) = rkP B P := by
  have l1 := (lin_mask n P).lens hB
  have := rk_map (B := B.map (maskP n P)) (lin_atP n P) l1 fun v s e => by
    obtain ⟨u, su, rfl⟩ := ((lin_mask n P).sp hB v).mp s
    rw [atP_mask hP] at e
    exact mask_zero hP e
  rw [← this]
  unfold rkP
  congr 1
  rw [List.map_map]
  exact List.map_congr_left fun v hv => by simp only [Function.comp]; exact atP_mask hP
theorem rkP_eq {R : List (List Bool)} (hB : Len n B) (h : Rref P.length (B.map (atP P)) R) : R.length = rkP B P := rk_eq ((lin_atP n P).lens hB) h
/-- rows of the code that are noughts on P -/
def Ker (n : Nat) (B : List (List Bool)) (P : List Nat) (K : List (List Bool)) : Prop := Len n K ∧ Ind n K ∧ ∀ v, Sp n K v ↔ Sp n B v ∧ ∀ p ∈ P, gt v p = false
theorem at_zero {v : List Bool} : atP P v = nul P.length ↔ ∀ p ∈ P, gt v p = false := by
  constructor
  · intro h p hp
    obtain ⟨j, hj, e⟩ := List.mem_iff_getElem.mp hp
    have := congrArg (fun r => gt r j) h
    simp only [gt_atP hj, gt_nul, e] at this
    exact this
  · intro h
    refine row_ext (by rw [atP_len, nul_len]) fun j => ?_
    rw [gt_nul]
    by_cases hj : j < P.length
    · rw [gt_atP hj]; exact h _ (List.getElem_mem hj)
    · rw [gt_out (by rw [atP_len]; omega)]
theorem ker_ex (hB : Len n B) (iB : Ind n B) (P : List Nat) : ∃ K, Ker n B P K ∧ K.length + rkP B P = B.length := by
  obtain ⟨K, R, lK, lR, iK, iR, c, sK, sR⟩ := rank_null (lin_atP n P) hB iB
  refine ⟨K, ⟨lK, iK, fun v => (sK v).trans (and_congr Iff.rfl at_zero)⟩, ?_⟩
  have := rk_ind ((lin_atP n P).lens hB) lR iR fun w => (sR w).trans ((lin_atP n P).sp hB w).symm
  unfold rkP
  omega
theorem sub_len (hA : Len n A) (iA : Ind n A) (hB : Len n B) (h : ∀ v, Sp n A v → Sp n B v) : A.length ≤ B.length := by
  obtain ⟨S, hS, _⟩ := rref_ex hA
  have nd := sums_nodup hS hA (iA S hS)
  have := nodup_sub_len (sums n A) (sums n B) nd fun v hv => (sums_mem hB).mpr (h v ((sums_mem hA).mp hv))
  unfold sums at this
  rw [sums_len, sums_len] at this
  simp only [List.length_singleton, Nat.one_mul] at this
  exact (Nat.pow_le_pow_iff_right (by decide)).mp this
theorem rkP_mono (hB : Len n B) (iB : Ind n B) (h : ∀ p ∈ P, p ∈ Q) : rkP B P ≤ rkP B Q := by
  obtain ⟨K, k1, k2⟩ := ker_ex hB iB P
  obtain ⟨L, l1, l2⟩ := ker_ex hB iB Q
  have := sub_len l1.1 l1.2.1 k1.1 fun v s => (k1.2.2 v).mpr ⟨((l1.2.2 v).mp s).1, fun p hp => ((l1.2.2 v).mp s).2 p (h p hp)⟩
  omega
theorem rkP_same (hB : Len n B) (iB : Ind n B) (h : ∀ p, p ∈ P ↔ p ∈ Q) : rkP B P = rkP B Q := Nat.le_antisymm (rkP_mono hB iB fun p hp => (h p).mp hp) (rkP_mono hB iB fun p hp => (h p).mpr hp)
theorem rkP_nil : rkP B [] = 0 := by
  have h := rk_le (B.map (atP []))
  unfold rkP
  have l : Len 0 (B.map (atP [])) := fun b hb => by
    obtain ⟨c, _, rfl⟩ := List.mem_map.mp hb
    rfl
  obtain ⟨S, hS, _⟩ := rref_ex l
  rw [← rk_eq l hS]
  have := hS.red.count
  omega
theorem atP_all {v : List Bool} (h : v.length = n) : atP (List.range n) v = v := by
  refine row_ext (by rw [atP_len, List.length_range, h]) fun p => ?_
  by_cases hp : p < n
  · rw [gt_atP (by rw [List.length_range]; exact hp), List.getElem_range]
  · rw [gt_out (by rw [atP_len, List.length_range]; omega), gt_out (by omega)]
theorem rkP_all (hB : Len n B) (iB : Ind n B) : rkP B (List.range n) = B.length := by
  unfold rkP
  have : B.map (atP (List.range n)) = B := by
    exact (List.map_congr_left (g := fun v => v) fun v hv => atP_all (hB v hv)).trans (List.map_id' B)
  rw [this]
  exact (ind_rk hB).mp iB
/-- the width at places -/
def wdP (n : Nat) (B : List (List Bool)) (P : List Nat) : Int := (rkP B P : Int) + (rkP B (outP n P) : Int) - (B.length : Int)
theorem wd_same (hB : Len n B) (iB : Ind n B) (h : ∀ p, p ∈ P ↔ p ∈ Q) : wdP n B P = wdP n B Q := by
  unfold wdP
  rw [rkP_same hB iB h, rkP_same hB iB (P := outP n P) (Q := outP n Q) fun p => by rw [mem_outP, mem_outP, h p]]
theorem wd_nil (hB : Len n B) (iB : Ind n B) : wdP n B [] = 0 := by
  unfold wdP
  have e : outP n [] = List.range n := by unfold outP; exact List.filter_eq_self.mpr fun _ _ => rfl
  rw [rkP_nil, e, rkP_all hB iB]
  omega
theorem out_nodup (n : Nat) (P : List Nat) : (outP n P).Nodup := List.Nodup.sublist List.filter_sublist List.nodup_range
theorem rkP_congr (hA : Len n A) (hB : Len n B) (e : ∀ v, Sp n A v ↔ Sp n B v) : rkP A P = rkP B P :=
  rk_congr ((lin_atP n P).lens hA) ((lin_atP n P).lens hB) fun w => by
    rw [(lin_atP n P).sp hA w, (lin_atP n P).sp hB w]
    exact exists_congr fun u => and_congr (e u) Iff.rfl
/-- a row's number -/
abbrev nbD (v : List Bool) : D := .int ((numB v : Nat) : Int)
theorem num_sum : ∀ (v : List Bool) (j : Nat), ((v.zipIdx j).map fun p => bI p.1 * 2 ^ p.2).sum = (numB v : Int) * 2 ^ j
  | [], j => by simp [numB]
  | b :: bs, j => by
    rw [List.zipIdx_cons, List.map_cons, List.sum_cons, num_sum bs (j + 1)]
    simp only [numB]
    have e : (2 : Int) ^ (j + 1) = 2 * 2 ^ j := by rw [Int.pow_succ, Int.mul_comm]
    rw [e]
    cases b
    · simp only [bI, bN, Bool.false_eq_true, if_false, Int.zero_mul, Int.zero_add, Nat.zero_add]
      rw [Int.natCast_mul, ← Int.mul_assoc, Int.mul_comm (numB bs : Int) 2]
      rfl
    · simp only [bI, bN, if_true, Int.one_mul]
      rw [Int.natCast_add, Int.natCast_mul, Int.add_mul, ← Int.mul_assoc, Int.mul_comm (numB bs : Int) 2]
      simp
/-- sums of places, each once -/
theorem num_disj : ∀ {a b : List Bool}, a.length = b.length → (∀ p, gt a p = true → gt b p = false) → numB (xr a b) = numB a + numB b
  | [], [], _, _ => by simp [xr, numB]
  | [], b :: bs, h, _ => by cases h
  | a :: as, [], h, _ => by cases h
  | a :: as, b :: bs, h, z => by
    have l : as.length = bs.length := by simpa using h
    have ih := num_disj l fun p hp => z (p + 1) hp
    have e1 : xr (a :: as) (b :: bs) = (a ^^ b) :: xr as bs := rfl
    have z0 : a = true → b = false := z 0
    rw [e1]
    simp only [numB, ih]
    cases a <;> cases b <;> simp [bN] at z0 ⊢ <;> omega
theorem num_unit : ∀ {n p : Nat}, p < n → numB (mkRow n [p]) = 2 ^ p
  | 0, p, h => by omega
  | n + 1, 0, _ => by
    have e : mkRow (n + 1) [0] = true :: nul n := by
      refine row_ext (by simp [mkRow_len, nul_len]) fun q => ?_
      cases q with
      | zero => rw [gt_mkRow (by omega)]; rfl
      | succ q =>
        rw [gt_cons, gt_nul]
        by_cases hq : q + 1 < n + 1
        · rw [gt_mkRow hq]; simp
        · rw [gt_out (by rw [mkRow_len]; omega)]
    rw [e]
    simp [numB, numB_nul, bN]
  | n + 1, p + 1, h => by
    have e : mkRow (n + 1) [p + 1] = false :: mkRow n [p] := by
      refine row_ext (by simp [mkRow_len]) fun q => ?_
      cases q with
      | zero => rw [gt_mkRow (by omega)]; simp [gt]
      | succ q =>
        rw [gt_cons]
        by_cases hq : q < n
        · rw [gt_mkRow hq, gt_mkRow (by omega)]; simp
        · rw [gt_out (by rw [mkRow_len]; omega), gt_out (by rw [mkRow_len]; omega)]
    rw [e]
    simp only [numB, num_unit (show p < n by omega), bN, Bool.false_eq_true, if_false]
    rw [Nat.pow_succ]
    omega
theorem mask_sum : ∀ {P : List Nat}, P.Nodup → (∀ p ∈ P, p < n) → (P.map fun p => (2 : Int) ^ p).sum = (numB (mkRow n P) : Int)
  | [], _, _ => by rw [mkRow_nil, numB_nul]; rfl
  | p :: P, nd, h => by
    have hp := List.nodup_cons.mp nd
    rw [List.map_cons, List.sum_cons, mask_sum hp.2 fun q hq => h q (List.mem_cons_of_mem _ hq), mkRow_cons hp.1, num_disj (by rw [mkRow_len, mkRow_len]) fun q hq => ?_, num_unit (h p (List.mem_cons_self ..))]
    · simp
    · by_cases c : q < n
      · rw [gt_mkRow c] at hq
        rw [gt_mkRow c]
        have : q = p := by simpa using hq
        subst this
        simpa using hp.1
      · exact gt_out (by rw [mkRow_len]; omega)
theorem ind_map {m : Nat} {f : List Bool → List Bool} (h : Lin n m f) (hB : Len n B) (iB : Ind n B) (z : ∀ v, Sp n B v → f v = nul m → v = nul n) : Ind m (B.map f) := by
  rw [ind_rk (h.lens hB), rk_map h hB z, List.length_map]
  exact (ind_rk hB).mp iB
theorem ind_at (hB : Len n B) (iB : Ind n B) (h : ∀ p, p < n → p ∈ P) : Ind P.length (B.map (atP P)) := ind_map (lin_atP n P) hB iB fun v s e => by
  have lv := s.len hB
  refine row_ext (by rw [lv, nul_len]) fun q => ?_
  rw [gt_nul]
  by_cases hq : q < n
  · exact at_zero.mp e q (h q hq)
  · exact gt_out (by omega)
theorem ind_count (hB : Len n B) (iB : Ind n B) : B.length ≤ n := by
  obtain ⟨S, hS, _⟩ := rref_ex hB
  have := hS.red.count
  have := iB S hS
  omega
theorem stepS_ok {acc : List (List Bool)} (h : Heads n acc) (i : Ind n acc) {v : List Bool} (hv : v.length = n) : Heads n (stepS acc v) ∧ Ind n (stepS acc v) := by
  have := solve_go [v] (fun b hb => by rw [List.mem_singleton.mp hb]; exact hv) h i h.len fun w => Iff.rfl
  exact ⟨this.1, this.2.1⟩
theorem heads_nil : Heads n [] := ⟨fun b hb => (by cases hb), fun b hb => (by cases hb), .nil⟩
theorem range_map {α β : Type} (f : α → β) (d : α) (P : List α) : ((List.range P.length).map fun q => f (P.getD q d)) = P.map f := by
  refine List.ext_getElem (by simp) fun i h1 h2 => ?_
  have h3 : i < P.length := by simpa using h2
  simp [h3]
/-- the places of a lot, ascending -/
def ascP (n : Nat) (L : List Nat) : List Nat := (List.range n).filter fun q => L.contains q
theorem mem_ascP {L : List Nat} (h : ∀ p ∈ L, p < n) {q : Nat} : q ∈ ascP n L ↔ q ∈ L := by
  unfold ascP
  rw [List.mem_filter, List.mem_range]
  constructor
  · intro z; simpa using z.2
  · intro z; exact ⟨h q z, by simpa using z⟩
theorem ascP_asc (n : Nat) (L : List Nat) : (ascP n L).Pairwise (· < ·) := List.Pairwise.sublist List.filter_sublist List.pairwise_lt_range
theorem ascP_len (n : Nat) (L : List Nat) : (ascP n L).length ≤ n := by
  have := List.length_filter_le (fun q => L.contains q) (List.range n)
  rw [List.length_range] at this
  exact this
theorem sort_ascP {L : List Nat} (nd : L.Nodup) (h : ∀ p ∈ L, p < n) : sortD false (L.map natD) = (ascP n L).map natD := sortD_nats nd (ascP_asc n L) fun x => (mem_ascP h).symm
/-- the widths along an order -/
def wds (n : Nat) (B : List (List Bool)) (o : List Nat) : List Int := (List.range (n + 1)).map fun i => wdP n B (o.take i)
end
end Z
set_option Elab.async false
set_option linter.all false
set_option maxRecDepth 100000
set_option maxHeartbeats 4000000
/-! G12: how many rows of a code are noughts on places, or beside them; how many sums they have. -/
namespace Z
open PySem PySem.Spec PyProof.Rows L2
section
variable {n : Nat} {B K S : List (List Bool)} {P : List Nat}
theorem mask_nul {v : List Bool} (hP : ∀ p ∈ P, p < n) : maskP n P v = nul n ↔ ∀ p ∈ P, gt v p = false := by
  constructor
  · intro e p hp
    have := congrArg (fun r => gt r p) e
    simp only [gt_maskP (hP p hp), gt_nul] at this
    simpa [hp] using this
  · intro z
    refine row_ext (by rw [maskP_len, nul_len]) fun q => ?_
    by_cases hq : q < n
    · rw [gt_maskP hq, gt_nul]
      by_cases c : q ∈ P
      · rw [z q c]; rfl
      · simp [c]
    · rw [gt_out (by rw [maskP_len]; omega), gt_nul]
end
end Z
set_option Elab.async false
set_option linter.all false
set_option maxRecDepth 100000
set_option maxHeartbeats 4000000
/-! G13: heads with their places, as data. -/
set_option Elab.async false
set_option linter.all false
set_option maxRecDepth 100000
set_option maxHeartbeats 4000000
/-! G14: values of all kinds: how great they are, how they may be bent; what is a tuple of numbers below a bound, a row. -/
namespace Z
open PySem PySem.Spec PyProof.Rows L2
mutual
/-- an upper bound on how many signs show it -/
def wg : D → Nat
  | .none => 5
  | .bool _ => 6
  | .int _ => 15
  | .str x => (PyData.str x).shown.length
  | .list ds => wgs ds + 4
  | .tuple ds => wgs ds + 4
  | .dict kvs => wgk kvs + 4
def wgs : List D → Nat
  | [] => 0
  | d :: ds => wg d + 2 + wgs ds
def wgk : List (D × D) → Nat
  | [] => 0
  | (_, d) :: r => wg d + 2 + wgk r
end
mutual
/-- what never changes, its ints at most m either way -/
def good (m : Nat) : D → Bool
  | .none => true
  | .bool _ => true
  | .int i => decide (i.natAbs ≤ m)
  | .str _ => true
  | .list _ => false
  | .tuple ds => goods m ds
  | .dict kvs => (isFrz kvs && goodk m kvs) || (isFrd kvs && kvs.length == 1)
def goods (m : Nat) : List D → Bool
  | [] => true
  | d :: ds => good m d && goods m ds
def goodk (m : Nat) : List (D × D) → Bool
  | [] => true
  | (_, d) :: r => good m d && goodk m r
end
theorem goods_all {m : Nat} : ∀ {ds : List D}, goods m ds = true ↔ ∀ d ∈ ds, good m d = true
  | [] => by simp [goods]
  | d :: ds => by simp [goods, goods_all]
mutual
theorem good_can {m : Nat} : ∀ d : D, good m d = true → canT d = true
  | .none, _ => by simp [canT]
  | .bool _, _ => by simp [canT]
  | .int _, _ => by simp [canT]
  | .str _, _ => by simp [canT]
  | .list _, h => by simp [good] at h
  | .tuple ds, h => by
    simp only [canT]
    exact goods_can ds (by simpa only [good] using h)
  | .dict kvs, h => by
    simp only [good, Bool.or_eq_true, Bool.and_eq_true] at h
    simp only [canT, Bool.or_eq_true, Bool.and_eq_true]
    exact h.imp (fun z => ⟨z.1, goodk_can kvs z.2⟩) id
theorem goods_can {m : Nat} : ∀ ds : List D, goods m ds = true → canTs ds = true
  | [], _ => by simp [canTs]
  | d :: ds, h => by
    simp only [goods, Bool.and_eq_true] at h
    simp only [canTs, good_can d h.1, goods_can ds h.2, Bool.and_self]
theorem goodk_can {m : Nat} : ∀ ds : List (D × D), goodk m ds = true → canTk ds = true
  | [], _ => by simp [canTk]
  | (_, d) :: ds, h => by
    simp only [goodk, Bool.and_eq_true] at h
    simp only [canTk, good_can d h.1, goodk_can ds h.2, Bool.and_self]
end
mutual
theorem good_solid {m : Nat} : ∀ d : D, good m d = true → solid d = true
  | .none, _ => by simp [solid]
  | .bool _, _ => by simp [solid]
  | .int _, _ => by simp [solid]
  | .str _, _ => by simp [solid]
  | .list _, h => by simp [good] at h
  | .tuple ds, h => by
    simp only [solid]
    exact goods_solid ds (by simpa only [good] using h)
  | .dict kvs, h => by
    simp only [good, Bool.or_eq_true, Bool.and_eq_true] at h
    rcases h with ⟨z, _⟩ | ⟨z, _⟩
    · obtain ⟨r, rfl⟩ := isFrz_cons z
      simp [solid, isSrc, isFrz]
    · obtain ⟨r, rfl⟩ := isFrd_cons z
      simp [solid, isSrc, isFrd]
theorem goods_solid {m : Nat} : ∀ ds : List D, goods m ds = true → solids ds = true
  | [], _ => by simp [solids]
  | d :: ds, h => by
    simp only [goods, Bool.and_eq_true] at h
    simp only [solids, good_solid d h.1, goods_solid ds h.2, Bool.and_self]
end
mutual
theorem good_mono {m m' : Nat} (hm : m ≤ m') : ∀ d : D, good m d = true → good m' d = true
  | .none, _ => by simp [good]
  | .bool _, _ => by simp [good]
  | .int i, h => by
    simp only [good, decide_eq_true_eq] at h ⊢
    omega
  | .str _, _ => by simp [good]
  | .list _, h => by simp [good] at h
  | .tuple ds, h => by
    simp only [good]
    exact goods_mono hm ds (by simpa only [good] using h)
  | .dict kvs, h => by
    simp only [good, Bool.or_eq_true, Bool.and_eq_true] at h ⊢
    exact h.imp (fun z => ⟨z.1, goodk_mono hm kvs z.2⟩) id
theorem goods_mono {m m' : Nat} (hm : m ≤ m') : ∀ ds : List D, goods m ds = true → goods m' ds = true
  | [], _ => by simp [goods]
  | d :: ds, h => by
    simp only [goods, Bool.and_eq_true] at h ⊢
    exact ⟨good_mono hm d h.1, goods_mono hm ds h.2⟩
theorem goodk_mono {m m' : Nat} (hm : m ≤ m') : ∀ ds : List (D × D), goodk m ds = true → goodk m' ds = true
  | [], _ => by simp [goodk]
  | (_, d) :: ds, h => by
    simp only [goodk, Bool.and_eq_true] at h ⊢
    exact ⟨good_mono hm d h.1, goodk_mono hm ds h.2⟩
end
theorem log_small {i : Int} (h : i.natAbs ≤ 100000000000) : i.natAbs.log2 < 1920 := log2_small (Nat.lt_of_le_of_lt h (by decide))
mutual
theorem good_show {m : Nat} (hm : m ≤ 100000000000) : ∀ d : D, good m d = true → (thaw d).showable = true ∧ (thaw d).shown.length ≤ wg d
  | .none, _ => by
    simp only [thaw, wg]
    exact ⟨by decide, by decide⟩
  | .bool b, _ => by
    simp only [thaw, wg]
    cases b <;> exact ⟨by decide, by decide⟩
  | .int i, h => by
    simp only [good, decide_eq_true_eq] at h
    simp only [thaw, wg, PyData.showable, decide_eq_true_eq]
    exact ⟨log_small (Nat.le_trans h hm), Nat.le_trans (PyData.shown_int_le (show i.natAbs < 10 ^ 12 from Nat.lt_of_le_of_lt (Nat.le_trans h hm) (by decide))) (by decide)⟩
  | .str x, _ => by
    simp only [thaw, wg, PyData.showable]
    exact ⟨trivial, Nat.le_refl _⟩
  | .list _, h => by simp [good] at h
  | .tuple ds, h => by
    obtain ⟨h1, h2⟩ := goods_show hm ds (by simpa only [good] using h)
    simp only [thaw, wg, PyData.showable, PyData.shown]
    refine ⟨h1, Nat.le_trans (tupleText_len_le _) ?_⟩
    omega
  | .dict kvs, h => by
    simp only [good, Bool.or_eq_true, Bool.and_eq_true] at h
    rcases h with ⟨z, hk⟩ | ⟨z, hl⟩
    · obtain ⟨r, rfl⟩ := isFrz_cons z
      simp only [goodk, Bool.and_eq_true] at hk
      obtain ⟨h1, h2⟩ := goodk_show hm r hk.2
      have e : thaw (.dict ((.bool true, .none) :: r)) = .list (thawk r) := by simp only [thaw, if_pos z, thawk, List.tail_cons]
      rw [e]
      simp only [wg, wgk, PyData.showable, PyData.shown]
      refine ⟨h1, Nat.le_trans (listText_len_le _) ?_⟩
      omega
    · obtain ⟨r, rfl⟩ := isFrd_cons z
      obtain rfl : r = [] := by simpa using hl
      rw [show thaw (.dict [(.bool false, .none)]) = .dict [] from thaw_frd]
      simp only [wg, wgk]
      exact ⟨by decide, by decide⟩
theorem goods_show {m : Nat} (hm : m ≤ 100000000000) : ∀ ds : List D, goods m ds = true → PyData.showableAll (thaws ds) = true ∧ ((PyData.shownAll (thaws ds)).map (·.length)).sum + 2 * (PyData.shownAll (thaws ds)).length ≤ wgs ds
  | [], _ => by simp [thaws, PyData.showableAll, PyData.shownAll, wgs]
  | d :: ds, h => by
    simp only [goods, Bool.and_eq_true] at h
    obtain ⟨a1, a2⟩ := good_show hm d h.1
    obtain ⟨b1, b2⟩ := goods_show hm ds h.2
    simp only [thaws, PyData.showableAll, PyData.shownAll, wgs, a1, b1, List.map_cons, List.sum_cons, List.length_cons]
    exact ⟨rfl, by omega⟩
theorem goodk_show {m : Nat} (hm : m ≤ 100000000000) : ∀ ds : List (D × D), goodk m ds = true → PyData.showableAll (thawk ds) = true ∧ ((PyData.shownAll (thawk ds)).map (·.length)).sum + 2 * (PyData.shownAll (thawk ds)).length ≤ wgk ds
  | [], _ => by simp [thawk, PyData.showableAll, PyData.shownAll, wgk]
  | (_, d) :: ds, h => by
    simp only [goodk, Bool.and_eq_true] at h
    obtain ⟨a1, a2⟩ := good_show hm d h.1
    obtain ⟨b1, b2⟩ := goodk_show hm ds h.2
    simp only [thawk, PyData.showableAll, PyData.shownAll, wgk, a1, b1, List.map_cons, List.sum_cons, List.length_cons]
    exact ⟨rfl, by omega⟩
end
/-- a value of any kind that never changes: ints at most m either way, at most k deep, shown by at most L signs -/
structure Vl (m k L : Nat) (d : D) : Prop where
  good : good m d = true
  dep : (thaw d).depth ≤ k
  wt : wg d ≤ L
theorem Vl.ok {m k L : Nat} {d : D} (h : Vl m k L d) (hm : m ≤ 100000000000) (hk : k ≤ 40) (hL : L ≤ 10000000) : OkT 40 10000000 d :=
  ⟨good_can _ h.good, Nat.le_trans h.dep hk, (good_show hm _ h.good).1, Nat.le_trans (good_show hm _ h.good).2 (Nat.le_trans h.wt hL)⟩
theorem Vl.solid {m k L : Nat} {d : D} (h : Vl m k L d) : solid d = true := good_solid _ h.good
theorem Vl.mono {m k L m' k' L' : Nat} {d : D} (h : Vl m k L d) (a : m ≤ m') (b : k ≤ k') (c : L ≤ L') : Vl m' k' L' d := ⟨good_mono a _ h.good, Nat.le_trans h.dep b, Nat.le_trans h.wt c⟩
theorem wgs_len : ∀ ds : List D, 2 * ds.length ≤ wgs ds
  | [] => by simp [wgs]
  | d :: ds => by
    have := wgs_len ds
    simp only [wgs, List.length_cons]
    omega
theorem depthAll_le {k : Nat} : ∀ {ds : List D}, PyData.depthAll (thaws ds) ≤ k ↔ ∀ d ∈ ds, (thaw d).depth ≤ k
  | [] => by simp [thaws, PyData.depthAll]
  | d :: ds => by
    simp only [thaws, PyData.depthAll, List.mem_cons, forall_eq_or_imp, Nat.max_le, depthAll_le]
/-- a tuple of such -/
theorem Vl.tuple {m k L : Nat} {ds : List D} (h : ∀ d ∈ ds, ∃ l, Vl m k l d) (w : wgs ds + 4 ≤ L) : Vl m (k + 1) L (.tuple ds) := by
  refine ⟨?_, ?_, ?_⟩
  · simp only [Z.good]
    exact goods_all.mpr fun d hd => let ⟨l, hl⟩ := h d hd; hl.good
  · simp only [thaw, PyData.depth]
    have : PyData.depthAll (thaws ds) ≤ k := depthAll_le.mpr fun d hd => let ⟨l, hl⟩ := h d hd; hl.dep
    omega
  · simp only [wg]
    exact w
theorem Vl.frz {m k L : Nat} {ds : List D} (h : ∀ d ∈ ds, ∃ l, Vl m k l d) (w : wgs ds + 15 ≤ L) : Vl m (k + 1) L (frzD ds) := by
  have gk : ∀ es : List D, (∀ d ∈ es, ∃ l, Vl m k l d) → goodk m (es.map fun d => (.bool true, d)) = true := fun es => by
    induction es with
    | nil => intro _; simp [goodk]
    | cons e es ih =>
      intro h
      simp only [List.map_cons, goodk, Bool.and_eq_true]
      exact ⟨let ⟨l, hl⟩ := h e (List.mem_cons_self ..); hl.good, ih fun d hd => h d (List.mem_cons_of_mem _ hd)⟩
  have wk : ∀ es : List D, wgk (es.map fun d => ((.bool true : D), d)) = wgs es := fun es => by
    induction es with
    | nil => simp [wgk, wgs]
    | cons e es ih => simp only [List.map_cons, wgk, wgs, ih]
  refine ⟨?_, ?_, ?_⟩
  · unfold frzD frzK
    simp only [Z.good, goodk, gk ds h]
    rfl
  · rw [thaw_frz]
    simp only [PyData.depth]
    have : PyData.depthAll (thaws ds) ≤ k := depthAll_le.mpr fun d hd => let ⟨l, hl⟩ := h d hd; hl.dep
    rw [thaws_map] at this
    omega
  · unfold frzD frzK
    simp only [wg, wgk, wk]
    omega
theorem Vl.parts {m k L : Nat} {ds : List D} (h : Vl m k L (.tuple ds)) : 1 ≤ k ∧ wgs ds + 4 ≤ L ∧ ∀ d ∈ ds, Vl m (k - 1) (wg d) d := by
  have h1 := h.good
  have h2 := h.dep
  have h3 := h.wt
  simp only [Z.good] at h1
  simp only [thaw, PyData.depth] at h2
  simp only [wg] at h3
  have h4 := goods_all.mp h1
  have h5 : PyData.depthAll (thaws ds) ≤ k - 1 := by omega
  exact ⟨by omega, h3, fun d hd => ⟨h4 d hd, depthAll_le.mp h5 d hd, Nat.le_refl _⟩⟩
theorem Vl.isi {m k L : Nat} {d : D} (h : Vl m k L d) : noFrz d := by
  cases d with
  | dict kvs =>
    have := h.good
    simp only [Z.good, Bool.or_eq_true, Bool.and_eq_true] at this
    rcases this with ⟨z, _⟩ | ⟨z, hl⟩
    · exact .inl z
    · obtain ⟨r, rfl⟩ := isFrd_cons z
      obtain rfl : r = [] := by simpa using hl
      exact .inr rfl
  | _ => trivial
theorem Vl.none {m k : Nat} : Vl m k 5 .none := ⟨by simp [Z.good], by simp [thaw, PyData.depth], by simp [wg]⟩
theorem Vl.bool {m k : Nat} {b : Bool} : Vl m k 6 (.bool b) := ⟨by simp [Z.good], by simp [thaw, PyData.depth], by simp [wg]⟩
theorem Vl.int {m k : Nat} {i : Int} (h : i.natAbs ≤ m) : Vl m k 15 (.int i) := ⟨by simp [Z.good, h], by simp [thaw, PyData.depth], by simp [wg]⟩
theorem Vl.str {m k : Nat} {x : Str} {L : Nat} (h : (PyData.str x).shown.length ≤ L) : Vl m k L (.str x) := ⟨by simp [Z.good], by simp [thaw, PyData.depth], by simpa [wg] using h⟩
theorem Vl.inner {m k L : Nat} {d : D} (h : Vl m k L d) (hL : L ≤ 10000000) : noFrz d ∧ ∀ xs, d = .tuple xs → xs.length ≤ 10000000 ∧ ∀ x ∈ xs, noFrz x := ⟨h.isi, fun xs e => by
  subst e
  obtain ⟨_, a, b⟩ := h.parts
  have := wgs_len xs
  exact ⟨by omega, fun x hx => (b x hx).isi⟩⟩
/-- a value and what lies in it has a type that is known, and is not too long -/
def inner (d : D) : Prop := noFrz d ∧ ∀ xs, d = .tuple xs → xs.length ≤ 10000000 ∧ ∀ x ∈ xs, noFrz x
/-! ### tuples of numbers below a bound; rows -/
end Z
set_option Elab.async false
set_option linter.all false
set_option maxRecDepth 100000
set_option maxHeartbeats 4000000
/-! G15: told faults; sums of rows with some numbers; what is short. -/
namespace Z
open PySem L2
theorem ok_nats {ns : List Nat} {m : Nat} (h : ∀ n ∈ ns, n ≤ 1000000) (hl : ns.length ≤ m) : Ok 1 (m * 15 + 3) (.tuple (ns.map natD)) := Ok.tuple (k := 0) (w := 13) (fun d hd => by
  obtain ⟨n, hn, rfl⟩ := List.mem_map.mp hd
  exact Ok.int (by have := h n hn; omega)) (by rw [List.length_map]; exact hl)
end Z
set_option Elab.async false
set_option linter.all false
set_option maxHeartbeats 1000000
/-! G16: rows led place by place (stepped), ranks by columns, numbers of lots. Plain Lean. -/
namespace Z
open PySem
section
variable {n m : Nat} {B X : List (List Bool)}
theorem sp_at (h : Len n B) {p : Nat} (z : ∀ b ∈ B, gt b p = false) {v : List Bool} (s : Sp n B v) : gt v p = false := by
  induction s with
  | zero => exact gt_nul n p
  | @add b w hb hw ih => rw [gt_xr (by rw [h b hb, hw.len h]), z b hb, ih]; rfl
/-- rows with places of their own -/
theorem ind_units : ∀ (H : List (Nat × List Bool)), Len n (H.map (·.2)) → H.Pairwise (fun a b => gt b.2 a.1 = false) → (∀ a ∈ H, gt a.2 a.1 = true) → Ind n (H.map (·.2))
  | [], _, _, _ => ind_nil
  | a :: H, l, pw, one => by
    have pw := List.pairwise_cons.mp pw
    have l2 : Len n (H.map (·.2)) := fun b hb => l b (List.mem_cons_of_mem _ hb)
    have ih := ind_units H l2 pw.2 fun b hb => one b (List.mem_cons_of_mem _ hb)
    have hz : ¬ Sp n (H.map (·.2)) a.2 := fun s => by
      have := sp_at (p := a.1) l2 (fun b hb => by obtain ⟨c, hc, rfl⟩ := List.mem_map.mp hb; exact pw.1 c hc) s
      rw [one a (List.mem_cons_self ..)] at this
      cases this
    refine ind_perm (B := H.map (·.2) ++ [a.2]) ?_ (ind_snoc l2 (l _ (List.mem_cons_self ..)) ih hz)
    rw [List.map_cons]
    exact (List.perm_append_singleton _ _).symm
theorem sp_perm {P Q : List (List Bool)} (p : P.Perm Q) {v : List Bool} : Sp n P v ↔ Sp n Q v := ⟨fun s => s.mono fun b hb => p.mem_iff.mp hb, fun s => s.mono fun b hb => p.mem_iff.mpr hb⟩
theorem sp_clear {p : Nat} {r : List Bool} (hr : r.length = n) (hX : Len n X) {v : List Bool} : Sp n (r :: X.map (clr p r)) v ↔ Sp n (r :: X) v := by
  have l1 : Len n (r :: X) := fun b hb => by
    rcases List.mem_cons.mp hb with rfl | hb
    · exact hr
    · exact hX b hb
  have l2 : Len n (r :: X.map (clr p r)) := fun b hb => by
    rcases List.mem_cons.mp hb with rfl | hb
    · exact hr
    · obtain ⟨c, hc, rfl⟩ := List.mem_map.mp hb
      exact clr_len hr (hX c hc)
  have h1 : Sp n (r :: X) r := Sp.mem l1 (List.mem_cons_self ..)
  have h2 : Sp n (r :: X.map (clr p r)) r := Sp.mem l2 (List.mem_cons_self ..)
  constructor
  · refine fun s => s.sub l1 fun b hb => ?_
    rcases List.mem_cons.mp hb with rfl | hb
    · exact h1
    · obtain ⟨c, hc, rfl⟩ := List.mem_map.mp hb
      exact clr_sp l1 h1 (Sp.mem l1 (List.mem_cons_of_mem _ hc))
  · refine fun s => s.sub l2 fun b hb => ?_
    rcases List.mem_cons.mp hb with rfl | hb
    · exact h2
    · exact sp_clr l2 hr (hX b hb) h2 (Sp.mem l2 (List.mem_cons_of_mem _ (List.mem_map.mpr ⟨b, hb, rfl⟩)))
/-- one place -/
def stepHL (st : List (Nat × List Bool) × List (List Bool)) (p : Nat) : List (Nat × List Bool) × List (List Bool) :=
  match st.2.zipIdx.filter fun q => gt q.1 p with
  | [] => st
  | q :: _ => ((st.1.map fun a => (a.1, clr p q.1 a.2)) ++ [(p, q.1)], (st.2.eraseIdx q.2).map (clr p q.1))
structure HL (n : Nat) (B : List (List Bool)) (Q : List Nat) (H : List (Nat × List Bool)) (L : List (List Bool)) : Prop where
  lenH : Len n (H.map (·.2))
  lenL : Len n L
  sp : ∀ v, Sp n (H.map (·.2) ++ L) v ↔ Sp n B v
  zer : ∀ q ∈ Q, ∀ r ∈ L, gt r q = false
  one : ∀ a ∈ H, a.1 ∈ Q ∧ gt a.2 a.1 = true
  apart : H.Pairwise fun a b => gt a.2 b.1 = false ∧ gt b.2 a.1 = false
  many : H.length + L.length = B.length
  up : (H.map (·.1)).Sublist Q
theorem HL.start (hB : Len n B) : HL n B [] [] B := ⟨fun b hb => (by cases hb), hB, fun v => Iff.rfl, fun q hq => (by cases hq), fun a ha => (by cases ha), .nil, by simp, by simp⟩
theorem zipIdx_get {α : Type} {L : List α} {q : α × Nat} (h : q ∈ L.zipIdx) : ∃ hq : q.2 < L.length, L[q.2] = q.1 := by
  obtain ⟨x, j⟩ := q
  have := List.mem_zipIdx h
  refine ⟨by omega, ?_⟩
  have := this.2.2
  simp only [Nat.sub_zero] at this
  exact this.symm
theorem perm_at {α : Type} : ∀ (L : List α) (j : Nat) (h : j < L.length), L.Perm (L[j] :: L.eraseIdx j)
  | a :: L, 0, _ => List.Perm.refl _
  | a :: L, j + 1, h => by
    have ih := perm_at L j (by simpa using h)
    exact (ih.cons a).trans (List.Perm.swap ..)
theorem HL.step {Q : List Nat} {H : List (Nat × List Bool)} {L : List (List Bool)} (h : HL n B Q H L) (p : Nat) : HL n B (Q ++ [p]) (stepHL (H, L) p).1 (stepHL (H, L) p).2 := by
  unfold stepHL
  simp only
  cases e : L.zipIdx.filter fun q => gt q.1 p with
  | nil =>
    refine ⟨h.lenH, h.lenL, h.sp, fun q hq r hr => ?_, fun a ha => ⟨List.mem_append_left _ (h.one a ha).1, (h.one a ha).2⟩, h.apart, h.many, h.up.trans (List.sublist_append_left ..)⟩
    rcases List.mem_append.mp hq with hq | hq
    · exact h.zer q hq r hr
    · rw [List.mem_singleton.mp hq]
      obtain ⟨j, hj, rfl⟩ := List.mem_iff_getElem.mp hr
      have := List.filter_eq_nil_iff.mp e (L[j], j) (List.mem_zipIdx_iff_getElem?.mpr (List.getElem?_eq_getElem hj))
      simpa using this
  | cons q more =>
    have hm : q ∈ L.zipIdx.filter fun q => gt q.1 p := by rw [e]; exact List.mem_cons_self ..
    obtain ⟨hz, hg⟩ := List.mem_filter.mp hm
    obtain ⟨hj, ej⟩ := zipIdx_get hz
    obtain ⟨r, j⟩ := q
    simp only at hz hg hj ej ⊢
    have hr : r ∈ L := by rw [← ej]; exact List.getElem_mem hj
    have lr := h.lenL r hr
    have pe : L.Perm (r :: L.eraseIdx j) := by have := perm_at L j hj; rw [ej] at this; exact this
    have le : Len n (L.eraseIdx j) := fun b hb => h.lenL b (List.mem_of_mem_eraseIdx hb)
    have lH : ∀ a ∈ H, a.2.length = n := fun a ha => h.lenH _ (List.mem_map.mpr ⟨a, ha, rfl⟩)
    have er : ∀ a ∈ H, gt (clr p r a.2) a.1 = gt a.2 a.1 := fun a ha => clr_other lr (lH a ha) (h.zer _ (h.one a ha).1 r hr)
    refine ⟨fun b hb => ?_, fun b hb => ?_, fun v => ?_, fun q hq b hb => ?_, fun a ha => ?_, ?_, ?_, ?_⟩
    · rw [List.map_append, List.map_map] at hb
      rcases List.mem_append.mp hb with hb | hb
      · obtain ⟨a, ha, rfl⟩ := List.mem_map.mp hb
        exact clr_len lr (lH a ha)
      · simp only [List.map_cons, List.map_nil, List.mem_singleton] at hb
        rw [hb]
        exact lr
    · obtain ⟨c, hc, rfl⟩ := List.mem_map.mp hb
      exact clr_len lr (le c hc)
    · rw [← h.sp v]
      have lX : Len n (H.map (·.2) ++ L.eraseIdx j) := len_app h.lenH le
      have p1 : (H.map (·.2) ++ L).Perm (r :: (H.map (·.2) ++ L.eraseIdx j)) := (List.Perm.append_left _ pe).trans List.perm_middle
      have p2 : (((H.map fun a => (a.1, clr p r a.2)) ++ [(p, r)]).map (·.2) ++ (L.eraseIdx j).map (clr p r)).Perm (r :: (H.map (·.2) ++ L.eraseIdx j).map (clr p r)) := by
        have e : ((H.map fun a => (a.1, clr p r a.2)) ++ [(p, r)]).map (·.2) ++ (L.eraseIdx j).map (clr p r) = (H.map (·.2)).map (clr p r) ++ r :: (L.eraseIdx j).map (clr p r) := by
          simp [List.map_map, Function.comp_def]
        rw [e, List.map_append]
        exact List.perm_middle
      rw [sp_perm p2, sp_clear lr lX, sp_perm p1]
    · obtain ⟨c, hc, rfl⟩ := List.mem_map.mp hb
      have hcL := List.mem_of_mem_eraseIdx hc
      rcases List.mem_append.mp hq with hq | hq
      · rw [clr_other lr (h.lenL c hcL) (h.zer q hq r hr)]
        exact h.zer q hq c hcL
      · rw [List.mem_singleton.mp hq]
        exact clr_at lr (h.lenL c hcL) hg
    · rcases List.mem_append.mp ha with ha | ha
      · obtain ⟨b, hb, rfl⟩ := List.mem_map.mp ha
        exact ⟨List.mem_append_left _ (h.one b hb).1, by rw [er b hb]; exact (h.one b hb).2⟩
      · rw [List.mem_singleton.mp ha]
        exact ⟨List.mem_append_right _ (List.mem_singleton.mpr rfl), hg⟩
    · refine List.pairwise_append.mpr ⟨List.pairwise_map.mpr (h.apart.imp_of_mem fun {a b} ha hb z => ?_), List.pairwise_singleton _ _, fun a ha b hb => ?_⟩
      · simp only
        rw [clr_other lr (lH a ha) (h.zer _ (h.one b hb).1 r hr), clr_other lr (lH b hb) (h.zer _ (h.one a ha).1 r hr)]
        exact z
      · rw [List.mem_singleton.mp hb]
        obtain ⟨c, hc, rfl⟩ := List.mem_map.mp ha
        exact ⟨clr_at lr (lH c hc) hg, h.zer _ (h.one c hc).1 r hr⟩
    · have := h.many
      have := pe.length_eq
      simp only [List.length_append, List.length_map, List.length_cons, List.length_nil] at *
      omega
    · rw [List.map_append, List.map_map]
      exact h.up.append (List.Sublist.refl _)
/-- as many heads as the rank -/
theorem HL.rank {Q : List Nat} {H : List (Nat × List Bool)} {L : List (List Bool)} (h : HL n B Q H L) (hB : Len n B) (hQ : ∀ q ∈ Q, q < n) : H.length = rkP B Q := by
  have lA := len_app h.lenH h.lenL
  rw [← rkP_congr lA hB h.sp, ← rkP_mask lA hQ]
  have one : ∀ a ∈ H, gt (maskP n Q a.2) a.1 = true := fun a ha => by
    rw [gt_maskP (hQ _ (h.one a ha).1), (h.one a ha).2]
    simpa using (h.one a ha).1
  have lM : Len n ((H.map fun a => (a.1, maskP n Q a.2)).map (·.2)) := fun b hb => by
    rw [List.map_map] at hb
    obtain ⟨c, hc, rfl⟩ := List.mem_map.mp hb
    exact maskP_len ..
  have i := ind_units (n := n) (H.map fun a => (a.1, maskP n Q a.2)) lM (List.pairwise_map.mpr (h.apart.imp_of_mem fun {a b} ha hb z => by
    simp only
    rw [gt_maskP (hQ _ (h.one a ha).1), z.2, Bool.false_and])) fun b hb => by
      obtain ⟨a, ha, rfl⟩ := List.mem_map.mp hb
      exact one a ha
  have e := rk_ind ((lin_mask n Q).lens lA) lM i fun v => by
    have e1 : ((H.map fun a => (a.1, maskP n Q a.2)).map (·.2)) = (H.map (·.2)).map (maskP n Q) := by simp [List.map_map, Function.comp_def]
    rw [List.map_append, e1]
    refine ⟨sp_left, fun s => s.sub (by rw [← e1]; exact lM) fun b hb => ?_⟩
    rcases List.mem_append.mp hb with hb | hb
    · exact Sp.mem (by rw [← e1]; exact lM) hb
    · obtain ⟨c, hc, rfl⟩ := List.mem_map.mp hb
      have : maskP n Q c = nul n := (mask_nul hQ).mpr fun q hq => h.zer q hq c hc
      rw [this]
      exact .zero
  rw [List.length_map, List.length_map] at e
  exact e
/-- columns -/
def colB (B : List (List Bool)) (p : Nat) : List Bool := B.map fun b => gt b p
theorem colB_len (B : List (List Bool)) (p : Nat) : (colB B p).length = B.length := List.length_map ..
theorem gt_colB {i : Nat} (h : i < B.length) (p : Nat) : gt (colB B p) i = gt B[i] p := by
  unfold colB
  conv => lhs; unfold gt
  rw [List.getD_eq_getElem?_getD, List.getElem?_map, List.getElem?_eq_getElem h]
  rfl
theorem gt_colB_out {i : Nat} (h : B.length ≤ i) (p : Nat) : gt (colB B p) i = false := gt_out (by rw [colB_len]; exact h)
def trB (k : Nat) (M : List (List Bool)) : List (List Bool) := (List.range k).map (colB M)
theorem trB_len (k : Nat) (M : List (List Bool)) : Len M.length (trB k M) := fun b hb => by
  obtain ⟨p, hp, rfl⟩ := List.mem_map.mp hb
  exact colB_len M p
theorem trB_trB {k : Nat} {M : List (List Bool)} (h : Len k M) : trB M.length (trB k M) = M := by
  refine List.ext_getElem (by simp [trB]) fun i h1 h2 => ?_
  have e : (trB M.length (trB k M))[i] = colB (trB k M) i := by simp [trB]
  rw [e]
  have lk : (trB k M).length = k := by simp [trB]
  refine row_ext (by rw [colB_len, lk, h _ (List.getElem_mem h2)]) fun p => ?_
  by_cases hp : p < k
  · rw [gt_colB (by rw [lk]; exact hp)]
    have : (trB k M)[p]'(by rw [lk]; exact hp) = colB M p := by simp [trB]
    rw [this, gt_colB h2]
  · rw [gt_colB_out (by rw [lk]; omega), gt_out (by rw [h _ (List.getElem_mem h2)]; omega)]
theorem trB_le {k : Nat} {M : List (List Bool)} (h : Len k M) : rkN (trB k M) ≤ rkN M := by
  obtain ⟨S, hS, _⟩ := rref_ex h
  rw [← rk_eq h hS]
  have lG : Len M.length (S.map fun s => colB M (lead s)) := fun b hb => by
    obtain ⟨s, hs, rfl⟩ := List.mem_map.mp hb
    exact colB_len M _
  -- each column is a sum of lead columns
  have col : ∀ p, Sp M.length (S.map fun s => colB M (lead s)) (colB M p) := fun p => by
    have go : ∀ T : List (List Bool), (∀ t ∈ T, t ∈ S) → ∃ v, Sp M.length (S.map fun s => colB M (lead s)) v ∧ ∀ (i : Nat) (hi : i < M.length), gt v i = par (fun s => gt M[i] (lead s)) T p := fun T => by
      induction T with
      | nil => exact fun _ => ⟨nul M.length, .zero, fun i hi => by rw [gt_nul]; rfl⟩
      | cons t T ih =>
        intro hT
        obtain ⟨v, sv, ev⟩ := ih fun s hs => hT s (List.mem_cons_of_mem _ hs)
        cases g : gt t p with
        | false =>
          refine ⟨v, sv, fun i hi => ?_⟩
          unfold par
          rw [g, ev i hi]
          simp
        | true =>
          refine ⟨xr (colB M (lead t)) v, .add (List.mem_map.mpr ⟨t, hT t (List.mem_cons_self ..), rfl⟩) sv, fun i hi => ?_⟩
          unfold par
          rw [gt_xr (by rw [colB_len, sv.len lG]), g, ev i hi, gt_colB hi]
          simp
    obtain ⟨v, sv, ev⟩ := go S fun _ z => z
    have : colB M p = v := row_ext (by rw [colB_len, sv.len lG]) fun i => by
      by_cases hi : i < M.length
      · rw [ev i hi, gt_colB hi]
        have hc := hS.red.cmb ((hS.span _).mpr (Sp.mem h (List.getElem_mem hi)))
        conv => lhs; rw [hc]
        exact gt_cmb hS.red.len _ p
      · rw [gt_colB_out (by omega), gt_out (by rw [sv.len lG]; omega)]
    rw [this]
    exact sv
  obtain ⟨T, hT, _⟩ := rref_ex (trB_len k M)
  rw [← rk_eq (trB_len k M) hT]
  have := sub_len hT.red.len (ind_rref hT) lG fun v s => by
    refine ((hT.span v).mp s).sub lG fun b hb => ?_
    obtain ⟨p, _, rfl⟩ := List.mem_map.mp hb
    exact col p
  rw [List.length_map] at this
  exact this
theorem rk_trB {k : Nat} {M : List (List Bool)} (h : Len k M) : rkN (trB k M) = rkN M := by
  refine Nat.le_antisymm (trB_le h) ?_
  have := trB_le (trB_len k M)
  rw [trB_trB h] at this
  exact this
theorem rkP_cols (hB : Len n B) (P : List Nat) : rkN (P.map (colB B)) = rkP B P := by
  unfold rkP
  rw [← rk_trB ((lin_atP n P).lens hB)]
  congr 1
  refine List.ext_getElem (by simp [trB]) fun i h1 h2 => ?_
  have hi : i < P.length := by simpa using h1
  simp only [trB, colB, List.getElem_map, List.getElem_range, List.map_map]
  refine List.map_congr_left fun b hb => ?_
  rw [Function.comp, gt_atP hi]
end
end Z
set_option Elab.async false
set_option linter.all false
set_option maxHeartbeats 1000000
/-! G17: columns taken one by one; lots of places by numbers. Plain Lean. -/
namespace Z
open PySem
section
variable {n m : Nat} {B X : List (List Bool)}
def redT (H : List (Nat × List Bool)) (v : List Bool) : List Bool := H.foldl (fun l a => clr a.1 a.2 l) v
def addT (H : List (Nat × List Bool)) (v : List Bool) : List (Nat × List Bool) := match idxs (redT H v) with
  | [] => H
  | k :: _ => H ++ [(k, redT H v)]
structure TT (m : Nat) (X : List (List Bool)) (H : List (Nat × List Bool)) : Prop where
  len : Len m (H.map (·.2))
  one : ∀ a ∈ H, gt a.2 a.1 = true
  low : H.Pairwise fun a b => gt b.2 a.1 = false
  sp : ∀ v, Sp m (H.map (·.2)) v ↔ Sp m X v
  lt : ∀ a ∈ H, a.1 < m
theorem TT.nil : TT m [] [] := ⟨fun b hb => (by cases hb), fun a ha => (by cases ha), .nil, fun v => Iff.rfl, fun a ha => (by cases ha)⟩
theorem redT_ok : ∀ (H : List (Nat × List Bool)), Len m (H.map (·.2)) → (∀ a ∈ H, gt a.2 a.1 = true) → H.Pairwise (fun a b => gt b.2 a.1 = false) → ∀ v : List Bool, v.length = m →
    (redT H v).length = m ∧ (∀ a ∈ H, gt (redT H v) a.1 = false) ∧ (∀ p, (∀ a ∈ H, gt a.2 p = false) → gt (redT H v) p = gt v p) ∧ (∀ C, Len m C → (∀ a ∈ H, Sp m C a.2) → (Sp m C (redT H v) ↔ Sp m C v))
  | [], _, _, _, v, lv => ⟨lv, fun a ha => (by cases ha), fun p _ => rfl, fun C _ _ => Iff.rfl⟩
  | a :: H, l, one, low, v, lv => by
    have low := List.pairwise_cons.mp low
    have la : a.2.length = m := l _ (List.mem_cons_self ..)
    obtain ⟨h1, h2, h3, h4⟩ := redT_ok H (fun b hb => l b (List.mem_cons_of_mem _ hb)) (fun b hb => one b (List.mem_cons_of_mem _ hb)) low.2 (clr a.1 a.2 v) (clr_len la lv)
    refine ⟨h1, fun b hb => ?_, fun p hp => ?_, fun C lC hC => ?_⟩
    · rcases List.mem_cons.mp hb with rfl | hb
      · show gt (redT H (clr b.1 b.2 v)) b.1 = false
        rw [h3 b.1 low.1, clr_at la lv (one _ (List.mem_cons_self ..))]
      · exact h2 b hb
    · show gt (redT H (clr a.1 a.2 v)) p = gt v p
      rw [h3 p fun b hb => hp b (List.mem_cons_of_mem _ hb), clr_other la lv (hp a (List.mem_cons_self ..))]
    · have ha := hC a (List.mem_cons_self ..)
      refine (h4 C lC fun b hb => hC b (List.mem_cons_of_mem _ hb)).trans ⟨fun s => sp_clr lC la lv ha s, fun s => clr_sp lC ha s⟩
theorem TT.add {H : List (Nat × List Bool)} (h : TT m X H) (hX : Len m X) {v : List Bool} (hv : v.length = m) : TT m (X ++ [v]) (addT H v) := by
  obtain ⟨h1, h2, h3, h4⟩ := redT_ok H h.len h.one h.low v hv
  have lXv : Len m (X ++ [v]) := len_app hX fun b hb => by rw [List.mem_singleton.mp hb]; exact hv
  have inX : ∀ a ∈ H, Sp m (X ++ [v]) a.2 := fun a ha => sp_left ((h.sp _).mp (Sp.mem h.len (List.mem_map.mpr ⟨a, ha, rfl⟩)))
  have sv : Sp m (X ++ [v]) (redT H v) := (h4 _ lXv inX).mpr (Sp.mem lXv (by simp))
  unfold addT
  cases e : idxs (redT H v) with
  | nil =>
    have z : redT H v = nul m := row_ext (by rw [h1, nul_len]) fun p => by
      rw [gt_nul]
      cases g : gt (redT H v) p with
      | false => rfl
      | true => have := mem_idxs.mpr g; rw [e] at this; cases this
    have sH : Sp m (H.map (·.2)) v := (h4 _ h.len fun a ha => Sp.mem h.len (List.mem_map.mpr ⟨a, ha, rfl⟩)).mp (by rw [z]; exact .zero)
    refine ⟨h.len, h.one, h.low, fun w => (h.sp w).trans ⟨sp_left, fun s => s.sub hX fun b hb => ?_⟩, h.lt⟩
    rcases List.mem_append.mp hb with hb | hb
    · exact Sp.mem hX hb
    · rw [List.mem_singleton.mp hb]
      exact (h.sp v).mp sH
  | cons k more =>
    have g : gt (redT H v) k = true := mem_idxs.mp (by rw [e]; exact List.mem_cons_self ..)
    have lA : Len m ((H ++ [(k, redT H v)]).map (·.2)) := fun b hb => by
      rw [List.map_append] at hb
      rcases List.mem_append.mp hb with hb | hb
      · exact h.len b hb
      · simp only [List.map_cons, List.map_nil, List.mem_singleton] at hb
        rw [hb]
        exact h1
    refine ⟨lA, fun a ha => ?_, List.pairwise_append.mpr ⟨h.low, List.pairwise_singleton _ _, fun a ha b hb => ?_⟩, fun w => ⟨fun s => s.sub lXv fun b hb => ?_, fun s => s.sub lA fun b hb => ?_⟩, fun a ha => ?_⟩
    · rcases List.mem_append.mp ha with ha | ha
      · exact h.one a ha
      · rw [List.mem_singleton.mp ha]
        exact g
    · rw [List.mem_singleton.mp hb]
      exact h2 a ha
    · rw [List.map_append] at hb
      rcases List.mem_append.mp hb with hb | hb
      · obtain ⟨a, ha, rfl⟩ := List.mem_map.mp hb
        exact inX a ha
      · simp only [List.map_cons, List.map_nil, List.mem_singleton] at hb
        rw [hb]
        exact sv
    · have inA : ∀ a ∈ H, Sp m ((H ++ [(k, redT H v)]).map (·.2)) a.2 := fun a ha => Sp.mem lA (List.mem_map.mpr ⟨a, List.mem_append_left _ ha, rfl⟩)
      rcases List.mem_append.mp hb with hb | hb
      · refine ((h.sp b).mpr (Sp.mem hX hb)).sub lA fun c hc => ?_
        obtain ⟨a, ha, rfl⟩ := List.mem_map.mp hc
        exact inA a ha
      · rw [List.mem_singleton.mp hb]
        exact (h4 _ lA inA).mp (Sp.mem lA (by simp))
    · rcases List.mem_append.mp ha with ha | ha
      · exact h.lt a ha
      · rw [List.mem_singleton.mp ha]
        have := idxs_lt (mem_idxs.mpr g)
        rw [h1] at this
        exact this
theorem TT.rank {H : List (Nat × List Bool)} (h : TT m X H) (hX : Len m X) : H.length = rkN X := by
  have := rk_ind hX h.len (ind_units H h.len h.low h.one) h.sp
  rw [List.length_map] at this
  exact this
/-- lots by numbers -/
def ptsN (n x : Nat) : List Nat := (List.range n).filter fun p => Nat.testBit x p
theorem mem_pts {n x p : Nat} : p ∈ ptsN n x ↔ p < n ∧ Nat.testBit x p = true := by
  unfold ptsN
  rw [List.mem_filter, List.mem_range]
theorem pts_lt {n x : Nat} : ∀ p ∈ ptsN n x, p < n := fun p h => (mem_pts.mp h).1
theorem pts_asc (n x : Nat) : (ptsN n x).Pairwise (· < ·) := List.Pairwise.sublist List.filter_sublist List.pairwise_lt_range
theorem pts_nodup (n x : Nat) : (ptsN n x).Nodup := (pts_asc n x).imp fun h => by omega
theorem pts_len (n x : Nat) : (ptsN n x).length ≤ n := by
  have := List.length_filter_le (fun p => Nat.testBit x p) (List.range n)
  rw [List.length_range] at this
  exact this
theorem pts_zero (n : Nat) : ptsN n 0 = [] := by
  unfold ptsN
  simp
theorem pts_same {n x : Nat} {L : List Nat} (asc : L.Pairwise (· < ·)) (h : ∀ q, q ∈ L ↔ q < n ∧ Nat.testBit x q = true) : ptsN n x = L := up_same (pts_asc n x) asc fun q => by rw [mem_pts, h]
theorem tb_div (x p : Nat) : Nat.testBit x p = (x / 2 ^ p % 2 == 1) := by
  rw [Nat.testBit_eq_decide_div_mod_eq]
  rfl
/-- the greatest place is taken off -/
theorem pts_top {n x : Nat} (h1 : 0 < x) (h2 : x < 2 ^ n) : ∃ p Q, ptsN n x = Q ++ [p] ∧ p < n ∧ 2 ^ p ≤ x ∧ x - 2 ^ p < x ∧ ptsN n (x - 2 ^ p) = Q := by
  have ne : ptsN n x ≠ [] := fun e => by
    have : x = 0 := Nat.eq_of_testBit_eq fun p => by
      rw [Nat.zero_testBit]
      by_cases hp : p < n
      · cases g : Nat.testBit x p with
        | false => rfl
        | true => have := mem_pts.mpr ⟨hp, g⟩; rw [e] at this; cases this
      · exact Nat.testBit_lt_two_pow (Nat.lt_of_lt_of_le h2 (Nat.pow_le_pow_right (by decide) (by omega)))
    omega
  have e := List.dropLast_concat_getLast ne
  generalize (ptsN n x).getLast ne = p at e
  generalize (ptsN n x).dropLast = Q at e
  have hp : p ∈ ptsN n x := by rw [← e]; simp
  obtain ⟨hpn, hb⟩ := mem_pts.mp hp
  have ge := Nat.ge_two_pow_of_testBit hb
  have asc := pts_asc n x
  rw [← e] at asc
  have asc := List.pairwise_append.mp asc
  have top : ∀ q, Nat.testBit x q = true → q ≤ p := fun q hq => by
    have hqn : q < n := Classical.byContradiction fun z => by
      rw [Nat.testBit_lt_two_pow (Nat.lt_of_lt_of_le h2 (Nat.pow_le_pow_right (by decide) (by omega)))] at hq
      cases hq
    have := mem_pts.mpr ⟨hqn, hq⟩
    rw [← e] at this
    rcases List.mem_append.mp this with h | h
    · exact Nat.le_of_lt (asc.2.2 q h p (List.mem_singleton.mpr rfl))
    · rw [List.mem_singleton.mp h]
      exact Nat.le_refl _
  have lt : x < 2 ^ (p + 1) := Nat.lt_pow_two_of_testBit x fun i hi => by
    cases g : Nat.testBit x i with
    | false => rfl
    | true => have := top i g; omega
  have pos : 0 < 2 ^ p := Nat.pos_of_ne_zero (by simp)
  refine ⟨p, Q, e.symm, hpn, ge, by omega, pts_same asc.1 fun q => ?_⟩
  obtain ⟨y, rfl⟩ : ∃ y, x = 2 ^ p + y := ⟨x - 2 ^ p, by omega⟩
  have ly : y < 2 ^ p := by rw [Nat.pow_succ] at lt; omega
  have ey : 2 ^ p + y - 2 ^ p = y := by omega
  rw [ey]
  have inQ : q ∈ Q ↔ q < p ∧ q ∈ ptsN n (2 ^ p + y) := by
    rw [← e, List.mem_append, List.mem_singleton]
    exact ⟨fun h => ⟨asc.2.2 q h p (List.mem_singleton.mpr rfl), .inl h⟩, fun h => h.2.resolve_right (by omega)⟩
  rw [inQ, mem_pts]
  by_cases c : q < p
  · rw [Nat.testBit_two_pow_add_gt c]
    exact ⟨fun h => h.2, fun h => ⟨c, h⟩⟩
  · have : Nat.testBit y q = false := Nat.testBit_lt_two_pow (Nat.lt_of_lt_of_le ly (Nat.pow_le_pow_right (by decide) (by omega)))
    rw [this]
    exact ⟨fun h => absurd h.1 c, fun h => by cases h.2⟩
end
end Z
set_option Elab.async false
set_option linter.all false
set_option maxHeartbeats 1000000
/-! G18: steps as data. -/
namespace Z
open PySem PySem.Spec PyProof.Rows L2
theorem bit_and (x p : Nat) : (Builtin.bitAnd ((x : Int) / 2 ^ p) 1 != 0) = Nat.testBit x p := by
  have e3 : (x : Int) / 2 ^ p = ((x / 2 ^ p : Nat) : Int) := by norm_cast
  rw [e3, bitAnd_pp (Int.natCast_nonneg _) (by decide), tb_div]
  have e4 : ((((x / 2 ^ p : Nat) : Int).toNat &&& (1 : Int).toNat : Nat)) = x / 2 ^ p % 2 := Nat.and_one_is_mod _
  rw [e4]
  rcases Nat.mod_two_eq_zero_or_one (x / 2 ^ p) with z | z <;> rw [z] <;> rfl
end Z
set_option Elab.async false
set_option linter.all false
set_option maxHeartbeats 1000000
/-! G19: lists of numbers compared; tables of ranks. -/
namespace Z
open PySem PySem.Spec PyProof.Rows L2
theorem eqvAll_nats (L M : List Nat) : PyData.eqvAll (L.map natD) (M.map natD) = decide (L = M) := by
  have e : ∀ L : List Nat, L.map natD = (L.map fun n => ((n : Nat) : Int)).map PyData.int := fun L => by rw [List.map_map]; rfl
  rw [e L, e M, eqvAll_ints]
  by_cases h : L = M
  · rw [h]; simp
  · have : ¬ (L.map fun n => ((n : Nat) : Int)) = M.map fun n => ((n : Nat) : Int) := fun z => h (List.map_inj_right (fun a b => by omega) |>.mp z)
    rw [decide_eq_false this, decide_eq_false h]
theorem fEq_natsT {neg : Bool} {L M : List Nat} {R : D → Prop} (h : R (.bool (if neg then !decide (L = M) else decide (L = M)))) : fEq neg (.tuple (L.map natD)) (.tuple (M.map natD)) R := by
  refine ⟨?_, ?_, ?_, ?_⟩
  · simp only [PyData.plain]; exact plain_nats L
  · simp only [PyData.plain]; exact plain_nats M
  · simp only [PyData.depth, depth_nats]; omega
  · have e : PyData.eqv (.tuple (L.map natD)) (.tuple (M.map natD)) = decide (L = M) := by
      simp only [PyData.eqv]
      exact eqvAll_nats L M
    rw [e]
    exact h
end Z
set_option Elab.async false
set_option linter.all false
set_option maxHeartbeats 1000000
/-! G20: rows below a row, sums over them there and back; rows told by ranks. Plain Lean. -/
set_option Elab.async false
set_option linter.all false
set_option maxHeartbeats 1000000
/-! G21: rows told by ranks. Plain Lean. -/
set_option Elab.async false
set_option linter.all false
set_option maxRecDepth 100000
set_option maxHeartbeats 4000000
/-! Z31: three cells at once. -/
set_option Elab.async false
set_option linter.all false
set_option maxRecDepth 100000
set_option maxHeartbeats 4000000
/-! Z32: xs += ys (an own list grows by a new one). -/
namespace Z
open PySem PySem.Spec PyProof.Rows L2
section
variable {K : PySem.W.Frag} {S : Option (Addr × Addr)}
def sAugL (i : Nat) (m : DM) : DMS := fun ρ R => ownL ρ[i]? fun ds => m ρ fun y => asL y fun es => solids es = true ∧ ds.length + es.length ≤ 10000000 ∧ R.nx (ρ.set i (.own (.list (ds ++ es))))
/-- tuple(list), of either kind -/
def fTupleF : List D → (D → Prop) → Prop := fun ds R => match ds with
  | [d] => ∃ es, IsL d es ∧ solids es = true ∧ R (.tuple es)
  | _ => False
end
end Z
set_option Elab.async false
set_option linter.all false
set_option maxHeartbeats 1000000
/-! G22: what places tell a place. Plain Lean. -/
set_option Elab.async false
set_option linter.all false
set_option maxRecDepth 100000
set_option maxHeartbeats 4000000
/-! Z33: xs == [], xs != [] for lists of any data. -/
namespace Z
open PySem PySem.Spec PyProof.Rows L2
section
variable {K : PySem.W.Frag} {S : Option (Addr × Addr)}
def fEqLE (neg : Bool) : D → D → (D → Prop) → Prop := fun x y R => ∃ xs, IsL x xs ∧ y = .list [] ∧ R (.bool (if neg then !xs.isEmpty else xs.isEmpty))
end
end Z
set_option Elab.async false
set_option linter.all false
set_option maxHeartbeats 1000000
/-! G23: the first fault of anything as what tells a place. Plain Lean. -/
set_option Elab.async false
set_option linter.all false
set_option maxRecDepth 100000
set_option maxHeartbeats 4000000
/-! G24: values of all kinds, the ints wide (printed by mkG24.py from G14). -/
namespace Z
namespace Wd
open PySem PySem.Spec PyProof.Rows L2
theorem shown_int32 {i : Int} (h : i.natAbs < 10 ^ 32) : (PyData.shown (.int i)).length ≤ 33 := by
  have e := int_text_length_le10 (k := 32) (by decide) h
  show (Str.ofString (toString i)).length ≤ 33
  rw [PySem.ofString_length]; exact e
mutual
/-- an upper bound on how many signs show it -/
def wg : D → Nat
  | .none => 5
  | .bool _ => 6
  | .int _ => 36
  | .str x => (PyData.str x).shown.length
  | .list ds => wgs ds + 4
  | .tuple ds => wgs ds + 4
  | .dict kvs => wgk kvs + 4
def wgs : List D → Nat
  | [] => 0
  | d :: ds => wg d + 2 + wgs ds
def wgk : List (D × D) → Nat
  | [] => 0
  | (_, d) :: r => wg d + 2 + wgk r
end
mutual
/-- what never changes, its ints at most m either way -/
def good (m : Nat) : D → Bool
  | .none => true
  | .bool _ => true
  | .int i => decide (i.natAbs ≤ m)
  | .str _ => true
  | .list _ => false
  | .tuple ds => goods m ds
  | .dict kvs => (isFrz kvs && goodk m kvs) || (isFrd kvs && kvs.length == 1)
def goods (m : Nat) : List D → Bool
  | [] => true
  | d :: ds => good m d && goods m ds
def goodk (m : Nat) : List (D × D) → Bool
  | [] => true
  | (_, d) :: r => good m d && goodk m r
end
theorem goods_all {m : Nat} : ∀ {ds : List D}, goods m ds = true ↔ ∀ d ∈ ds, good m d = true
  | [] => by simp [goods]
  | d :: ds => by simp [goods, goods_all]
mutual
theorem good_can {m : Nat} : ∀ d : D, good m d = true → canT d = true
  | .none, _ => by simp [canT]
  | .bool _, _ => by simp [canT]
  | .int _, _ => by simp [canT]
  | .str _, _ => by simp [canT]
  | .list _, h => by simp [good] at h
  | .tuple ds, h => by
    simp only [canT]
    exact goods_can ds (by simpa only [good] using h)
  | .dict kvs, h => by
    simp only [good, Bool.or_eq_true, Bool.and_eq_true] at h
    simp only [canT, Bool.or_eq_true, Bool.and_eq_true]
    exact h.imp (fun z => ⟨z.1, goodk_can kvs z.2⟩) id
theorem goods_can {m : Nat} : ∀ ds : List D, goods m ds = true → canTs ds = true
  | [], _ => by simp [canTs]
  | d :: ds, h => by
    simp only [goods, Bool.and_eq_true] at h
    simp only [canTs, good_can d h.1, goods_can ds h.2, Bool.and_self]
theorem goodk_can {m : Nat} : ∀ ds : List (D × D), goodk m ds = true → canTk ds = true
  | [], _ => by simp [canTk]
  | (_, d) :: ds, h => by
    simp only [goodk, Bool.and_eq_true] at h
    simp only [canTk, good_can d h.1, goodk_can ds h.2, Bool.and_self]
end
mutual
theorem good_solid {m : Nat} : ∀ d : D, good m d = true → solid d = true
  | .none, _ => by simp [solid]
  | .bool _, _ => by simp [solid]
  | .int _, _ => by simp [solid]
  | .str _, _ => by simp [solid]
  | .list _, h => by simp [good] at h
  | .tuple ds, h => by
    simp only [solid]
    exact goods_solid ds (by simpa only [good] using h)
  | .dict kvs, h => by
    simp only [good, Bool.or_eq_true, Bool.and_eq_true] at h
    rcases h with ⟨z, _⟩ | ⟨z, _⟩
    · obtain ⟨r, rfl⟩ := isFrz_cons z
      simp [solid, isSrc, isFrz]
    · obtain ⟨r, rfl⟩ := isFrd_cons z
      simp [solid, isSrc, isFrd]
theorem goods_solid {m : Nat} : ∀ ds : List D, goods m ds = true → solids ds = true
  | [], _ => by simp [solids]
  | d :: ds, h => by
    simp only [goods, Bool.and_eq_true] at h
    simp only [solids, good_solid d h.1, goods_solid ds h.2, Bool.and_self]
end
mutual
theorem good_mono {m m' : Nat} (hm : m ≤ m') : ∀ d : D, good m d = true → good m' d = true
  | .none, _ => by simp [good]
  | .bool _, _ => by simp [good]
  | .int i, h => by
    simp only [good, decide_eq_true_eq] at h ⊢
    omega
  | .str _, _ => by simp [good]
  | .list _, h => by simp [good] at h
  | .tuple ds, h => by
    simp only [good]
    exact goods_mono hm ds (by simpa only [good] using h)
  | .dict kvs, h => by
    simp only [good, Bool.or_eq_true, Bool.and_eq_true] at h ⊢
    exact h.imp (fun z => ⟨z.1, goodk_mono hm kvs z.2⟩) id
theorem goods_mono {m m' : Nat} (hm : m ≤ m') : ∀ ds : List D, goods m ds = true → goods m' ds = true
  | [], _ => by simp [goods]
  | d :: ds, h => by
    simp only [goods, Bool.and_eq_true] at h ⊢
    exact ⟨good_mono hm d h.1, goods_mono hm ds h.2⟩
theorem goodk_mono {m m' : Nat} (hm : m ≤ m') : ∀ ds : List (D × D), goodk m ds = true → goodk m' ds = true
  | [], _ => by simp [goodk]
  | (_, d) :: ds, h => by
    simp only [goodk, Bool.and_eq_true] at h ⊢
    exact ⟨good_mono hm d h.1, goodk_mono hm ds h.2⟩
end
theorem log_small {i : Int} (h : i.natAbs ≤ (10 ^ 31)) : i.natAbs.log2 < 1920 := log2_small (Nat.lt_of_le_of_lt h (by decide))
mutual
theorem good_show {m : Nat} (hm : m ≤ (10 ^ 31)) : ∀ d : D, good m d = true → (thaw d).showable = true ∧ (thaw d).shown.length ≤ wg d
  | .none, _ => by
    simp only [thaw, wg]
    exact ⟨by decide, by decide⟩
  | .bool b, _ => by
    simp only [thaw, wg]
    cases b <;> exact ⟨by decide, by decide⟩
  | .int i, h => by
    simp only [good, decide_eq_true_eq] at h
    simp only [thaw, wg, PyData.showable, decide_eq_true_eq]
    exact ⟨log_small (Nat.le_trans h hm), Nat.le_trans (shown_int32 (show i.natAbs < 10 ^ 32 from Nat.lt_of_le_of_lt (Nat.le_trans h hm) (by decide))) (by decide)⟩
  | .str x, _ => by
    simp only [thaw, wg, PyData.showable]
    exact ⟨trivial, Nat.le_refl _⟩
  | .list _, h => by simp [good] at h
  | .tuple ds, h => by
    obtain ⟨h1, h2⟩ := goods_show hm ds (by simpa only [good] using h)
    simp only [thaw, wg, PyData.showable, PyData.shown]
    refine ⟨h1, Nat.le_trans (tupleText_len_le _) ?_⟩
    omega
  | .dict kvs, h => by
    simp only [good, Bool.or_eq_true, Bool.and_eq_true] at h
    rcases h with ⟨z, hk⟩ | ⟨z, hl⟩
    · obtain ⟨r, rfl⟩ := isFrz_cons z
      simp only [goodk, Bool.and_eq_true] at hk
      obtain ⟨h1, h2⟩ := goodk_show hm r hk.2
      have e : thaw (.dict ((.bool true, .none) :: r)) = .list (thawk r) := by simp only [thaw, if_pos z, thawk, List.tail_cons]
      rw [e]
      simp only [wg, wgk, PyData.showable, PyData.shown]
      refine ⟨h1, Nat.le_trans (listText_len_le _) ?_⟩
      omega
    · obtain ⟨r, rfl⟩ := isFrd_cons z
      obtain rfl : r = [] := by simpa using hl
      rw [show thaw (.dict [(.bool false, .none)]) = .dict [] from thaw_frd]
      simp only [wg, wgk]
      exact ⟨by decide, by decide⟩
theorem goods_show {m : Nat} (hm : m ≤ (10 ^ 31)) : ∀ ds : List D, goods m ds = true → PyData.showableAll (thaws ds) = true ∧ ((PyData.shownAll (thaws ds)).map (·.length)).sum + 2 * (PyData.shownAll (thaws ds)).length ≤ wgs ds
  | [], _ => by simp [thaws, PyData.showableAll, PyData.shownAll, wgs]
  | d :: ds, h => by
    simp only [goods, Bool.and_eq_true] at h
    obtain ⟨a1, a2⟩ := good_show hm d h.1
    obtain ⟨b1, b2⟩ := goods_show hm ds h.2
    simp only [thaws, PyData.showableAll, PyData.shownAll, wgs, a1, b1, List.map_cons, List.sum_cons, List.length_cons]
    exact ⟨rfl, by omega⟩
theorem goodk_show {m : Nat} (hm : m ≤ (10 ^ 31)) : ∀ ds : List (D × D), goodk m ds = true → PyData.showableAll (thawk ds) = true ∧ ((PyData.shownAll (thawk ds)).map (·.length)).sum + 2 * (PyData.shownAll (thawk ds)).length ≤ wgk ds
  | [], _ => by simp [thawk, PyData.showableAll, PyData.shownAll, wgk]
  | (_, d) :: ds, h => by
    simp only [goodk, Bool.and_eq_true] at h
    obtain ⟨a1, a2⟩ := good_show hm d h.1
    obtain ⟨b1, b2⟩ := goodk_show hm ds h.2
    simp only [thawk, PyData.showableAll, PyData.shownAll, wgk, a1, b1, List.map_cons, List.sum_cons, List.length_cons]
    exact ⟨rfl, by omega⟩
end
/-- a value of any kind that never changes: ints at most m either way, at most k deep, shown by at most L signs -/
structure Vl (m k L : Nat) (d : D) : Prop where
  good : good m d = true
  dep : (thaw d).depth ≤ k
  wt : wg d ≤ L
theorem Vl.ok {m k L : Nat} {d : D} (h : Vl m k L d) (hm : m ≤ (10 ^ 31)) (hk : k ≤ 40) (hL : L ≤ 10000000) : OkT 40 10000000 d :=
  ⟨good_can _ h.good, Nat.le_trans h.dep hk, (good_show hm _ h.good).1, Nat.le_trans (good_show hm _ h.good).2 (Nat.le_trans h.wt hL)⟩
theorem Vl.solid {m k L : Nat} {d : D} (h : Vl m k L d) : solid d = true := good_solid _ h.good
theorem Vl.mono {m k L m' k' L' : Nat} {d : D} (h : Vl m k L d) (a : m ≤ m') (b : k ≤ k') (c : L ≤ L') : Vl m' k' L' d := ⟨good_mono a _ h.good, Nat.le_trans h.dep b, Nat.le_trans h.wt c⟩
theorem wgs_len : ∀ ds : List D, 2 * ds.length ≤ wgs ds
  | [] => by simp [wgs]
  | d :: ds => by
    have := wgs_len ds
    simp only [wgs, List.length_cons]
    omega
theorem depthAll_le {k : Nat} : ∀ {ds : List D}, PyData.depthAll (thaws ds) ≤ k ↔ ∀ d ∈ ds, (thaw d).depth ≤ k
  | [] => by simp [thaws, PyData.depthAll]
  | d :: ds => by
    simp only [thaws, PyData.depthAll, List.mem_cons, forall_eq_or_imp, Nat.max_le, depthAll_le]
/-- a tuple of such -/
theorem Vl.tuple {m k L : Nat} {ds : List D} (h : ∀ d ∈ ds, ∃ l, Vl m k l d) (w : wgs ds + 4 ≤ L) : Vl m (k + 1) L (.tuple ds) := by
  refine ⟨?_, ?_, ?_⟩
  · simp only [Z.Wd.good]
    exact goods_all.mpr fun d hd => let ⟨l, hl⟩ := h d hd; hl.good
  · simp only [thaw, PyData.depth]
    have : PyData.depthAll (thaws ds) ≤ k := depthAll_le.mpr fun d hd => let ⟨l, hl⟩ := h d hd; hl.dep
    omega
  · simp only [wg]
    exact w
theorem Vl.frz {m k L : Nat} {ds : List D} (h : ∀ d ∈ ds, ∃ l, Vl m k l d) (w : wgs ds + 15 ≤ L) : Vl m (k + 1) L (frzD ds) := by
  have gk : ∀ es : List D, (∀ d ∈ es, ∃ l, Vl m k l d) → goodk m (es.map fun d => (.bool true, d)) = true := fun es => by
    induction es with
    | nil => intro _; simp [goodk]
    | cons e es ih =>
      intro h
      simp only [List.map_cons, goodk, Bool.and_eq_true]
      exact ⟨let ⟨l, hl⟩ := h e (List.mem_cons_self ..); hl.good, ih fun d hd => h d (List.mem_cons_of_mem _ hd)⟩
  have wk : ∀ es : List D, wgk (es.map fun d => ((.bool true : D), d)) = wgs es := fun es => by
    induction es with
    | nil => simp [wgk, wgs]
    | cons e es ih => simp only [List.map_cons, wgk, wgs, ih]
  refine ⟨?_, ?_, ?_⟩
  · unfold frzD frzK
    simp only [Z.Wd.good, goodk, gk ds h]
    rfl
  · rw [thaw_frz]
    simp only [PyData.depth]
    have : PyData.depthAll (thaws ds) ≤ k := depthAll_le.mpr fun d hd => let ⟨l, hl⟩ := h d hd; hl.dep
    rw [thaws_map] at this
    omega
  · unfold frzD frzK
    simp only [wg, wgk, wk]
    omega
theorem Vl.parts {m k L : Nat} {ds : List D} (h : Vl m k L (.tuple ds)) : 1 ≤ k ∧ wgs ds + 4 ≤ L ∧ ∀ d ∈ ds, Vl m (k - 1) (wg d) d := by
  have h1 := h.good
  have h2 := h.dep
  have h3 := h.wt
  simp only [Z.Wd.good] at h1
  simp only [thaw, PyData.depth] at h2
  simp only [wg] at h3
  have h4 := goods_all.mp h1
  have h5 : PyData.depthAll (thaws ds) ≤ k - 1 := by omega
  exact ⟨by omega, h3, fun d hd => ⟨h4 d hd, depthAll_le.mp h5 d hd, Nat.le_refl _⟩⟩
theorem Vl.isi {m k L : Nat} {d : D} (h : Vl m k L d) : noFrz d := by
  cases d with
  | dict kvs =>
    have := h.good
    simp only [Z.Wd.good, Bool.or_eq_true, Bool.and_eq_true] at this
    rcases this with ⟨z, _⟩ | ⟨z, hl⟩
    · exact .inl z
    · obtain ⟨r, rfl⟩ := isFrd_cons z
      obtain rfl : r = [] := by simpa using hl
      exact .inr rfl
  | _ => trivial
theorem Vl.none {m k : Nat} : Vl m k 5 .none := ⟨by simp [Z.Wd.good], by simp [thaw, PyData.depth], by simp [wg]⟩
theorem Vl.bool {m k : Nat} {b : Bool} : Vl m k 6 (.bool b) := ⟨by simp [Z.Wd.good], by simp [thaw, PyData.depth], by simp [wg]⟩
theorem Vl.int {m k : Nat} {i : Int} (h : i.natAbs ≤ m) : Vl m k 36 (.int i) := ⟨by simp [Z.Wd.good, h], by simp [thaw, PyData.depth], by simp [wg]⟩
theorem Vl.str {m k : Nat} {x : Str} {L : Nat} (h : (PyData.str x).shown.length ≤ L) : Vl m k L (.str x) := ⟨by simp [Z.Wd.good], by simp [thaw, PyData.depth], by simpa [wg] using h⟩
theorem Vl.inner {m k L : Nat} {d : D} (h : Vl m k L d) (hL : L ≤ 10000000) : noFrz d ∧ ∀ xs, d = .tuple xs → xs.length ≤ 10000000 ∧ ∀ x ∈ xs, noFrz x := ⟨h.isi, fun xs e => by
  subst e
  obtain ⟨_, a, b⟩ := h.parts
  have := wgs_len xs
  exact ⟨by omega, fun x hx => (b x hx).isi⟩⟩
end Wd
end Z
set_option Elab.async false
set_option linter.all false
set_option maxHeartbeats 1000000
/-! G25: a place is told by others just if the rank stays. Plain Lean. -/
set_option Elab.async false
set_option linter.all false
set_option maxRecDepth 100000
set_option maxHeartbeats 4000000
/-! Z34: dicts of any keys at the layer: what is held at a key, what is stored. -/
namespace Z
open PySem PySem.Spec PyProof.Rows L2
mutual
/-- the value stands for the key -/
inductive KeyAt (K : PySem.W.Frag) (H : Hp) : NestedKey → V → Prop
  | none : KeyAt K H .none .non
  | num (i : Int) : KeyAt K H (.num i) (.int i)
  | tup {a : Addr} {xs : List V} {ks : List NestedKey} : SqT K H a xs → KeyAll K H ks xs → KeyAt K H (.tup ks) (.ref a)
inductive KeyAll (K : PySem.W.Frag) (H : Hp) : List NestedKey → List V → Prop
  | nil : KeyAll K H [] []
  | cons {k : NestedKey} {x : V} {ks : List NestedKey} {xs : List V} : KeyAt K H k x → KeyAll K H ks xs → KeyAll K H (k :: ks) (x :: xs)
end
section
variable {X : Cx} {pins : List (Addr × Obj)} {σ : L2.St} {H : Hp} {s : Shared}
mutual
theorem key_is (I : Inv X pins σ H s) : ∀ (k : NestedKey) (v : V) (u : Value), KeyAt X.K H k v → RelV v u → NestedIs s.heap k u
  | .none, _, _, h, r => by
    cases h
    cases (show _ = _ from r)
    exact .none
  | .num i, _, _, h, r => by
    cases h
    obtain ⟨t, rfl⟩ := r
    exact .int _ _
  | .text x, _, _, h, _ => by cases h
  | .tup ks, _, _, h, r => by
    cases h with
    | tup hT hA =>
      cases r
      obtain ⟨its, rv, ⟨o, ho, hc, n, hd⟩, _⟩ := I.tuple hT
      exact .tup ho hc hd (keys_is I ks _ _ hA rv)
theorem keys_is (I : Inv X pins σ H s) : ∀ (ks : List NestedKey) (vs : List V) (us : List Value), KeyAll X.K H ks vs → Vals vs us → NestedAll s.heap ks us
  | [], _, _, h, r => by
    cases h
    cases r
    exact .nil
  | k :: ks, _, _, h, r => by
    cases h with
    | cons h1 h2 =>
      cases r with
      | cons r1 r2 => exact .cons (key_is I k _ _ h1 r1) (keys_is I ks _ _ h2 r2)
end
end
/-- a key that is a tuple -/
structure XKey (K : PySem.W.Frag) (H : Hp) (k : NestedKey) (v : V) : Prop where
  ky : KeyAt K H k v
  dp : k.depth ≤ 8
  hs : ∀ w, k.hash w = hk k
def rowAt (rows : List Row) (k : NestedKey) : Option V := (rows.find? fun r => decide (r.1 = k)).map (·.2.2)
def rowPut (rows : List Row) (k : NestedKey) (y : Addr) (v : V) : List Row :=
  if (rowAt rows k).isSome then rows.map (fun r => if r.1 = k then (r.1, r.2.1, v) else r) else rows ++ [(k, y, v)]
theorem rowPut_len (rows : List Row) (k : NestedKey) (y : Addr) (v : V) : (rowPut rows k y v).length ≤ rows.length + 1 := by
  unfold rowPut
  split
  · rw [List.length_map]; omega
  · rw [List.length_append, List.length_singleton]; omega
theorem rowPut_ne {rows : List Row} {k : NestedKey} {y : Addr} {v : V} : rowPut rows k y v ≠ [] := by
  unfold rowPut
  split
  · rename_i h
    intro e
    rw [List.map_eq_nil_iff.mp e] at h
    cases h
  · simp
theorem rowAt_none {rows : List Row} {k : NestedKey} (h : (rowAt rows k).isSome ≠ true) : k ∉ rows.map (·.1) := fun hm => by
  obtain ⟨r, hr, rfl⟩ := List.mem_map.mp hm
  apply h
  unfold rowAt
  rw [Option.isSome_map, List.find?_isSome]
  exact ⟨r, hr, by simp⟩
theorem rowPut_keys (rows : List Row) (k : NestedKey) (y : Addr) (v : V) : (rowPut rows k y v).map (·.1) = if (rowAt rows k).isSome then rows.map (·.1) else rows.map (·.1) ++ [k] := by
  unfold rowPut
  split
  · rw [List.map_map]
    refine List.map_congr_left fun r _ => ?_
    simp only [Function.comp]
    split <;> rfl
  · rw [List.map_append]; rfl
/-- rows as they stand -/
abbrev XRel : List Row → List (NestedKey × Addr × Value) → Prop := Paired fun r x => x.1 = r.1 ∧ x.2.1 = r.2.1 ∧ RelV r.2.2 x.2.2
theorem XRel.val {rows : List Row} {xs : List (NestedKey × Addr × Value)} (r : XRel rows xs) (k : NestedKey) : RelO (rowAt rows k) ((atKey xs k).map (·.2)) := by
  induction r with
  | nil => exact True.intro
  | @cons p q ps qs h t ih =>
    obtain ⟨h1, _, h2⟩ := h
    by_cases e : p.1 = k
    · have e' : q.1 = k := h1.trans e
      have b : atKey (q :: qs) k = some q.2 := by simp [atKey, List.find?_cons, e']
      have c : rowAt (p :: ps) k = some p.2.2 := by simp [rowAt, List.find?_cons, e]
      rw [c, b]; exact h2
    · have e' : ¬ q.1 = k := fun z => e (h1.symm.trans z)
      have b : atKey (q :: qs) k = atKey qs k := by simp [atKey, List.find?_cons, e']
      have c : rowAt (p :: ps) k = rowAt ps k := by simp [rowAt, List.find?_cons, e]
      rw [c, b]; exact ih
theorem XRel.put {rows : List Row} {xs : List (NestedKey × Addr × Value)} (r : XRel rows xs) (k : NestedKey) {b : Addr} {y : V} {u : Value} (ry : RelV y u) : XRel (rowPut rows k b y) (storedH xs k b u) := by
  have e : (rowAt rows k).isSome = (atKey xs k).isSome := by rw [(r.val k).isSome_eq, Option.isSome_map]
  unfold rowPut storedH
  rw [e]
  by_cases q : (atKey xs k).isSome = true
  · rw [if_pos q, if_pos q]
    clear e q
    induction r with
    | nil => exact .nil
    | @cons p q ps qs h t ih =>
      rw [List.map_cons, List.map_cons]
      refine .cons ?_ ih
      obtain ⟨h1, h2, h3⟩ := h
      unfold putAt
      by_cases e : p.1 = k
      · rw [if_pos e, if_pos (h1.trans e)]; exact ⟨h1, h2, ry⟩
      · rw [if_neg e, if_neg (fun z => e (h1.symm.trans z))]; exact ⟨h1, h2, h3⟩
  · rw [if_neg q, if_neg q]; exact Paired.snoc r ⟨rfl, rfl, ry⟩
theorem XRel.len {rows : List Row} {xs : List (NestedKey × Addr × Value)} (r : XRel rows xs) : rows.length = xs.length := Paired.length r
/-- a dict whose keys are tuples, by its rows -/
def XAt (K : PySem.W.Frag) (H : Hp) (a : Addr) (rows : List Row) : Prop :=
  ((rows = [] ∧ Rd H a (.dK [])) ∨ (rows ≠ [] ∧ Rd H a (dX a rows))) ∧ (rows.map (·.1)).Nodup ∧ ∀ r ∈ rows, XKey K H r.1 (.ref r.2.1)
section
variable {X : Cx} {pins : List (Addr × Obj)} {σ : L2.St} {H : Hp} {s : Shared} {a : Addr} {rows : List Row}
theorem x_rel {w : World} {prog : Program} : ∀ {rows : List Row} {es : List DictEntry}, Paired RowIs rows es → (∀ r ∈ rows, r.1.hash w = hk r.1) → ∃ xs, XRel rows xs ∧ es = xs.map (entryOfKey (nestedKind prog w))
  | [], _, .nil, _ => ⟨[], .nil, rfl⟩
  | r :: rows, e :: es, .cons h t, hh => by
    obtain ⟨xs, h1, h2⟩ := x_rel (prog := prog) t fun r' hr' => hh r' (List.mem_cons_of_mem _ hr')
    obtain ⟨h3, h4, h5⟩ := h
    refine ⟨(r.1, r.2.1, e.val) :: xs, .cons ⟨rfl, rfl, h5⟩ h1, ?_⟩
    rw [List.map_cons, h2]
    congr 1
    obtain ⟨eh, ek, ev⟩ := e
    simp only at h3 h4
    unfold entryOfKey
    rw [h3, h4, ← hh r (List.mem_cons_self ..)]
    rfl
theorem x_obj (I : Inv X pins σ H s) (h : XAt X.K H a rows) : (a == sysModules) = false ∧ rows.length ≤ 10000000 ∧ ∃ xs, XRel rows xs ∧ s.heap.DictOfH (nestedKind X.prog X.w) a xs := by
  obtain ⟨h1, h2, h3⟩ := h
  rcases h1 with ⟨rfl, hR⟩ | ⟨hne, hR⟩
  · obtain ⟨_, hd, vs, rel, dd⟩ := dk_rd I.hok hR
    cases rel
    obtain ⟨es, ep, ⟨o, e1, e2, e3⟩, hsz, _⟩ := dd.raw
    refine ⟨hd, Nat.zero_le _, [], .nil, o, es, ep, e1, e2, e3, ?_, (fun x hx => by cases hx), List.nodup_nil⟩
    have : es = #[] := Array.eq_empty_of_size_eq_zero hsz
    rw [this]
    rfl
  · obtain ⟨⟨hm, hl, o, es, ep, e1, e2, e3, e4⟩, _⟩ := (show ObjOk X.prog X.w H s.heap a (dX a rows) from rd_of I.hok hR)
    obtain ⟨xs, r1, r2⟩ := x_rel (w := X.w) (prog := X.prog) e4 fun r hr => (h3 r hr).hs X.w
    have keys : ∀ {rows : List Row} {xs : List (NestedKey × Addr × Value)}, XRel rows xs → xs.map (·.1) = rows.map (·.1) := fun r => by
      induction r with
      | nil => rfl
      | cons h t ih => rw [List.map_cons, List.map_cons, ih, h.1]
    have every : ∀ {rows : List Row} {xs : List (NestedKey × Addr × Value)}, XRel rows xs → ∀ x ∈ xs, ∃ r ∈ rows, x.1 = r.1 ∧ x.2.1 = r.2.1 := fun r => by
      induction r with
      | nil => intro x hx; cases hx
      | @cons p q ps qs h t ih =>
        intro x hx
        rcases List.mem_cons.mp hx with rfl | hx
        · exact ⟨p, List.mem_cons_self .., h.1, h.2.1⟩
        · obtain ⟨r, hr, z⟩ := ih x hx
          exact ⟨r, List.mem_cons_of_mem _ hr, z⟩
    refine ⟨hm, hl, xs, r1, o, es, ep, e1, e2, e3, r2, fun x hx => ?_, by rw [keys r1]; exact h2⟩
    obtain ⟨r, hr, z1, z2⟩ := every r1 x hx
    rw [z1, z2]
    exact ⟨key_is I _ _ _ (h3 r hr).ky rfl, (h3 r hr).dp⟩
theorem x_key (I : Inv X pins σ H s) {k : NestedKey} {b : Addr} (h : XKey X.K H k (.ref b)) : (nestedKind X.prog X.w).is s.heap k b := ⟨key_is I _ _ _ h.ky rfl, h.dp⟩
end
/-- what the dict at a holds at the key y -/
def XGet (K : PySem.W.Frag) (H : Hp) (a : Addr) (y : V) (r : Option V) : Prop := DGet H a y r ∨ ∃ rows k b, XAt K H a rows ∧ y = .ref b ∧ XKey K H k y ∧ r = rowAt rows k
/-- the heap behind a[y] = v -/
def XPut (K : PySem.W.Frag) (H : Hp) (a : Addr) (y v : V) (H' : Hp) : Prop := DPut H a y v H' ∨
  ∃ rows k b, XAt K H a rows ∧ Mut (H a) ∧ y = .ref b ∧ XKey K H k y ∧ rows.length < 10000000 ∧ H' = upd H a (dX a (rowPut rows k b v))
section
variable {X : Cx} {pins : List (Addr × Obj)} {σ : L2.St} {H : Hp} {s : Shared} {a : Addr} {y v d : V} {u r : Value} {o : Option V} {A : Around} {E : Value → Shared → Prop}
theorem room_n {A : Around} (hu : A.units + 16 < cLine) : A.in1.units + 8 < cLine := by
  show A.units + 1 + 8 < cLine
  omega
theorem x_getItem {Q : Value → Shared → Prop} (hu : A.units + 16 < cLine) (I : Inv X pins σ H s) (g : XGet X.K H a y (some v)) (ry : RelV y u) (h : ∀ w' s', Inv X pins σ H s' → RelV v w' → Q w' s') :
    wpAny (model X.prog X.w) A (getItem (.ref a) u) Q E s := by
  rcases g with g | ⟨rows, k, b, hx, rfl, hk, l⟩
  · exact d_getItem (by omega) I g ry h
  · cases ry
    obtain ⟨hd, hl, xs, rel, dd⟩ := x_obj I hx
    obtain ⟨w', hw, rw'⟩ := RelO.some_of (v := v) (o := (atKey xs k).map (·.2)) (by rw [l]; exact rel.val k)
    obtain ⟨p, hp, hp2⟩ := Option.map_eq_some_iff.mp hw
    refine wpAny_getItem_heap (knd := nestedKind X.prog X.w) (room_n hu) (x_key I hk) dd hp ?_
    rw [hp2]
    exact h w' _ (I.tok _) rw'
theorem x_in {Q : Value → Shared → Prop} (hu : A.units + 16 < cLine) (I : Inv X pins σ H s) (g : XGet X.K H a y o) (ry : RelV y u) (h : ∀ s', Inv X pins σ H s' → Q (.bool o.isSome) s') :
    wpAny (model X.prog X.w) A (compareOp .In u (.ref a)) Q E s := by
  rcases g with g | ⟨rows, k, b, hx, rfl, hk, l⟩
  · exact d_in (by omega) I g ry h
  · cases ry
    obtain ⟨hd, hl, xs, rel, dd⟩ := x_obj I hx
    refine wpAny_in_heap (knd := nestedKind X.prog X.w) (room_n hu) (x_key I hk) hd dd ?_
    have q := (rel.val k).isSome_eq.trans (Option.isSome_map (f := fun x : Addr × Value => x.2) (x := atKey xs k))
    rw [← q, ← l]
    exact h _ (I.tok _)
theorem x_wrote {P : Program} {w : World} {rows : List Row} {xs : List (NestedKey × Addr × Value)} {h' : Heap} {H' : Hp} (hd : (a == sysModules) = false) (hl : rows.length ≤ 10000000) (rel : XRel rows xs) (dd : h'.DictOfH (nestedKind P w) a xs) (hh : ∀ r ∈ rows, r.1.hash w = hk r.1) : ObjOk P w H' h' a (dX a rows) := by
  obtain ⟨o, es, ep, e1, e2, e3, e4, _⟩ := dd
  have pr : ∀ {rows : List Row} {xs : List (NestedKey × Addr × Value)}, XRel rows xs → (∀ r ∈ rows, r.1.hash w = hk r.1) → Paired RowIs rows (xs.map (entryOfKey (nestedKind P w))) := fun r => by
    induction r with
    | nil => exact fun _ => .nil
    | @cons p q ps qs h t ih =>
      intro hh
      rw [List.map_cons]
      obtain ⟨h1, h2, h3⟩ := h
      refine .cons ⟨?_, ?_, h3⟩ (ih fun r hr => hh r (List.mem_cons_of_mem _ hr))
      · show q.1.hash w = hk p.1
        rw [h1]
        exact hh p (List.mem_cons_self ..)
      · show Value.ref q.2.1 = .ref p.2.1
        rw [h2]
  refine ⟨⟨hd, hl, o, es, ep, e1, e2, e3, by rw [e4]; exact pr rel hh⟩, ⟨o, e1⟩, fun h1 h2 p k => ?_⟩
  obtain ⟨p1, p2, o', es', ep', q1, q2, q3, q4⟩ := p
  exact ⟨p1, p2, o', es', ep', k _ q1, q2, q3, q4⟩
theorem rowPut_hash {w : World} {rows : List Row} {k : NestedKey} {b : Addr} {v : V} (h : ∀ r ∈ rows, r.1.hash w = hk r.1) (hk' : k.hash w = hk k) : ∀ r ∈ rowPut rows k b v, r.1.hash w = hk r.1 := fun r hr => by
  have : r.1 ∈ (rowPut rows k b v).map (·.1) := List.mem_map.mpr ⟨r, hr, rfl⟩
  rw [rowPut_keys] at this
  have old : r.1 ∈ rows.map (·.1) → r.1.hash w = hk r.1 := fun z => by
    obtain ⟨q, hq, e⟩ := List.mem_map.mp z
    rw [← e]
    exact h q hq
  split at this
  · exact old this
  · rcases List.mem_append.mp this with z | z
    · exact old z
    · rw [List.mem_singleton.mp z]
      exact hk'
theorem x_setItem {H' : Hp} {Q : Unit → Shared → Prop} (hu : A.units + 16 < cLine) (I : Inv X pins σ H s) (g : XPut X.K H a y v H') (ry : RelV y u) (rv : RelV v r) (h : ∀ s', Inv X pins σ H' s' → Q () s') :
    wpAny (model X.prog X.w) A (setItem (.ref a) u r) Q E s := by
  rcases g with g | ⟨rows, k, b, hx, mu, rfl, hk, hl, rfl⟩
  · exact d_setItem (by omega) I g ry rv h
  · cases ry
    obtain ⟨hd, hl0, xs, rel, dd⟩ := x_obj I hx
    have lx := rel.len
    refine wpAny_setItem_heap (knd := nestedKind X.prog X.w) (hsz := by rw [← lx]; exact lim_ok hl0) (room_n hu) (x_key I hk) dd fun h' dd' hs => h _ ?_
    have he : ∃ q, h'.get? a = some q := let ⟨q, _, _, hq, _⟩ := dd'; ⟨q, hq⟩
    have := rowPut_len rows k b v
    exact d_write I mu hs he (x_wrote hd (by omega) (rel.put k rv) dd' (rowPut_hash (fun r hr => (hx.2.2 r hr).hs X.w) (hk.hs X.w)))
end
/-- a is a dict, whatever its keys -/
def IsX (K : PySem.W.Frag) (H : Hp) (a : Addr) : Prop := IsD H a ∨ ∃ rows, XAt K H a rows
theorem isX_at {X : Cx} {pins : List (Addr × Obj)} {σ : L2.St} {H : Hp} {s : Shared} {a : Addr} (I : Inv X pins σ H s) (d : IsX X.K H a) :
    s.TypeIs (.ref a) "dict" ∧ (∀ b, Value.ref a = .ref b → ∃ ob, s.heap.get? b = some ob ∧ ob.dict = none) ∧ (a == sysModules) = false := by
  rcases d with d | ⟨rows, hx⟩
  · exact isD_at I d
  · obtain ⟨hd, _, xs, _, dd⟩ := x_obj I hx
    refine ⟨dd.typeIs, fun b q => ?_, hd⟩
    cases q
    obtain ⟨ob, _, _, h1, h2, _⟩ := dd
    exact ⟨ob, h1, h2.2.1⟩
theorem XGet.isX {K : PySem.W.Frag} {H : Hp} {a : Addr} {y : V} {o : Option V} (h : XGet K H a y o) : IsX K H a := by
  rcases h with (⟨kvs, k, e, _⟩ | ⟨kvs, k, b, e, _⟩) | ⟨rows, _, _, e, _⟩
  · exact .inl (.inl ⟨kvs, e⟩)
  · exact .inl (.inr ⟨kvs, e⟩)
  · exact .inr ⟨rows, e⟩
/-! ### readings and rules -/
def tXGet (K : PySem.W.Frag) (td ty : TE) : TE := fun σ H Q => td σ H fun x H1 => ty σ H1 fun y H2 => ∃ a v, x = .ref a ∧ XGet K H2 a y (some v) ∧ Q v H2
def tXIn (K : PySem.W.Frag) (neg : Bool) (ty td : TE) : TE := fun σ H Q => ty σ H fun y H1 => td σ H1 fun x H2 => ∃ a o, x = .ref a ∧ XGet K H2 a y o ∧ Q (.bl (xor neg o.isSome)) H2
def sXPut (K : PySem.W.Frag) (td ty tv : TE) : TS := fun D σ H => tv σ H fun v H1 => td σ H1 fun x H2 => ty σ H2 fun y H3 => ∃ a H4, x = .ref a ∧ XPut K H3 a y v H4 ∧ D.nx σ H4
/-- what setdefault does -/
def XSet (K : PySem.W.Frag) (H : Hp) (a : Addr) (y z : V) (Q : VK) : Prop :=
  (∃ kvs k, H a = some (.dK kvs) ∧ y = kV k ∧ kvs.length < sizeLine ∧ (∀ v, valV kvs k = some v → Q v H) ∧ (valV kvs k = none → Q z (upd H a (.dK (putK kvs k z))))) ∨
  ∃ rows k b, XAt K H a rows ∧ Mut (H a) ∧ y = .ref b ∧ XKey K H k y ∧ rows.length < 10000000 ∧ (∀ v, rowAt rows k = some v → Q v H) ∧ (rowAt rows k = none → Q z (upd H a (dX a (rowPut rows k b z))))
section
variable {X : Cx} {o i e f value : Expr} {pos pos' apos cpos : Pos} {td ty tv tx : TE}
theorem pe_xget (hu : X.A.units + 64 < cLine) (ho : PE X o td) (hi : PE X i ty) (hs : NoSl i) : PE X (.Subscript o i pos) (tXGet X.K td ty) := by
  refine ⟨fun pins s σ H Q I h => ?_⟩
  refine subD_of PySem.F.slot_dict_getitem.lookup hs (thn (ho.run pins s σ H _ I h) fun u s1 ⟨x, H1, I1, rx, q1⟩ => thn (hi.run pins s1 σ H1 _ I1 q1) fun iv s2 ⟨y, H2, I2, ry, a, v, ex, g, q2⟩ => ?_)
  subst ex
  obtain rfl : u = Value.ref a := rx
  exact ⟨(isX_at I2 g.isX).1, x_getItem (by omega) I2 g ry fun w' s3 I3 rw' => ⟨v, H2, I3, rw', q2⟩⟩
theorem pc_xin (hu : X.A.units + 64 < cLine) (hi : PE X i ty) (ho : PE X o td) : PC X .In i o (tXIn X.K false ty td) := by
  refine ⟨fun pins s σ H Q I h => ?_⟩
  refine thn (hi.run pins s σ H _ I h) fun iv s1 ⟨y, H1, I1, ry, q1⟩ => thn (ho.run pins s1 σ H1 _ I1 q1) fun u s2 ⟨x, H2, I2, rx, a, ov, ex, g, q2⟩ => ?_
  subst ex
  obtain rfl : u = Value.ref a := rx
  refine x_in (by omega) I2 g ry fun s3 I3 => ⟨.bl ov.isSome, H2, I3, rfl, ?_⟩
  cases hh : ov.isSome <;> rw [hh] at q2 <;> exact q2
theorem ps_xput (hu : X.A.units + 64 < cLine) (ho : PE X o td) (hi : PE X i ty) (hv : PE X value tv) (hs : swapsWith value (some (.Subscript o i pos')) pos.line X.env = pure false) :
    PS X (.Assign [.Subscript o i pos'] value pos) (sXPut X.K td ty tv) := by
  refine ⟨fun pins s σ H D I h => ?_⟩
  refine wpAny_Assign_Subscript (thn (hv.run pins s σ H _ I h) fun r s1 ⟨v, H1, I1, rv, q1⟩ => thn (ho.run pins s1 σ H1 _ I1 q1) fun u s2 ⟨x, H2, I2, rx, q2⟩ => thn (hi.run pins s2 σ H2 _ I2 q2) fun iv s3 ⟨y, H3, I3, ry, a, H4, ex, g, q3⟩ => ?_) hs
  subst ex
  obtain rfl : u = Value.ref a := rx
  exact x_setItem (by omega) I3 g ry rv fun s4 I4 => ⟨σ, H4, I4, q3⟩
end
end Z
set_option Elab.async false
set_option linter.all false
set_option maxRecDepth 100000
set_option maxHeartbeats 4000000
/-! Z35: dicts of any keys over data. -/
namespace Z
open PySem PySem.Spec PyProof.Rows L2
open Classical in
noncomputable def kFind (kvs : List (D × D)) (k : D) : Option D := (kvs.find? fun p => decide (p.1 = k)).map (·.2)
open Classical in
noncomputable def kRepl (kvs : List (D × D)) (k v : D) : List (D × D) := kvs.map fun p => if p.1 = k then (p.1, v) else p
noncomputable def kPut (kvs : List (D × D)) (k v : D) : List (D × D) := if (kFind kvs k).isSome then kRepl kvs k v else kvs ++ [(k, v)]
open Classical in
noncomputable def kSel (kvs : List (D × D)) (k : D) : List Bool := kvs.map fun p => decide (p.1 = k)
theorem kFind_pos {p : D × D} {kvs : List (D × D)} {k : D} (h : p.1 = k) : kFind (p :: kvs) k = some p.2 := by simp [kFind, List.find?_cons, h]
theorem kFind_neg {p : D × D} {kvs : List (D × D)} {k : D} (h : p.1 ≠ k) : kFind (p :: kvs) k = kFind kvs k := by simp [kFind, List.find?_cons, h]
theorem kFind_nil {k : D} : kFind [] k = none := rfl
theorem kFind_mem {kvs : List (D × D)} {k : D} : (kFind kvs k).isSome = true ↔ k ∈ kvs.map (·.1) := by
  unfold kFind
  rw [Option.isSome_map, List.find?_isSome]
  constructor
  · rintro ⟨p, hp, e⟩
    exact List.mem_map.mpr ⟨p, hp, by simpa using e⟩
  · intro h
    obtain ⟨p, hp, e⟩ := List.mem_map.mp h
    exact ⟨p, hp, by simpa using e⟩
theorem kRepl_keys (kvs : List (D × D)) (k v : D) : (kRepl kvs k v).map (·.1) = kvs.map (·.1) := by
  unfold kRepl
  rw [List.map_map]
  refine List.map_congr_left fun p _ => ?_
  simp only [Function.comp]
  split <;> rfl
theorem kPut_keys (kvs : List (D × D)) (k v : D) : (kPut kvs k v).map (·.1) = if (kFind kvs k).isSome then kvs.map (·.1) else kvs.map (·.1) ++ [k] := by
  unfold kPut
  split
  · exact kRepl_keys ..
  · rw [List.map_append]; rfl
/-! ### keys -/
mutual
theorem nkey_inj : ∀ (a b : D) (k : NestedKey), nkey a = some k → nkey b = some k → a = b
  | .none, b, k, h1, h2 => by
    simp only [nkey] at h1
    cases h1
    cases b <;> simp [nkey] at h2
    rfl
  | .int i, b, k, h1, h2 => by
    simp only [nkey] at h1
    cases h1
    cases b <;> simp [nkey] at h2
    rw [h2]
  | .tuple xs, b, k, h1, h2 => by
    simp only [nkey] at h1
    obtain ⟨ks, e, rfl⟩ := Option.map_eq_some_iff.mp h1
    cases b <;> simp [nkey] at h2
    rw [nkeys_inj xs _ ks e h2]
  | .bool _, _, _, h1, _ => by simp [nkey] at h1
  | .str _, _, _, h1, _ => by simp [nkey] at h1
  | .list _, _, _, h1, _ => by simp [nkey] at h1
  | .dict _, _, _, h1, _ => by simp [nkey] at h1
theorem nkeys_inj : ∀ (a b : List D) (ks : List NestedKey), nkeys a = some ks → nkeys b = some ks → a = b
  | [], b, ks, h1, h2 => by
    simp only [nkeys] at h1
    cases h1
    cases b with
    | nil => rfl
    | cons y ys =>
      simp only [nkeys] at h2
      split at h2
      · cases h2
      · cases h2
  | x :: xs, b, ks, h1, h2 => by
    simp only [nkeys] at h1
    split at h1
    · rename_i k ks' e1 e2
      cases h1
      cases b with
      | nil => simp [nkeys] at h2
      | cons y ys =>
        simp only [nkeys] at h2
        split at h2
        · rename_i k2 ks2 e3 e4
          cases h2
          rw [nkey_inj x y _ e1 e3, nkeys_inj xs ys _ e2 e4]
        · cases h2
    · cases h1
end
mutual
theorem nkey_hash (w : World) : ∀ (d : D) (k : NestedKey), nkey d = some k → k.hash w = hk k
  | .none, k, h => by
    simp only [nkey] at h
    cases h
    simp only [NestedKey.hash, hk]
  | .int i, k, h => by
    simp only [nkey] at h
    cases h
    simp only [NestedKey.hash, hk]
  | .tuple xs, k, h => by
    simp only [nkey] at h
    obtain ⟨ks, e, rfl⟩ := Option.map_eq_some_iff.mp h
    simp only [NestedKey.hash, hk]
    rw [nkeys_hash w xs ks e]
  | .bool _, _, h1 => by simp [nkey] at h1
  | .str _, _, h1 => by simp [nkey] at h1
  | .list _, _, h1 => by simp [nkey] at h1
  | .dict _, _, h1 => by simp [nkey] at h1
theorem nkeys_hash (w : World) : ∀ (d : List D) (ks : List NestedKey), nkeys d = some ks → NestedKey.hashes w ks = hks ks
  | [], ks, h => by
    simp only [nkeys] at h
    cases h
    simp only [NestedKey.hashes, hks]
  | x :: xs, ks, h => by
    simp only [nkeys] at h
    split at h
    · rename_i k ks' e1 e2
      cases h
      simp only [NestedKey.hashes, hks]
      rw [nkey_hash w x _ e1, nkeys_hash w xs _ e2]
    · cases h
end
section
variable {c : Zc} {H : Hp}
mutual
theorem rp_key : ∀ (d : D) (k : NestedKey) (v : V) (fp : List Addr), nkey d = some k → Rp c H d v fp → KeyAt c.K H k v ∧ fp = []
  | .none, k, v, fp, h, r => by
    simp only [nkey] at h
    cases h
    simp only [Rp] at r
    obtain ⟨rfl, rfl⟩ := r
    exact ⟨.none, rfl⟩
  | .int i, k, v, fp, h, r => by
    simp only [nkey] at h
    cases h
    simp only [Rp] at r
    obtain ⟨rfl, rfl⟩ := r
    exact ⟨.num i, rfl⟩
  | .tuple xs, k, v, fp, h, r => by
    simp only [nkey] at h
    obtain ⟨ks, e, rfl⟩ := Option.map_eq_some_iff.mp h
    simp only [Rp] at r
    obtain ⟨a, vs, rfl, hT, hr⟩ := r
    obtain ⟨h1, h2⟩ := rps_key xs ks vs fp e hr
    exact ⟨.tup hT.t h1, h2⟩
  | .bool _, _, _, _, h1, _ => by simp [nkey] at h1
  | .str _, _, _, _, h1, _ => by simp [nkey] at h1
  | .list _, _, _, _, h1, _ => by simp [nkey] at h1
  | .dict _, _, _, _, h1, _ => by simp [nkey] at h1
theorem rps_key : ∀ (ds : List D) (ks : List NestedKey) (vs : List V) (fp : List Addr), nkeys ds = some ks → Rps c H ds vs fp → KeyAll c.K H ks vs ∧ fp = []
  | [], ks, vs, fp, h, r => by
    simp only [nkeys] at h
    cases h
    simp only [Rps] at r
    obtain ⟨rfl, rfl⟩ := r
    exact ⟨.nil, rfl⟩
  | x :: xs, ks, vs, fp, h, r => by
    simp only [nkeys] at h
    split at h
    · rename_i k ks' e1 e2
      cases h
      simp only [Rps] at r
      obtain ⟨y, ys, f1, f2, rfl, rfl, r1, r2⟩ := r
      obtain ⟨h1, rfl⟩ := rp_key x _ _ _ e1 r1
      obtain ⟨h2, rfl⟩ := rps_key xs _ _ _ e2 r2
      exact ⟨.cons h1 h2, rfl⟩
    · cases h
end
end
/-- a key: an int, a text, a tuple of ints, Nones and such -/
def KeyOk (d : D) : Prop := (∃ k : Key, d = keyD k) ∨ ∃ (nk : NestedKey) (l : List NestedKey), nkey d = some nk ∧ nk = .tup l ∧ nk.depth ≤ 8
theorem isTuple_keyD (k : Key) : isTuple (keyD k) = false := by cases k <;> rfl
theorem isTuple_nkey {d : D} {l : List NestedKey} (h : nkey d = some (.tup l)) : isTuple d = true := by
  cases d <;> simp [nkey] at h
  rfl
theorem keyD_inj {a b : Key} (h : keyD a = keyD b) : a = b := by
  cases a <;> cases b <;> simp [keyD] at h <;> rw [h]
theorem rp_keyD {c : Zc} {H : Hp} {k : Key} {v : V} {fp : List Addr} (h : Rp c H (keyD k) v fp) : v = kV k ∧ fp = [] := by
  cases k with
  | inl i =>
    simp only [keyD, Rp] at h
    exact h
  | inr x =>
    simp only [keyD, Rp] at h
    exact h
theorem keyOk_fp {c : Zc} {H : Hp} {d : D} {v : V} {fp : List Addr} (h : KeyOk d) (r : Rp c H d v fp) : fp = [] := by
  rcases h with ⟨k, rfl⟩ | ⟨nk, l, h, _⟩
  · exact (rp_keyD r).2
  · exact (rp_key _ _ _ _ h r).2
/-! ### what a dict's object holds -/
def selX (bs : List Bool) (x : V) (xs : List V) : List V := List.zipWith (fun b x0 => cond b x x0) bs xs
section
variable {c : Zc} {H : Hp}
/-- the dict's entry at k -/
def Held (c : Zc) (H : Hp) (kvs : List (D × D)) (ys xs : List V) (gp : List Addr) (k d : D) (x : V) (fp : List Addr) : Prop :=
  ∃ A B ys1 y ys2 xs1 xs2 f1 f2, kvs = A ++ (k, d) :: B ∧ ys = ys1 ++ y :: ys2 ∧ xs = xs1 ++ x :: xs2 ∧ gp = f1 ++ (fp ++ f2) ∧ Rpk c H A ys1 xs1 f1 ∧ Rp c H k y [] ∧ Rp c H d x fp ∧ Rpk c H B ys2 xs2 f2
theorem Held.cons {k' d' k d : D} {y0 x0 x : V} {kvs : List (D × D)} {ys xs : List V} {f gp fp : List Addr} (rk : Rp c H k' y0 []) (rd : Rp c H d' x0 f) (h : Held c H kvs ys xs gp k d x fp) : Held c H ((k', d') :: kvs) (y0 :: ys) (x0 :: xs) (f ++ gp) k d x fp := by
  obtain ⟨A, B, ys1, y, ys2, xs1, xs2, f1, f2, rfl, rfl, rfl, rfl, h1, h2, h3, h4⟩ := h
  refine ⟨(k', d') :: A, B, y0 :: ys1, y, ys2, x0 :: xs1, xs2, f ++ f1, f2, rfl, rfl, rfl, by rw [List.append_assoc], ?_, h2, h3, h4⟩
  simp only [Rpk]
  exact ⟨y0, ys1, x0, xs1, f, f1, rfl, rfl, rfl, rk, rd, h1⟩
theorem Held.fits {k d : D} {x : V} {kvs : List (D × D)} {ys xs : List V} {gp fp : List Addr} (h : Held c H kvs ys xs gp k d x fp) : Rp c H d x fp ∧ (∀ b ∈ fp, b ∈ gp) ∧ (gp.Nodup → fp.Nodup) := by
  obtain ⟨A, B, ys1, y, ys2, xs1, xs2, f1, f2, rfl, rfl, rfl, rfl, h1, h2, h3, h4⟩ := h
  exact ⟨h3, fun b hb => List.mem_append_right _ (List.mem_append_left _ hb), fun n => (List.nodup_append.mp (List.nodup_append.mp n).2.1).1⟩
/-- what is found -/
def GetIs (c : Zc) (H : Hp) (kvs : List (D × D)) (ys xs : List V) (gp : List Addr) (k : D) (o : Option D) (r : Option V) : Prop := match o with
  | none => r = none
  | some d => ∃ x fp, r = some x ∧ Held c H kvs ys xs gp k d x fp
theorem GetIs.grow {c : Zc} {H : Hp} {kvs : List (D × D)} {ys xs : List V} {gp f : List Addr} {k k' d' : D} {y0 x0 : V} {o : Option D} {r : Option V} (h : GetIs c H kvs ys xs gp k o r) (rk : Rp c H k' y0 []) (rd : Rp c H d' x0 f) : GetIs c H ((k', d') :: kvs) (y0 :: ys) (x0 :: xs) (f ++ gp) k o r := by
  cases o with
  | none => exact h
  | some d =>
    obtain ⟨x, fp, h1, h2⟩ := h
    exact ⟨x, fp, h1, h2.cons rk rd⟩
theorem Held.head {k d : D} {y x : V} {kvs : List (D × D)} {ys xs : List V} {f gp : List Addr} (rk : Rp c H k y []) (rd : Rp c H d x f) (r : Rpk c H kvs ys xs gp) : Held c H ((k, d) :: kvs) (y :: ys) (x :: xs) (f ++ gp) k d x f :=
  ⟨[], kvs, [], y, ys, [], xs, [], gp, rfl, rfl, rfl, rfl, by simp [Rpk], rk, rd, r⟩
theorem find_dK {k0 : Key} : ∀ {kvs : List (D × D)} {kk : List Key} {ys xs : List V} {gp : List Addr}, kvs.map (·.1) = kk.map keyD → Rpk c H kvs ys xs gp → GetIs c H kvs ys xs gp (keyD k0) (kFind kvs (keyD k0)) (valV (kk.zip xs) k0)
  | [], kk, ys, xs, gp, e, r => by
    cases kk with
    | nil => rfl
    | cons j kk => cases e
  | p :: kvs, [], ys, xs, gp, e, r => by cases e
  | (k, d) :: kvs, j :: kk, ys, xs, gp, e, r => by
    rw [List.map_cons, List.map_cons] at e
    obtain ⟨e1, e2⟩ := List.cons.inj e
    simp only [Rpk] at r
    obtain ⟨y, ys', x, xs', f1, f2, rfl, rfl, rfl, h0, h1, h2⟩ := r
    by_cases hk : j = k0
    · have : k = keyD k0 := by rw [← hk]; exact e1
      subst this
      rw [kFind_pos rfl, List.zip_cons_cons, valV_pos hk]
      exact ⟨x, f1, rfl, .head h0 h1 h2⟩
    · have : (k, d).1 ≠ keyD k0 := fun z => hk (keyD_inj (e1.symm.trans z))
      rw [kFind_neg this, List.zip_cons_cons, valV_neg hk]
      exact (find_dK e2 h2).grow h0 h1
theorem find_dX {k : D} {nk : NestedKey} (hk : nkey k = some nk) : ∀ {kvs : List (D × D)} {rows : List Row} {ys xs : List V} {gp : List Addr}, (kvs.map (·.1)).map nkey = rows.map (fun r => some r.1) → xs = rows.map (fun r => r.2.2) → Rpk c H kvs ys xs gp → GetIs c H kvs ys xs gp k (kFind kvs k) (rowAt rows nk)
  | [], rows, ys, xs, gp, e, ex, r => by
    cases rows with
    | nil => rfl
    | cons j kk => cases e
  | p :: kvs, [], ys, xs, gp, e, ex, r => by cases e
  | (k', d) :: kvs, j :: rows, ys, xs, gp, e, ex, r => by
    simp only [List.map_cons] at e
    obtain ⟨e1, e2⟩ := List.cons.inj e
    simp only [Rpk] at r
    obtain ⟨y, ys', x, xs', f1, f2, rfl, rfl, rfl, h0, h1, h2⟩ := r
    rw [List.map_cons] at ex
    obtain ⟨e3, e4⟩ := List.cons.inj ex
    by_cases hj : j.1 = nk
    · have : k' = k := nkey_inj _ _ nk (by rw [e1, hj]) hk
      subst this
      rw [kFind_pos rfl]
      have : rowAt (j :: rows) nk = some j.2.2 := by simp [rowAt, List.find?_cons, hj]
      rw [this, ← e3]
      exact ⟨x, f1, rfl, .head h0 h1 h2⟩
    · have : (k', d).1 ≠ k := fun z => hj (Option.some.inj (e1.symm.trans ((congrArg nkey z).trans hk)))
      rw [kFind_neg this]
      have : rowAt (j :: rows) nk = rowAt rows nk := by simp [rowAt, List.find?_cons, hj]
      rw [this]
      exact (find_dX hk e2 e4 h2).grow h0 h1
theorem rpk_sel {k v : D} {x : V} {fpv : List Addr} (rv : Rp c H v x fpv) (nv : fpv.Nodup) : ∀ {kvs : List (D × D)} {ys xs : List V} {gp : List Addr}, (kvs.map (·.1)).Nodup → Rpk c H kvs ys xs gp → gp.Nodup → (∀ b ∈ gp, b ∉ fpv) →
    ∃ gp', Rpk c H (kRepl kvs k v) ys (selX (kSel kvs k) x xs) gp' ∧ (∀ b ∈ gp', b ∈ gp ∨ b ∈ fpv) ∧ gp'.Nodup ∧ (k ∉ kvs.map (·.1) → gp' = gp ∧ selX (kSel kvs k) x xs = xs)
  | [], ys, xs, gp, _, r, ng, _ => by
    simp only [Rpk] at r
    obtain ⟨rfl, rfl, rfl⟩ := r
    exact ⟨[], by simp [kRepl, kSel, selX, Rpk], (fun b hb => by cases hb), List.nodup_nil, fun _ => ⟨rfl, rfl⟩⟩
  | (k', d) :: kvs, ys, xs, gp, nk, r, ng, dj => by
    simp only [Rpk] at r
    obtain ⟨y, ys', x0, xs', f1, f2, rfl, rfl, rfl, h0, h1, h2⟩ := r
    rw [List.map_cons] at nk
    obtain ⟨nk1, nk2⟩ := List.nodup_cons.mp nk
    obtain ⟨ng1, ng2, ng3⟩ := List.nodup_append.mp ng
    obtain ⟨g', a1, a2, a3, a4⟩ := rpk_sel (k := k) rv nv nk2 h2 ng2 fun b hb => dj b (List.mem_append_right _ hb)
    by_cases e : k' = k
    · subst e
      obtain ⟨rfl, a5⟩ := a4 nk1
      refine ⟨fpv ++ g', ?_, fun b hb => ?_, ?_, fun z => (z (by simp)).elim⟩
      · have : kRepl ((k', d) :: kvs) k' v = (k', v) :: kRepl kvs k' v := by simp [kRepl]
        rw [this]
        have : selX (kSel ((k', d) :: kvs) k') x (x0 :: xs') = x :: selX (kSel kvs k') x xs' := by simp [selX, kSel]
        rw [this]
        simp only [Rpk]
        exact ⟨y, ys', x, _, fpv, g', rfl, rfl, rfl, h0, rv, a1⟩
      · rcases List.mem_append.mp hb with z | z
        · exact .inr z
        · exact .inl (List.mem_append_right _ z)
      · exact List.nodup_append.mpr ⟨nv, a3, fun b hb b' hb' z => dj b' (List.mem_append_right _ hb') (z ▸ hb)⟩
    · refine ⟨f1 ++ g', ?_, fun b hb => ?_, ?_, fun z => ?_⟩
      · have : kRepl ((k', d) :: kvs) k v = (k', d) :: kRepl kvs k v := by simp [kRepl, e]
        rw [this]
        have : selX (kSel ((k', d) :: kvs) k) x (x0 :: xs') = x0 :: selX (kSel kvs k) x xs' := by simp [selX, kSel, e]
        rw [this]
        simp only [Rpk]
        exact ⟨y, ys', x0, _, f1, g', rfl, rfl, rfl, h0, h1, a1⟩
      · rcases List.mem_append.mp hb with z | z
        · exact .inl (List.mem_append_left _ z)
        · exact (a2 b z).imp (List.mem_append_right _) id
      · refine List.nodup_append.mpr ⟨ng1, a3, fun b hb b' hb' z => ?_⟩
        rcases a2 b' hb' with q | q
        · exact ng3 b hb b' q z
        · exact dj b (List.mem_append_left _ hb) (z ▸ q)
      · rw [List.map_cons] at z
        obtain ⟨rfl, a5⟩ := a4 fun h => z (List.mem_cons_of_mem _ h)
        refine ⟨rfl, ?_⟩
        have : selX (kSel ((k', d) :: kvs) k) x (x0 :: xs') = x0 :: selX (kSel kvs k) x xs' := by simp [selX, kSel, e]
        rw [this, a5]
theorem rpk_snoc {k v : D} {y x : V} {fpv : List Addr} (rk : Rp c H k y []) (rv : Rp c H v x fpv) : ∀ {kvs : List (D × D)} {ys xs : List V} {gp : List Addr}, Rpk c H kvs ys xs gp → Rpk c H (kvs ++ [(k, v)]) (ys ++ [y]) (xs ++ [x]) (gp ++ fpv)
  | [], ys, xs, gp, r => by
    simp only [Rpk] at r
    obtain ⟨rfl, rfl, rfl⟩ := r
    simp only [List.nil_append, Rpk]
    exact ⟨y, [], x, [], fpv, [], rfl, rfl, by simp, rk, rv, rfl, rfl, rfl⟩
  | (k', d) :: kvs, ys, xs, gp, r => by
    simp only [Rpk] at r
    obtain ⟨y0, ys', x0, xs', f1, f2, rfl, rfl, rfl, h0, h1, h2⟩ := r
    simp only [List.cons_append, List.append_assoc, Rpk]
    exact ⟨y0, _, x0, _, f1, f2 ++ fpv, rfl, rfl, rfl, h0, h1, rpk_snoc rk rv h2⟩
theorem held_snoc {k v : D} {y x : V} {fpv : List Addr} (rk : Rp c H k y []) (rv : Rp c H v x fpv) {kvs : List (D × D)} {ys xs : List V} {gp : List Addr} (r : Rpk c H kvs ys xs gp) : Held c H (kvs ++ [(k, v)]) (ys ++ [y]) (xs ++ [x]) (gp ++ fpv) k v x fpv :=
  ⟨kvs, [], ys, y, [], xs, [], gp, [], rfl, rfl, rfl, by simp, r, rk, rv, by simp [Rpk]⟩
theorem rpk_len : ∀ {kvs : List (D × D)} {ys xs : List V} {gp : List Addr}, Rpk c H kvs ys xs gp → ys.length = kvs.length ∧ xs.length = kvs.length
  | [], _, _, _, r => by
    simp only [Rpk] at r
    obtain ⟨rfl, rfl, rfl⟩ := r
    exact ⟨rfl, rfl⟩
  | (k', d) :: kvs, ys, xs, gp, r => by
    simp only [Rpk] at r
    obtain ⟨y0, ys', x0, xs', f1, f2, rfl, rfl, rfl, h0, h1, h2⟩ := r
    obtain ⟨a, b⟩ := rpk_len h2
    simp [a, b]
theorem rpk_keys : ∀ {kvs : List (D × D)} {rows : List Row} {ys xs : List V} {gp : List Addr}, (kvs.map (·.1)).map nkey = rows.map (fun r => some r.1) → ys = rows.map (fun r => .ref r.2.1) → Rpk c H kvs ys xs gp → ∀ r ∈ rows, KeyAt c.K H r.1 (.ref r.2.1) ∧ ∀ w, r.1.hash w = hk r.1
  | [], rows, ys, xs, gp, e, ey, r => by
    cases rows with
    | nil => intro r hr; cases hr
    | cons j kk => cases e
  | p :: kvs, [], ys, xs, gp, e, ey, r => by cases e
  | (k', d) :: kvs, j :: rows, ys, xs, gp, e, ey, r => by
    simp only [List.map_cons] at e
    obtain ⟨e1, e2⟩ := List.cons.inj e
    simp only [Rpk] at r
    obtain ⟨y, ys', x, xs', f1, f2, rfl, rfl, rfl, h0, h1, h2⟩ := r
    rw [List.map_cons] at ey
    obtain ⟨e3, e4⟩ := List.cons.inj ey
    intro r hr
    rcases List.mem_cons.mp hr with rfl | hr
    · refine ⟨?_, fun w => nkey_hash w _ _ e1⟩
      rw [← e3]
      exact (rp_key _ _ _ _ e1 h0).1
    · exact rpk_keys e2 e4 h2 r hr
/-- all keys are of the kind of k -/
def Homog (kvs : List (D × D)) (k : D) : Prop := ∀ p ∈ kvs, isTuple p.1 = isTuple k
theorem x_at {a : Addr} {kvs : List (D × D)} {ys xs : List V} {gp : List Addr} {u : HO} (hu : DictU a (kvs.map (·.1)) ys xs u) (r : Rpk c H kvs ys xs gp) (ha : Rd H a u) {k : D} {nk : NestedKey} {l : List NestedKey} (hk : nkey k = some nk) (hl : nk = .tup l) (hg : Homog kvs k) :
    ∃ rows, XAt c.K H a rows ∧ ys = rows.map (fun r => .ref r.2.1) ∧ xs = rows.map (fun r => r.2.2) ∧ (kvs.map (·.1)).map nkey = rows.map (fun r => some r.1) ∧ rows.length = kvs.length ∧ (∀ r ∈ rows, r.1.depth ≤ 8 ∧ ∃ l, r.1 = .tup l) ∧ (rows.map (·.1)).Nodup := by
  have it : isTuple k = true := isTuple_nkey (by rw [hk, hl])
  rcases hu with ⟨kk, e, nd, el, rfl⟩ | ⟨rows, hne, e, hd, ey, ex, nd, rfl⟩
  · cases kvs with
    | nil =>
      cases kk with
      | nil =>
        simp only [Rpk] at r
        obtain ⟨rfl, rfl, rfl⟩ := r
        exact ⟨[], ⟨.inl ⟨rfl, ha⟩, List.nodup_nil, fun r hr => by cases hr⟩, rfl, rfl, rfl, rfl, (fun r hr => by cases hr), List.nodup_nil⟩
      | cons j kk => cases e
    | cons p kvs =>
      cases kk with
      | nil => cases e
      | cons j kk =>
        rw [List.map_cons, List.map_cons] at e
        have := hg p (List.mem_cons_self ..)
        rw [it, (List.cons.inj e).1, isTuple_keyD] at this
        cases this
  · have ks := rpk_keys e ey r
    refine ⟨rows, ⟨.inr ⟨hne, ha⟩, nd, fun r hr => ⟨(ks r hr).1, (hd r hr).1, (ks r hr).2⟩⟩, ey, ex, e, ?_, hd, nd⟩
    have := congrArg List.length e
    simpa using this.symm
theorem dK_at {a : Addr} {kvs : List (D × D)} {ys xs : List V} {u : HO} (hu : DictU a (kvs.map (·.1)) ys xs u) {k : Key} (hg : Homog kvs (keyD k)) : ∃ kk : List Key, kvs.map (·.1) = kk.map keyD ∧ kk.Nodup ∧ xs.length = kk.length ∧ u = .dK (kk.zip xs) := by
  rcases hu with h | ⟨rows, hne, e, hd, ey, ex, nd, rfl⟩
  · exact h
  · exfalso
    cases rows with
    | nil => exact hne rfl
    | cons j rows =>
      cases kvs with
      | nil => cases e
      | cons p kvs =>
        simp only [List.map_cons] at e
        obtain ⟨_, l, hl⟩ := hd j (List.mem_cons_self ..)
        have h1 := isTuple_nkey (d := p.1) (l := l) (by rw [(List.cons.inj e).1, hl])
        rw [hg p (List.mem_cons_self ..), isTuple_keyD] at h1
        cases h1
/-- what is held at a key -/
theorem get_dict {a : Addr} {kvs : List (D × D)} {ys xs : List V} {gp : List Addr} {u : HO} (hu : DictU a (kvs.map (·.1)) ys xs u) (r : Rpk c H kvs ys xs gp) (ha : Rd H a u) {k : D} {y : V} {fk : List Addr} (hk : KeyOk k) (rk : Rp c H k y fk) (hg : Homog kvs k) :
    ∃ o, XGet c.K H a y o ∧ GetIs c H kvs ys xs gp k (kFind kvs k) o := by
  rcases hk with ⟨j, rfl⟩ | ⟨nk, l, hk, hl, hd⟩
  · obtain ⟨kk, e, nd, el, rfl⟩ := dK_at hu hg
    obtain ⟨rfl, _⟩ := rp_keyD rk
    exact ⟨_, .inl (.inl ⟨_, j, ha, rfl, rfl⟩), find_dK e r⟩
  · obtain ⟨rows, hx, ey, ex, e, _⟩ := x_at hu r ha hk hl hg
    obtain ⟨ka, _⟩ := rp_key _ _ _ _ hk rk
    have hb : ∃ b, y = .ref b := by
      rw [hl] at ka
      cases ka
      exact ⟨_, rfl⟩
    obtain ⟨b, rfl⟩ := hb
    exact ⟨_, .inr ⟨rows, nk, b, hx, rfl, ⟨ka, hd, fun w => nkey_hash w _ _ hk⟩, rfl⟩, find_dX hk e ex r⟩
theorem sel_dK {k0 : Key} {x : V} : ∀ (kk : List Key) (xs : List V), (kk.zip xs).map (fun kv => if kv.1 = k0 then (kv.1, x) else kv) = kk.zip (selX (kk.map fun j => decide (j = k0)) x xs)
  | [], _ => rfl
  | j :: kk, [] => by simp [selX]
  | j :: kk, y :: xs => by
    rw [List.zip_cons_cons, List.map_cons, sel_dK kk xs]
    by_cases e : j = k0
    · simp [selX, e]
    · simp [selX, e]
theorem sel_same {k0 : Key} : ∀ {kvs : List (D × D)} {kk : List Key}, kvs.map (·.1) = kk.map keyD → kSel kvs (keyD k0) = kk.map fun j => decide (j = k0)
  | [], [], _ => rfl
  | [], _ :: _, e => by cases e
  | _ :: _, [], e => by cases e
  | p :: kvs, j :: kk, e => by
    rw [List.map_cons, List.map_cons] at e
    obtain ⟨e1, e2⟩ := List.cons.inj e
    have ih := sel_same (k0 := k0) e2
    unfold kSel at ih ⊢
    rw [List.map_cons, List.map_cons, ih]
    congr 1
    rw [e1]
    by_cases h : j = k0
    · simp [h]
    · have : keyD j ≠ keyD k0 := fun z => h (keyD_inj z)
      simp [h, this]
theorem sel_rows {k : D} {nk : NestedKey} (hk : nkey k = some nk) : ∀ {kvs : List (D × D)} {rows : List Row}, (kvs.map (·.1)).map nkey = rows.map (fun r => some r.1) → kSel kvs k = rows.map fun r => decide (r.1 = nk)
  | [], [], _ => rfl
  | [], _ :: _, e => by cases e
  | _ :: _, [], e => by cases e
  | p :: kvs, j :: rows, e => by
    simp only [List.map_cons] at e
    obtain ⟨e1, e2⟩ := List.cons.inj e
    have ih := sel_rows hk e2
    unfold kSel at ih ⊢
    rw [List.map_cons, List.map_cons, ih]
    congr 1
    by_cases h : j.1 = nk
    · have : p.1 = k := nkey_inj _ _ nk (by rw [e1, h]) hk
      simp [h, this]
    · have : p.1 ≠ k := fun z => h (Option.some.inj (e1.symm.trans ((congrArg nkey z).trans hk)))
      simp [h, this]
theorem sel_vals {nk : NestedKey} {x : V} : ∀ rows : List Row, (rows.map fun r => if r.1 = nk then (r.1, r.2.1, x) else r).map (fun r => r.2.2) = selX (rows.map fun r => decide (r.1 = nk)) x (rows.map fun r => r.2.2)
  | [] => rfl
  | r :: rows => by
    rw [List.map_cons, List.map_cons, sel_vals rows]
    by_cases h : r.1 = nk
    · simp [selX, h]
    · simp [selX, h]
theorem GetIs.isSome {kvs : List (D × D)} {ys xs : List V} {gp : List Addr} {k : D} {o : Option D} {r : Option V} (h : GetIs c H kvs ys xs gp k o r) : r.isSome = o.isSome := by
  cases o with
  | none => rw [show r = none from h]; rfl
  | some d =>
    obtain ⟨x, fp, h1, _⟩ := h
    rw [h1]
    rfl
theorem keys_nodup {a : Addr} {kvs : List (D × D)} {ys xs : List V} {u : HO} (hu : DictU a (kvs.map (·.1)) ys xs u) : (kvs.map (·.1)).Nodup := by
  rcases hu with ⟨kk, e, nd, el, rfl⟩ | ⟨rows, hne, e, hd, ey, ex, nd, rfl⟩
  · rw [e]
    exact List.Pairwise.map _ (fun a b hne z => hne (keyD_inj z)) nd
  · have : ((kvs.map (·.1)).map nkey).Nodup := by
      rw [e]
      rw [show (fun r : Row => some r.1) = some ∘ (fun r : Row => r.1) from rfl, ← List.map_map]
      exact List.Pairwise.map _ (fun a b hne z => hne (Option.some.inj z)) nd
    exact List.Pairwise.of_map _ (fun a b hne z => hne (congrArg nkey z)) this
/-- what is stored at a key -/
theorem put_dict {a : Addr} {kvs : List (D × D)} {ys xs : List V} {gp : List Addr} {u : HO} (hu : DictU a (kvs.map (·.1)) ys xs u) (r : Rpk c H kvs ys xs gp) (ha : H a = some u) (ng : gp.Nodup) {k v : D} {y x : V} {fk fpv : List Addr} (hk : KeyOk k) (rk : Rp c H k y fk) (hg : Homog kvs k)
    (rv : Rp c H v x fpv) (nv : fpv.Nodup) (dj : ∀ b ∈ gp, b ∉ fpv) (hl : kvs.length < 10000000) :
    ∃ u' ys' xs' gp', XPut c.K H a y x (upd H a u') ∧ DictU a ((kPut kvs k v).map (·.1)) ys' xs' u' ∧ Rpk c H (kPut kvs k v) ys' xs' gp' ∧ (∀ b ∈ gp', b ∈ gp ∨ b ∈ fpv) ∧ gp'.Nodup ∧ (kFind kvs k = none → Held c H (kPut kvs k v) ys' xs' gp' k v x fpv) ∧
      ∀ (Q : VK), (∀ d z gz, kFind kvs k = some d → Held c H kvs ys xs gp k d z gz → Q z H) → (kFind kvs k = none → Q x (upd H a u')) → XSet c.K H a y x Q := by
  have hk0 := hk
  have nk0 := keys_nodup hu
  have ef := keyOk_fp hk rk
  subst ef
  have mu : Mut (H a) := by rw [ha]; exact hu.not_fix.1
  rcases hk with ⟨j, rfl⟩ | ⟨nk, l, hk, hkl, hd⟩
  · obtain ⟨kk, e, nd, el, rfl⟩ := dK_at hu hg
    obtain ⟨rfl, _⟩ := rp_keyD rk
    have lk : kk.length = kvs.length := by simpa using (congrArg List.length e).symm
    have lz : (kk.zip xs).length = kvs.length := by rw [List.length_zip, el, Nat.min_self, lk]
    have hlt : (kk.zip xs).length < sizeLine := by rw [lz]; exact Nat.lt_of_lt_of_le hl (lim_ok (Nat.le_refl _))
    have gi := find_dK (c := c) (H := H) (k0 := j) e r
    have eS := gi.isSome
    have any : ((kk.zip xs).any fun kv => decide (kv.1 = j)) = (kFind kvs (keyD j)).isSome := by rw [valV_any, eS]
    refine ⟨.dK (putK (kk.zip xs) j x), ?_⟩
    have xs4 : ∀ Q : VK, (∀ d z gz, kFind kvs (keyD j) = some d → Held c H kvs ys xs gp (keyD j) d z gz → Q z H) → (kFind kvs (keyD j) = none → Q x (upd H a (.dK (putK (kk.zip xs) j x)))) → XSet c.K H a (kV j) x Q := fun Q q1 q2 => by
      refine .inl ⟨_, j, ha, rfl, hlt, fun z hz => ?_, fun hn => q2 ?_⟩
      · cases hf : kFind kvs (keyD j) with
        | none =>
          rw [hf] at gi
          rw [show valV (kk.zip xs) j = none from gi] at hz
          cases hz
        | some d =>
          rw [hf] at gi
          obtain ⟨z', fp, h1, h2⟩ := gi
          rw [h1] at hz
          cases hz
          exact q1 d _ fp hf h2
      · rw [hn] at eS
        cases hf : kFind kvs (keyD j) with
        | none => rfl
        | some d => rw [hf] at eS; cases eS
    cases hf : (kFind kvs (keyD j)).isSome with
    | true =>
      obtain ⟨gp', a1, a2, a3, _⟩ := rpk_sel (k := keyD j) rv nv nk0 r ng dj
      refine ⟨ys, selX (kSel kvs (keyD j)) x xs, gp', .inl (.inl ⟨_, j, ha, rfl, hlt, rfl⟩), .inl ⟨kk, ?_, nd, ?_, ?_⟩, ?_, a2, a3, (fun z => by rw [z] at hf; cases hf), xs4⟩
      · rw [kPut_keys, if_pos hf, e]
      · rw [sel_same e]
        simp [selX, el]
      · unfold putK
        rw [any, if_pos hf, sel_dK, sel_same e]
      · unfold kPut
        rw [if_pos hf]
        exact a1
    | false =>
      refine ⟨ys ++ [kV j], xs ++ [x], gp ++ fpv, .inl (.inl ⟨_, j, ha, rfl, hlt, rfl⟩), .inl ⟨kk ++ [j], ?_, ?_, ?_, ?_⟩, ?_, fun b hb => List.mem_append.mp hb, List.nodup_append.mpr ⟨ng, nv, fun b hb b' hb' z => dj b hb (z ▸ hb')⟩, (fun _ => by
        unfold kPut
        rw [if_neg (by rw [hf]; simp)]
        exact held_snoc rk rv r), xs4⟩
      · rw [kPut_keys, if_neg (by rw [hf]; simp), e, List.map_append]
        rfl
      · refine List.nodup_append.mpr ⟨nd, List.pairwise_singleton _ _, fun b hb b' hb' z => ?_⟩
        rw [List.mem_singleton.mp hb'] at z
        have : keyD j ∈ kvs.map (·.1) := by rw [e]; exact List.mem_map.mpr ⟨b, hb, by rw [z]⟩
        rw [kFind_mem.mpr this] at hf
        cases hf
      · rw [List.length_append, List.length_append, el]; rfl
      · unfold putK
        rw [any, if_neg (by rw [hf]; simp), List.zip_append el.symm]
        rfl
      · unfold kPut
        rw [if_neg (by rw [hf]; simp)]
        exact rpk_snoc rk rv r
  · obtain ⟨rows, hx, ey, ex, e, lr, hdl, ndr⟩ := x_at hu r (.inl ha) hk hkl hg
    obtain ⟨ka, _⟩ := rp_key _ _ _ _ hk rk
    have hb : ∃ b, y = .ref b := by
      rw [hkl] at ka
      cases ka
      exact ⟨_, rfl⟩
    obtain ⟨b, rfl⟩ := hb
    have xk : XKey c.K H nk (.ref b) := ⟨ka, hd, fun w => nkey_hash w _ _ hk⟩
    have gi := find_dX (c := c) (H := H) hk e ex r
    have eS := gi.isSome
    refine ⟨dX a (rowPut rows nk b x), ?_⟩
    have xs4 : ∀ Q : VK, (∀ d z gz, kFind kvs k = some d → Held c H kvs ys xs gp k d z gz → Q z H) → (kFind kvs k = none → Q x (upd H a (dX a (rowPut rows nk b x)))) → XSet c.K H a (.ref b) x Q := fun Q q1 q2 => by
      refine .inr ⟨rows, nk, b, hx, mu, rfl, xk, by omega, fun z hz => ?_, fun hn => q2 ?_⟩
      · cases hf : kFind kvs k with
        | none =>
          rw [hf] at gi
          rw [show rowAt rows nk = none from gi] at hz
          cases hz
        | some d =>
          rw [hf] at gi
          obtain ⟨z', fp, h1, h2⟩ := gi
          rw [h1] at hz
          cases hz
          exact q1 d _ fp hf h2
      · rw [hn] at eS
        cases hf : kFind kvs k with
        | none => rfl
        | some d => rw [hf] at eS; cases eS
    have dep : ∀ q ∈ rowPut rows nk b x, q.1.depth ≤ 8 ∧ ∃ l, q.1 = .tup l := fun q hq => by
      have : q.1 ∈ (rowPut rows nk b x).map (·.1) := List.mem_map.mpr ⟨q, hq, rfl⟩
      rw [rowPut_keys] at this
      have old : q.1 ∈ rows.map (·.1) → q.1.depth ≤ 8 ∧ ∃ l, q.1 = .tup l := fun z => by
        obtain ⟨q', hq', e'⟩ := List.mem_map.mp z
        rw [← e']
        exact hdl q' hq'
      split at this
      · exact old this
      · rcases List.mem_append.mp this with z | z
        · exact old z
        · rw [List.mem_singleton.mp z]
          exact ⟨hd, l, hkl⟩
    have nds : ((rowPut rows nk b x).map (·.1)).Nodup := by
      rw [rowPut_keys]
      split
      · exact ndr
      · rename_i hn
        refine List.nodup_append.mpr ⟨ndr, List.pairwise_singleton _ _, fun b hb b' hb' z => ?_⟩
        rw [List.mem_singleton.mp hb'] at z
        exact rowAt_none hn (z ▸ hb)
    cases hf : (kFind kvs k).isSome with
    | true =>
      rw [hf] at eS
      obtain ⟨gp', a1, a2, a3, _⟩ := rpk_sel (k := k) rv nv nk0 r ng dj
      refine ⟨ys, selX (kSel kvs k) x xs, gp', .inr ⟨rows, nk, b, hx, mu, rfl, xk, by omega, rfl⟩, .inr ⟨_, rowPut_ne, ?_, dep, ?_, ?_, nds, rfl⟩, ?_, a2, a3, (fun z => by rw [z] at hf; cases hf), xs4⟩
      · rw [kPut_keys, if_pos hf, e]
        rw [show (fun r : Row => some r.1) = some ∘ (fun r : Row => r.1) from rfl, ← List.map_map, ← List.map_map, rowPut_keys, if_pos eS]
      · unfold rowPut
        rw [if_pos eS, List.map_map, ey]
        refine List.map_congr_left fun q _ => ?_
        simp only [Function.comp]
        split <;> rfl
      · unfold rowPut
        rw [if_pos eS, sel_vals, sel_rows hk e, ex]
      · unfold kPut
        rw [if_pos hf]
        exact a1
    | false =>
      rw [hf] at eS
      refine ⟨ys ++ [.ref b], xs ++ [x], gp ++ fpv, .inr ⟨rows, nk, b, hx, mu, rfl, xk, by omega, rfl⟩, .inr ⟨_, rowPut_ne, ?_, dep, ?_, ?_, nds, rfl⟩, ?_, fun b hb => List.mem_append.mp hb, List.nodup_append.mpr ⟨ng, nv, fun b hb b' hb' z => dj b hb (z ▸ hb')⟩, (fun _ => by
        unfold kPut
        rw [if_neg (by rw [hf]; simp)]
        exact held_snoc rk rv r), xs4⟩
      · rw [kPut_keys, if_neg (by rw [hf]; simp), List.map_append, e]
        rw [show (fun r : Row => some r.1) = some ∘ (fun r : Row => r.1) from rfl, ← List.map_map, ← List.map_map, rowPut_keys, if_neg (by rw [eS]; simp), List.map_append]
        rw [List.map_cons, hk]
        rfl
      · unfold rowPut
        rw [if_neg (by rw [eS]; simp), List.map_append, ey]
        rfl
      · unfold rowPut
        rw [if_neg (by rw [eS]; simp), List.map_append, ex]
        rfl
      · unfold kPut
        rw [if_neg (by rw [hf]; simp)]
        exact rpk_snoc rk rv r
end
end Z
set_option Elab.async false
set_option linter.all false
set_option maxRecDepth 100000
set_option maxHeartbeats 4000000
/-! Z36: dicts over data: d[k], d.get(k), in, d[k] = v, setdefault, len; walks of dicts that never change any more. -/
namespace Z
open PySem PySem.Spec PyProof.Rows L2
def plainK (kvs : List (D × D)) : Prop := isSrc kvs = false ∧ isFrz kvs = false ∧ isFrd kvs = false
theorem plainK_nil : plainK [] := ⟨rfl, rfl, rfl⟩
theorem plainK_of {kvs : List (D × D)} (h : ∀ p ∈ kvs, KeyOk p.1) : plainK kvs := by
  cases kvs with
  | nil => exact plainK_nil
  | cons p kvs =>
    have := h p (List.mem_cons_self ..)
    obtain ⟨k, v⟩ := p
    have hk : (∀ b, k ≠ .bool b) ∧ k ≠ .none := by
      rcases this with ⟨j, e⟩ | ⟨nk, l, e1, e2, _⟩
      · constructor
        · rintro b rfl
          cases j <;> cases e
        · rintro rfl
          cases j <;> cases e
      · constructor
        · rintro b rfl
          simp [nkey] at e1
        · rintro rfl
          simp [nkey] at e1
          rw [e2] at e1
          cases e1
    cases k with
    | none => exact (hk.2 rfl).elim
    | bool b => exact (hk.1 b rfl).elim
    | _ => exact ⟨by cases kvs <;> rfl, rfl, rfl⟩
/-- a dict, of either kind -/
def IsDc (d : D) (kvs : List (D × D)) : Prop := (d = .dict kvs ∧ plainK kvs) ∨ d = frdD kvs
section
variable {c : Zc} {H : Hp}
theorem rp_dict {kvs : List (D × D)} (hp : plainK kvs) {v : V} {fp : List Addr} : Rp c H (.dict kvs) v fp ↔ ∃ a ys xs gp, v = .ref a ∧ fp = a :: gp ∧ Rpk c H kvs ys xs gp ∧ ∃ u, H a = some u ∧ DictU a (kvs.map (·.1)) ys xs u := by
  simp only [Rp]
  rw [if_neg (by rw [hp.1]; simp), if_neg (by rw [hp.2.1]; simp), if_neg (by rw [hp.2.2]; simp)]
theorem IsDc.rp {d : D} {kvs : List (D × D)} (l : IsDc d kvs) {v : V} {fp : List Addr} (r : Rp c H d v fp) :
    ∃ a ys xs gp u, v = .ref a ∧ Rd H a u ∧ DictU a (kvs.map (·.1)) ys xs u ∧ Rpk c H kvs ys xs gp ∧ (∀ b ∈ gp, b ∈ fp) ∧ (fp.Nodup → gp.Nodup) := by
  rcases l with ⟨rfl, hp⟩ | rfl
  · obtain ⟨a, ys, xs, gp, rfl, rfl, h1, u, h2, h3⟩ := (rp_dict hp).mp r
    exact ⟨a, ys, xs, gp, u, rfl, .inl h2, h3, h1, fun b hb => List.mem_cons_of_mem _ hb, fun n => (List.nodup_cons.mp n).2⟩
  · obtain ⟨a, ys, xs, rfl, rfl, ⟨o, u, h2, h3⟩, h1⟩ := rp_frd.mp r
    exact ⟨a, ys, xs, [], u, rfl, .inr ⟨o, h2⟩, h3, h1, fun b hb => hb, fun n => n⟩
end
section
variable {K : PySem.W.Frag} {S : Option (Addr × Addr)}
/-! ### reads -/
def dKGet (m mk : DM) : DM := fun ρ R => m ρ fun d => ∃ kvs, IsDc d kvs ∧ mk ρ fun k => KeyOk k ∧ Homog kvs k ∧ ∃ v, kFind kvs k = some v ∧ R v
def dKGet1 (m mk : DM) : DM := fun ρ R => m ρ fun d => ∃ kvs, IsDc d kvs ∧ mk ρ fun k => KeyOk k ∧ Homog kvs k ∧ R ((kFind kvs k).getD .none)
def dKGet2 (m mk mx : DM) : DM := fun ρ R => m ρ fun d => ∃ kvs, IsDc d kvs ∧ mk ρ fun k => KeyOk k ∧ Homog kvs k ∧ mx ρ fun x => R ((kFind kvs k).getD x)
def dKIn (neg : Bool) (mk m : DM) : DM := fun ρ R => mk ρ fun k => KeyOk k ∧ m ρ fun d => ∃ kvs, IsDc d kvs ∧ Homog kvs k ∧ R (.bool (xor neg (kFind kvs k).isSome))
theorem de_kget {td ty : TE} {m mk : DM} {U V : List Nat} (h1 : DE K S td m U) (h2 : DE K S ty mk V) : DE K S (tXGet K td ty) (dKGet m mk) U := fun G H ρ σ fps E R hm Q q =>
  h1 G H ρ σ fps E _ hm _ fun d v H1 fp hR e1 s1 r1 n1 f1 => by
    obtain ⟨kvs, l, hR⟩ := hR
    refine h2 G H1 ρ σ fps (E.step e1 s1) _ hR _ fun k y H2 fk hR2 e2 s2 rk nk fk' => ?_
    obtain ⟨hk, hg, x, hf, hR2⟩ := hR2
    obtain ⟨a, ys, xs, gp, u, rfl, ha, hu, hr, sub, nd⟩ := l.rp (r1.ext n1 e2 s1)
    obtain ⟨o, g, gi⟩ := get_dict hu hr ha hk rk hg
    rw [hf] at gi
    obtain ⟨z, fz, rfl, hh⟩ := gi
    obtain ⟨rz, sz, ndz⟩ := hh.fits
    exact ⟨a, z, rfl, g, q x z H2 fz hR2 (e1.trans e2) s2 rz (fun b hb => n1 b (sub b (sz b hb))) (f1.part (fun b hb => sub b (sz b hb)) fun n => ndz (nd n))⟩
theorem de_kin {neg : Bool} {td ty : TE} {m mk : DM} {U V : List Nat} (h2 : DE K S ty mk V) (h1 : DE K S td m U) : DE K S (tXIn K neg ty td) (dKIn neg mk m) [] := fun G H ρ σ fps E R hm Q q =>
  h2 G H ρ σ fps E _ hm _ fun k y H1 fk hR e1 s1 rk nk fk' => by
    obtain ⟨hk, hR⟩ := hR
    refine h1 G H1 ρ σ fps (E.step e1 s1) _ hR _ fun d v H2 fp hR2 e2 s2 r1 n1 f1 => ?_
    obtain ⟨kvs, l, hg, hR2⟩ := hR2
    obtain ⟨a, ys, xs, gp, u, rfl, ha, hu, hr, sub, nd⟩ := l.rp r1
    obtain ⟨o, g, gi⟩ := get_dict hu hr ha hk (rk.ext nk e2 s1) hg
    refine ⟨a, o, rfl, g, ?_⟩
    rw [gi.isSome]
    exact q _ _ H2 [] hR2 (e1.trans e2) s2 (bl_rp H2) .nil (.fresh (fun b hb => by cases hb) List.nodup_nil)
/-! ### stores -/
/-- the slot holds a dict of its own -/
def ownK (s : Option Sl) (k : List (D × D) → Prop) : Prop := ∃ kvs, s = some (.own (.dict kvs)) ∧ plainK kvs ∧ k kvs
/-- an object of a slot's own is changed -/
theorem rpk_there {c : Zc} {H : Hp} {kvs : List (D × D)} {ys xs : List V} {gp : List Addr} (h : Rpk c H kvs ys xs gp) {a : Addr} {o : HO} {H' : Hp} (e : H' = upd H a o) (na : a ∉ gp) (nf : ∃ u, H a = some u ∧ ¬ Fix u) : Rpk c H' kvs ys xs gp := by
  subst e
  obtain ⟨u, hu, hf⟩ := nf
  refine h.mono (fun b w hb hfb => ?_) _ _ _ _ fun b hb => upd_ne fun z => na (z ▸ hb)
  rw [upd_ne fun z => by rw [z, hu] at hb; cases hb; exact hf hfb]
  exact hb
theorem DictU.notFix {a : Addr} {ks : List D} {ys xs : List V} {u : HO} (h : DictU a ks ys xs u) : ¬ Fix u := fun hf => by
  obtain ⟨_, n1, n2⟩ := h.not_fix
  cases u with
  | tup zs => exact n1 zs rfl
  | frz o z => exact n2 o z rfl
  | _ => exact hf
theorem plainK_put {kvs : List (D × D)} {k v : D} (hp : plainK kvs) (hk : KeyOk k) (hg : Homog kvs k) : plainK (kPut kvs k v) := by
  cases kvs with
  | nil =>
    have e : kPut [] k v = [(k, v)] := by unfold kPut; rw [if_neg (by rw [kFind_nil]; simp)]; rfl
    rw [e]
    exact plainK_of fun p hp => by rw [List.mem_singleton.mp hp]; exact hk
  | cons p r =>
    obtain ⟨k', v'⟩ := p
    have hh := hg (k', v') (List.mem_cons_self ..)
    have nk : (∀ b, k' ≠ .bool b) ∧ k' ≠ .none ∨ isSrc ((k', v') :: r) = false ∧ isFrz ((k', v') :: r) = false ∧ isFrd ((k', v') :: r) = false := .inr hp
    -- the first key stays
    have first : ∃ v2 r2, kPut ((k', v') :: r) k v = (k', v2) :: r2 ∧ (v2 = v' ∧ (r2 = [] → r = []) ∨ k' = k) := by
      unfold kPut
      split
      · by_cases e : k' = k
        · exact ⟨v, _, by simp [kRepl, e]; rfl, .inr e⟩
        · refine ⟨v', _, by simp [kRepl, e]; rfl, .inl ⟨rfl, fun z => ?_⟩⟩
          exact List.map_eq_nil_iff.mp z
      · exact ⟨v', r ++ [(k, v)], rfl, .inl ⟨rfl, fun z => by simp at z⟩⟩
    obtain ⟨v2, r2, e, h2⟩ := first
    rw [e]
    rcases h2 with ⟨rfl, hr⟩ | rfl
    · obtain ⟨p1, p2, p3⟩ := hp
      refine ⟨?_, ?_, ?_⟩
      · cases r2 with
        | nil =>
          rw [hr rfl] at p1
          exact p1
        | cons q r2 => cases k' <;> cases v2 <;> rfl
      · cases k' with
        | bool b => cases b <;> cases v2 <;> first | rfl | exact p2
        | _ => rfl
      · cases k' with
        | bool b => cases b <;> cases v2 <;> first | rfl | exact p3
        | _ => rfl
    · have hk' : (∀ b, k' ≠ .bool b) ∧ k' ≠ .none := by
        rcases hk with ⟨j, e⟩ | ⟨nk, l, e1, e2, _⟩
        · constructor
          · rintro b rfl
            cases j <;> cases e
          · rintro rfl
            cases j <;> cases e
        · constructor
          · rintro b rfl
            simp [nkey] at e1
          · rintro rfl
            simp [nkey] at e1
            rw [e2] at e1
            cases e1
      cases k' with
      | none => exact (hk'.2 rfl).elim
      | bool b => exact (hk'.1 b rfl).elim
      | _ => exact ⟨by cases r2 <;> rfl, rfl, rfl⟩
def sKPut (i : Nat) (mk mv : DM) : DMS := fun ρ R => mv ρ fun v => ownK ρ[i]? fun kvs => mk ρ fun k => KeyOk k ∧ Homog kvs k ∧ kvs.length < 10000000 ∧ R.nx (ρ.set i (.own (.dict (kPut kvs k v))))
theorem ds_kput (i : Nat) {ty tv : TE} {mk mv : DM} {U : List Nat} (hv : DE K S tv mv []) (hk : DE K S ty mk U) : DS K S (sXPut K (tVar i) ty tv) (sKPut i mk mv) [i] := fun G H ρ σ fps E R hm D d => by
  refine hv G H ρ σ fps E _ hm _ fun vd x H1 fpv hR e1 s1 rv nv fv => ?_
  have E1 := E.step e1 s1
  obtain ⟨kvs, hi, hp, hm2⟩ := hR
  obtain ⟨v, ev, r, n, nd, g⟩ := E1.ok i _ hi
  refine ⟨v, ev, hk G H1 ρ σ fps E1 _ hm2 _ fun k y H2 fk hR2 e2 s2 rk nk fyk => ?_⟩
  obtain ⟨hk, hg, hl, hN⟩ := hR2
  have E2 := E1.step e2 s2
  obtain ⟨a, ys, xs, gp, rfl, ef, hr, u, ha, hu⟩ := (rp_dict hp).mp (r.ext n e2 s1)
  have il : i < ρ.length := (List.getElem?_eq_some_iff.mp hi).1
  have nd' : (a :: gp).Nodup := ef ▸ nd
  have offv : ∀ b ∈ a :: gp, b ∉ fpv := fun b hb z => by
    obtain ⟨o, ho, _⟩ := E.thereAt il b (by rw [ef]; exact hb)
    rw [fv.off b z] at ho
    cases ho
  obtain ⟨u', ys', xs', gp', xp, hu', hr', sub', nd'', _, _⟩ := put_dict hu hr ha (List.nodup_cons.mp nd').2 hk rk hg (rv.ext nv e2 s1) (fv.2 rfl) (fun b hb => offv b (List.mem_cons_of_mem _ hb)) hl
  have na : a ∉ gp' := fun z => (sub' a z).elim (List.nodup_cons.mp nd').1 (offv a (List.mem_cons_self ..))
  refine ⟨a, _, rfl, xp, d.nx _ σ _ _ hN (E2.change (a := a) (fp' := a :: gp') hi ev (by rw [ef]; exact List.mem_cons_self ..) ((rp_dict (plainK_put hp hk hg)).mpr ⟨a, ys', xs', gp', rfl, rfl, rpk_there hr' rfl na ⟨u, ha, hu.notFix⟩, u', upd_same, hu'⟩) (fun b hb => ?_) (List.nodup_cons.mpr ⟨na, nd''⟩)) ⟨rfl, fun _ _ => rfl⟩⟩
  rcases List.mem_cons.mp hb with z | hb
  · rw [z, ef]
    exact .inl (List.mem_cons_self ..)
  · rcases sub' b hb with z | z
    · rw [ef]
      exact .inl (List.mem_cons_of_mem _ z)
    · refine .inr ⟨back_none E.ext (fv.off b z) (nv b z), nv b z, fun j hj hb' => ?_⟩
      obtain ⟨o, ho, _⟩ := E.thereAt hj b hb'
      rw [fv.off b z] at ho
      cases ho
/-- x = d.setdefault(k, e), e without lists of its own -/
def sKSetd (j i : Nat) (mk mx : DM) : DMS := fun ρ R => ownK ρ[i]? fun kvs => mk ρ fun k => KeyOk k ∧ Homog kvs k ∧ kvs.length < 10000000 ∧ mx ρ fun x => solid x = true ∧
  match kFind kvs k with
  | some v => solid v = true ∧ R.nx (ρ.set j (.own v))
  | none => R.nx ((ρ.set i (.own (.dict (kPut kvs k x)))).set j (.own x))
/-! ### d.setdefault(k, []).append(e) -/
theorem Held.keys {c : Zc} {H : Hp} {kvs : List (D × D)} {ys xs : List V} {gp : List Addr} {k d v : D} {x : V} {fp : List Addr} (h : Held c H kvs ys xs gp k d x fp) (nd : (kvs.map (·.1)).Nodup) : (kRepl kvs k v).map (·.1) = kvs.map (·.1) := kRepl_keys ..
def sKSetApp (i : Nat) (mk me : DM) : DMS := fun ρ R => ownK ρ[i]? fun kvs => mk ρ fun k => KeyOk k ∧ Homog kvs k ∧ kvs.length < 10000000 ∧
  match kFind kvs k with
  | some d => ∃ ds, d = .list ds ∧ ds.length < 10000000 ∧ me ρ fun e => solid e = true ∧ R.nx (ρ.set i (.own (.dict (kPut kvs k (.list (ds ++ [e]))))))
  | none => me (ρ.set i (.own (.dict (kPut kvs k (.list []))))) fun e => solid e = true ∧ R.nx (ρ.set i (.own (.dict (kPut kvs k (.list [e])))))
end
end Z
set_option Elab.async false
set_option linter.all false
set_option maxRecDepth 100000
set_option maxHeartbeats 4000000
/-! Z37: what is made and then never changed: the ghost of freezing; walks of dicts that never change any more. -/
namespace Z
open PySem PySem.Spec PyProof.Rows L2
/-! ### freezing -/
def Chg (u : HO) : Prop := (∃ xs, u = .lst xs) ∨ (∃ kvs, u = .dK kvs) ∨ ∃ φ, u = .ext φ
theorem Chg.notFix {u : HO} (h : Chg u) : ¬ Fix u := by
  rcases h with ⟨xs, rfl⟩ | ⟨kvs, rfl⟩ | ⟨φ, rfl⟩ <;> exact id
def FrzBy (L : List Addr) (H H' : Hp) : Prop := ∀ b, (b ∉ L → H' b = H b) ∧ (b ∈ L → ∃ o u, H b = some u ∧ Chg u ∧ H' b = some (.frz o u))
theorem FrzBy.tk {L : List Addr} {H H' : Hp} (h : FrzBy L H H') : Tk H H' := fun b o hb hf => by
  by_cases z : b ∈ L
  · obtain ⟨ob, u, h1, h2, _⟩ := (h b).2 z
    rw [h1] at hb
    cases hb
    exact (h2.notFix hf).elim
  · rw [(h b).1 z]
    exact hb
theorem inv_frz {X : Cx} {pins : List (Addr × Obj)} {σ : L2.St} {H : Hp} {s : Shared} (I : Inv X pins σ H s) : ∀ L : List Addr, (∀ a ∈ L, ∃ u, H a = some u ∧ Chg u) → ∃ H', Inv X pins σ H' s ∧ FrzBy L H H'
  | [], _ => ⟨H, I, fun b => ⟨fun _ => rfl, fun h => by cases h⟩⟩
  | a :: L, h => by
    obtain ⟨H1, I1, f1⟩ := inv_frz I L fun b hb => h b (List.mem_cons_of_mem _ hb)
    by_cases z : a ∈ L
    · refine ⟨H1, I1, fun b => ⟨fun hb => (f1 b).1 fun q => hb (List.mem_cons_of_mem _ q), fun hb => (f1 b).2 ?_⟩⟩
      rcases List.mem_cons.mp hb with rfl | hb
      · exact z
      · exact hb
    · obtain ⟨u, hu, cu⟩ := h a (List.mem_cons_self ..)
      have h1a : H1 a = some u := by rw [(f1 a).1 z]; exact hu
      have ok := I1.hok a _ h1a
      have new : ∃ ob, s.heap.get? a = some ob ∧ ∀ H2, ObjOk X.prog X.w H2 s.heap a u := by
        rcases cu with ⟨xs, rfl⟩ | ⟨kvs, rfl⟩ | ⟨φ, rfl⟩
        · have ok' := ok
          obtain ⟨_, its, n, _, e⟩ := ok'
          exact ⟨_, e, fun _ => ok⟩
        · have ok' := ok
          obtain ⟨_, _, vs, _, o, es, ep, e, _⟩ := ok'
          exact ⟨o, e, fun _ => ok⟩
        · have ok' := ok
          obtain ⟨_, ⟨o, e⟩, _⟩ := ok'
          exact ⟨o, e, fun _ => ok⟩
      obtain ⟨ob, eo, ok2⟩ := new
      have mu : Mut (H1 a) := by
        rw [h1a]
        rcases cu with ⟨xs, rfl⟩ | ⟨kvs, rfl⟩ | ⟨φ, rfl⟩ <;> exact True.intro
      refine ⟨upd H1 a (.frz ob u), Inv.write (x := a) (e := a) (h' := s.heap) (t' := s.toks) I1 mu (.inl rfl) (fun b w _ k => k) ⟨_, eo⟩ ⟨eo, ok2 _⟩, fun b => ⟨fun hb => ?_, fun hb => ?_⟩⟩
      · rw [upd_ne fun q => hb (by rw [q]; exact List.mem_cons_self ..)]
        exact (f1 b).1 fun q => hb (List.mem_cons_of_mem _ q)
      · by_cases e : b = a
        · subst e
          exact ⟨ob, u, hu, cu, upd_same⟩
        · rw [upd_ne e]
          exact (f1 b).2 ((List.mem_cons.mp hb).resolve_left e)
def tFrzL (ts : TS) : TS := fun D σ H => ∃ L : List Addr, (∀ a ∈ L, ∃ u, H a = some u ∧ Chg u) ∧ ∀ H', FrzBy L H H' → ts D σ H'
theorem ps_frzL {X : Cx} {st : Stmt} {ts : TS} (h : PS X st ts) : PS X st (tFrzL ts) := ⟨fun pins s σ H D I w => by
  obtain ⟨L, hL, q⟩ := w
  obtain ⟨H', I', f⟩ := inv_frz I L hL
  exact h.run pins s σ H' D I' (q H' f)⟩
mutual
/-- nothing in it changes any more -/
def fz : D → D
  | .none => .none
  | .bool b => .bool b
  | .int i => .int i
  | .str x => .str x
  | .list ds => frzD (fzs ds)
  | .tuple ds => .tuple (fzs ds)
  | .dict kvs => if isSrc kvs = true then .dict kvs else if isFrz kvs = true then .dict kvs else if isFrd kvs = true then .dict kvs else frdD (fzk kvs)
def fzs : List D → List D
  | [] => []
  | d :: ds => fz d :: fzs ds
def fzk : List (D × D) → List (D × D)
  | [] => []
  | (k, d) :: ds => (k, fz d) :: fzk ds
end
theorem fzk_map : ∀ ds : List (D × D), fzk ds = ds.map fun p => (p.1, fz p.2)
  | [] => by simp [fzk]
  | (k, d) :: ds => by simp [fzk, fzk_map ds]
theorem fz_dict {kvs : List (D × D)} (h : plainK kvs) : fz (.dict kvs) = frdD (kvs.map fun p => (p.1, fz p.2)) := by
  simp only [fz, fzk_map]
  rw [if_neg (by rw [h.1]; simp), if_neg (by rw [h.2.1]; simp), if_neg (by rw [h.2.2]; simp)]
section
variable {c : Zc} {H H' : Hp} {L : List Addr}
mutual
theorem Rp.fz (f : FrzBy L H H') : ∀ (d : D) (v : V) (fp : List Addr), Rp c H d v fp → (∀ a ∈ fp, a ∈ L) → Rp c H' (Z.fz d) v []
  | .none, v, fp, h, _ => by simp only [Z.fz, Rp] at h ⊢; exact ⟨h.1, trivial⟩
  | .bool b, v, fp, h, _ => by simp only [Z.fz, Rp] at h ⊢; exact ⟨h.1, trivial⟩
  | .int i, v, fp, h, _ => by simp only [Z.fz, Rp] at h ⊢; exact ⟨h.1, trivial⟩
  | .str x, v, fp, h, _ => by simp only [Z.fz, Rp] at h ⊢; exact ⟨h.1, trivial⟩
  | .list ds, v, fp, h, k => by
    simp only [Z.fz]
    simp only [Rp] at h
    obtain ⟨a, xs, gp, rfl, rfl, h1, h2⟩ := h
    obtain ⟨o, u, hu, _, hf⟩ := (f a).2 (k a (List.mem_cons_self ..))
    rw [h1] at hu
    cases hu
    exact rp_frz.mpr ⟨a, xs, rfl, rfl, ⟨o, hf⟩, Rps.fz f ds xs gp h2 fun b hb => k b (List.mem_cons_of_mem _ hb)⟩
  | .tuple ds, v, fp, h, k => by
    simp only [Z.fz]
    simp only [Rp] at h ⊢
    obtain ⟨a, xs, rfl, h1, h2⟩ := h
    exact ⟨a, xs, rfl, f.tk.sqd h1, Rps.fz f ds xs fp h2 k⟩
  | .dict kvs, v, fp, h, k => by
    by_cases c1 : isSrc kvs = true
    · simp only [Z.fz, if_pos c1]
      simp only [Rp, if_pos c1] at h ⊢
      obtain ⟨p, h1, h2, _⟩ := h
      exact ⟨p, h1, h2, trivial⟩
    by_cases c2 : isFrz kvs = true
    · simp only [Z.fz, if_neg c1, if_pos c2]
      have e : fp = [] := by
        simp only [Rp, if_neg c1, if_pos c2] at h
        obtain ⟨a, y0, x0, ys, xs, _, e, _⟩ := h
        exact e
      subst e
      exact h.mono f.tk _ _ _ fun b hb => by cases hb
    by_cases c3 : isFrd kvs = true
    · simp only [Z.fz, if_neg c1, if_neg c2, if_pos c3]
      have e : fp = [] := by
        simp only [Rp, if_neg c1, if_neg c2, if_pos c3] at h
        obtain ⟨a, y0, x0, ys, xs, _, e, _⟩ := h
        exact e
      subst e
      exact h.mono f.tk _ _ _ fun b hb => by cases hb
    simp only [Z.fz, if_neg c1, if_neg c2, if_neg c3]
    simp only [Rp, if_neg c1, if_neg c2, if_neg c3] at h
    obtain ⟨a, ys, xs, gp, rfl, rfl, h1, u, hu, hd⟩ := h
    obtain ⟨o, u', hu', _, hf⟩ := (f a).2 (k a (List.mem_cons_self ..))
    rw [hu] at hu'
    cases hu'
    refine rp_frd.mpr ⟨a, ys, xs, rfl, rfl, ⟨o, u, hf, ?_⟩, Rpk.fz f kvs ys xs gp h1 fun b hb => k b (List.mem_cons_of_mem _ hb)⟩
    have e : (fzk kvs).map (·.1) = kvs.map (·.1) := by
      rw [fzk_map, List.map_map]
      rfl
    rw [e]
    exact hd
theorem Rps.fz (f : FrzBy L H H') : ∀ (ds : List D) (xs : List V) (fp : List Addr), Rps c H ds xs fp → (∀ a ∈ fp, a ∈ L) → Rps c H' (fzs ds) xs []
  | [], xs, fp, h, _ => by
    simp only [Rps, fzs] at h ⊢
    exact ⟨h.1, trivial⟩
  | d :: ds, xs, fp, h, k => by
    simp only [Rps, fzs] at h ⊢
    obtain ⟨x, ys, f1, f2, rfl, rfl, h1, h2⟩ := h
    exact ⟨x, ys, [], [], rfl, rfl, Rp.fz f d x f1 h1 fun a ha => k a (List.mem_append_left _ ha), Rps.fz f ds ys f2 h2 fun a ha => k a (List.mem_append_right _ ha)⟩
theorem Rpk.fz (f : FrzBy L H H') : ∀ (ds : List (D × D)) (ys xs : List V) (fp : List Addr), Rpk c H ds ys xs fp → (∀ a ∈ fp, a ∈ L) → Rpk c H' (fzk ds) ys xs []
  | [], ys, xs, fp, h, _ => by
    simp only [Rpk, fzk] at h ⊢
    exact ⟨h.1, h.2.1, trivial⟩
  | (e, d) :: ds, ys, xs, fp, h, k => by
    simp only [Rpk, fzk] at h ⊢
    obtain ⟨y, ys', x, xs', f1, f2, rfl, rfl, rfl, h0, h1, h2⟩ := h
    exact ⟨y, ys', x, xs', [], [], rfl, rfl, rfl, h0.mono f.tk _ _ _ fun b hb => (by cases hb), Rp.fz f d x f1 h1 fun a ha => k a (List.mem_append_left _ ha), Rpk.fz f ds ys' xs' f2 h2 fun a ha => k a (List.mem_append_right _ ha)⟩
end
mutual
theorem Rp.chg : ∀ (d : D) (v : V) (fp : List Addr), Rp c H d v fp → ∀ a ∈ fp, ∃ u, H a = some u ∧ Chg u
  | .none, _, _, h => by simp only [Rp] at h; rw [h.2]; intro a ha; cases ha
  | .bool b, _, _, h => by simp only [Rp] at h; rw [h.2]; intro a ha; cases ha
  | .int i, _, _, h => by simp only [Rp] at h; rw [h.2]; intro a ha; cases ha
  | .str x, _, _, h => by simp only [Rp] at h; rw [h.2]; intro a ha; cases ha
  | .list ds, v, fp, h => by
    simp only [Rp] at h
    obtain ⟨a, xs, gp, rfl, rfl, h1, h2⟩ := h
    intro b hb
    rcases List.mem_cons.mp hb with rfl | hb
    · exact ⟨_, h1, .inl ⟨_, rfl⟩⟩
    · exact Rps.chg ds xs gp h2 b hb
  | .tuple ds, v, fp, h => by
    simp only [Rp] at h
    obtain ⟨a, xs, rfl, h1, h2⟩ := h
    exact Rps.chg ds xs fp h2
  | .dict kvs, v, fp, h => by
    simp only [Rp] at h
    split at h
    · obtain ⟨p, _, _, e⟩ := h
      rw [e]; intro a ha; cases ha
    split at h
    · obtain ⟨a, y0, x0, ys, xs, _, e, _⟩ := h
      rw [e]; intro a ha; cases ha
    split at h
    · obtain ⟨a, y0, x0, ys, xs, _, e, _⟩ := h
      rw [e]; intro a ha; cases ha
    · obtain ⟨a, ys, xs, gp, rfl, rfl, h1, u, e4, hu⟩ := h
      intro b hb
      rcases List.mem_cons.mp hb with rfl | hb
      · refine ⟨u, e4, ?_⟩
        rcases hu with ⟨kk, _, _, _, rfl⟩ | ⟨rows, _, _, _, _, _, _, rfl⟩
        · exact .inr (.inl ⟨_, rfl⟩)
        · exact .inr (.inr ⟨_, rfl⟩)
      · exact Rpk.chg kvs ys xs gp h1 b hb
theorem Rps.chg : ∀ (ds : List D) (xs : List V) (fp : List Addr), Rps c H ds xs fp → ∀ a ∈ fp, ∃ u, H a = some u ∧ Chg u
  | [], _, _, h => by simp only [Rps] at h; rw [h.2]; intro a ha; cases ha
  | d :: ds, xs, fp, h => by
    simp only [Rps] at h
    obtain ⟨x, ys, f1, f2, rfl, rfl, h1, h2⟩ := h
    intro a ha
    rcases List.mem_append.mp ha with ha | ha
    · exact Rp.chg d x f1 h1 a ha
    · exact Rps.chg ds ys f2 h2 a ha
theorem Rpk.chg : ∀ (ds : List (D × D)) (ys xs : List V) (fp : List Addr), Rpk c H ds ys xs fp → ∀ a ∈ fp, ∃ u, H a = some u ∧ Chg u
  | [], _, _, _, h => by simp only [Rpk] at h; rw [h.2.2]; intro a ha; cases ha
  | (_, d) :: ds, ys, xs, fp, h => by
    simp only [Rpk] at h
    obtain ⟨y, ys', x, xs', f1, f2, rfl, rfl, rfl, h0, h1, h2⟩ := h
    intro a ha
    rcases List.mem_append.mp ha with ha | ha
    · exact Rp.chg d x f1 h1 a ha
    · exact Rpk.chg ds ys' xs' f2 h2 a ha
end
end
section
variable {K : PySem.W.Frag} {S : Option (Addr × Addr)}
def sFz (i : Nat) (m : DMS) : DMS := fun ρ R => ∃ d, ρ[i]? = some (.own d) ∧ m (ρ.set i (.val (fz d))) R
theorem ds_fz (i : Nat) {ts : TS} {m : DMS} {W : List Nat} (h : DS K S ts m W) : DS K S (tFrzL ts) (sFz i m) W := fun G H ρ σ fps E R hm D d => by
  obtain ⟨x, hi, hm⟩ := hm
  obtain ⟨v, ev, r, n, nd, g⟩ := E.ok i _ hi
  have il : i < ρ.length := (List.getElem?_eq_some_iff.mp hi).1
  have io : isOwn ρ[i]? := by rw [hi]; trivial
  refine ⟨fps i, r.chg, fun H' f => h G H' (ρ.set i (.val (fz x))) σ (fun j => if j = i then [] else fps j) ⟨by rw [List.length_set]; exact E.len, fun a o ha hn => ?_, fun p hp => ?_, fun j sl hs => ?_, fun j k hne hj hk ho a ha hb => ?_⟩ R hm D d⟩
  · rw [(f a).1 fun z => by rw [g a z] at ha; cases ha]
    exact E.ext a o ha hn
  · obtain ⟨a1, ns, l, m, t, a2, a3, a4, a5, a6, a7, h1, h2⟩ := E.src p hp
    have off : ∀ b, (b = p.1 ∨ b = p.2) → b ∉ fps i := fun b hb z => n b z ⟨p, hp, hb⟩
    exact ⟨a1, ns, l, m, t, a2, a3, a4, a5, a6, a7, by rw [(f p.1).1 (off _ (.inl rfl))]; exact h1, by rw [(f p.2).1 (off _ (.inr rfl))]; exact h2⟩
  · by_cases hji : j = i
    · subst hji
      rw [List.getElem?_set_self il] at hs
      cases hs
      simp only [if_true]
      exact ⟨v, ev, r.fz f _ _ _ fun a ha => ha, .nil⟩
    · rw [List.getElem?_set_ne (Ne.symm hji)] at hs
      simp only [if_neg hji]
      have jl : j < ρ.length := (List.getElem?_eq_some_iff.mp hs).1
      have ok := E.ok j sl hs
      have off : ∀ a ∈ fps j, H' a = H a := fun a ha => (f a).1 fun z => E.sep i j (Ne.symm hji) il jl io a z ha
      cases sl with
      | unk => exact ok
      | val d => obtain ⟨w, h0, h1, h2⟩ := ok; exact ⟨w, h0, h1.mono f.tk _ _ _ off, h2⟩
      | own d => obtain ⟨w, h0, h1, h2, h3⟩ := ok; exact ⟨w, h0, h1.mono f.tk _ _ _ off, h2, h3⟩
  · have hj' : j < ρ.length := by simpa using hj
    have hk' : k < ρ.length := by simpa using hk
    by_cases hji : j = i
    · simp only [if_pos hji] at ha
      cases ha
    · rw [List.getElem?_set_ne (Ne.symm hji)] at ho
      simp only [if_neg hji] at ha
      by_cases hki : k = i
      · simp only [if_pos hki] at hb
        cases hb
      · simp only [if_neg hki] at hb
        exact E.sep j k hne hj' hk' ho a ha hb
end
/-! ### walks -/
/-- a dict's object by the values of its keys -/
def DictV (d : Addr) (ys xs : List V) (u : HO) : Prop := (∃ kk : List Key, xs.length = kk.length ∧ ys = kk.map kV ∧ u = .dK (kk.zip xs)) ∨ ∃ rows : List Row, ys = rows.map (fun r => .ref r.2.1) ∧ xs = rows.map (fun r => r.2.2) ∧ u = dX d rows
theorem keys_dK {c : Zc} {H : Hp} : ∀ {kvs : List (D × D)} {kk : List Key} {ys xs : List V} {gp : List Addr}, kvs.map (·.1) = kk.map keyD → Rpk c H kvs ys xs gp → ys = kk.map kV
  | [], [], _, _, _, _, r => by
    simp only [Rpk] at r
    exact r.1
  | [], _ :: _, _, _, _, e, _ => by cases e
  | _ :: _, [], _, _, _, e, _ => by cases e
  | (k, d) :: kvs, j :: kk, ys, xs, gp, e, r => by
    rw [List.map_cons, List.map_cons] at e
    obtain ⟨e1, e2⟩ := List.cons.inj e
    simp only [Rpk] at r
    obtain ⟨y, ys', x, xs', f1, f2, rfl, rfl, rfl, h0, h1, h2⟩ := r
    rw [List.map_cons, keys_dK e2 h2]
    have e1 : k = keyD j := e1
    subst e1
    rw [(rp_keyD h0).1]
theorem DictU.v {c : Zc} {H : Hp} {a : Addr} {kvs : List (D × D)} {ys xs : List V} {gp : List Addr} {u : HO} (hu : DictU a (kvs.map (·.1)) ys xs u) (r : Rpk c H kvs ys xs gp) : DictV a ys xs u := by
  rcases hu with ⟨kk, e, nd, el, rfl⟩ | ⟨rows, hne, e, hd, ey, ex, nd, rfl⟩
  · exact .inl ⟨kk, el, keys_dK e r, rfl⟩
  · exact .inr ⟨rows, ey, ex, rfl⟩
section
variable {K : PySem.W.Frag} {S : Option (Addr × Addr)}
def dXKeys (m : DM) : DMs := fun ρ R => m ρ fun d => ∃ kvs, d = frdD kvs ∧ R (kvs.map (·.1))
def dXVals (m : DM) : DMs := fun ρ R => m ρ fun d => ∃ kvs, d = frdD kvs ∧ R (kvs.map (·.2))
def dXItems (m : DM) : DMs := fun ρ R => m ρ fun d => ∃ kvs, d = frdD kvs ∧ R (kvs.map fun p => .tuple [p.1, p.2])
end
end Z
set_option Elab.async false
set_option linter.all false
set_option maxRecDepth 100000
set_option maxHeartbeats 4000000
/-! Z38: {} and len of dicts of any keys; dicts as lists of typed pairs. -/
namespace Z
open PySem PySem.Spec PyProof.Rows L2
theorem raw_dict {X : Cx} {pins : List (Addr × Obj)} {σ : L2.St} {H : Hp} {s : Shared} {d : Addr} {u : HO} {ys xs : List V} (I : Inv X pins σ H s) (h : Rd H d u) (hv : DictV d ys xs u) :
    (d == sysModules) = false ∧ xs.length ≤ sizeLine ∧ ∃ es ep, s.heap.DictRaw d es ep ∧ es.size = xs.length := by
  rcases hv with ⟨kk, el, rfl, rfl⟩ | ⟨rows, rfl, rfl, rfl⟩
  · obtain ⟨z, hd, vs, rel, dd⟩ := dk_rd I.hok h
    obtain ⟨es, ep, hr, hsz, _⟩ := dd.raw
    have lz : (kk.zip xs).length = xs.length := by rw [List.length_zip, el, Nat.min_self]
    exact ⟨hd, by omega, es, ep, hr, by rw [hsz, ← rel.length, lz]⟩
  · obtain ⟨⟨hm, hl, o', es, ep, e1, e2, e3, e4⟩, _⟩ := (show ObjOk X.prog X.w H s.heap d (dX d rows) from rd_of I.hok h)
    have pl : rows.length = es.toList.length := Paired.length e4
    exact ⟨hm, by simpa using lim_ok hl, es, ep, ⟨o', e1, e2, e3⟩, by simpa using pl.symm⟩
def rLenX : List V → Hp → VK → Prop := fun vs H Q => ∃ (a : Addr) (u : HO) (ys xs : List V), vs = [.ref a] ∧ Rd H a u ∧ DictV a ys xs u ∧ Q (.int (xs.length : Nat)) H
theorem call_lenX {X : Cx} : CallR X (.builtin "len") rLenX := fun pins s σ H vs us Q I r h => by
  obtain ⟨a, u, ys, xs, rfl, hR, hv, q⟩ := h
  obtain ⟨u', rfl, ru⟩ := vals1 r
  cases ru
  obtain ⟨hd, hl, es, ep, hr, hsz⟩ := raw_dict I hR hv
  refine PyProof.Rows.call_len_slot (n := xs.length) hr.typeIs F.slot_dict_len (fun Q' hq => call_len_raw hd hr (by rw [hsz]; exact hq)) (by omega) (by rw [sizeLine_eq] at hl; omega) ?_
  exact ⟨.int _, H, I.tok _, ⟨_, rfl⟩, q⟩
section
variable {K : PySem.W.Frag} {S : Option (Addr × Addr)}
def dLenX (m : DM) : DM := fun ρ R => m ρ fun d => ∃ kvs, IsDc d kvs ∧ R (.int ((kvs.length : Nat) : Int))
theorem de_lenX {te : TE} {m : DM} {U : List Nat} (h : DE K S te m U) : DE K S (tCB rLenX (tCons te tNil)) (dLenX m) [] := fun G H ρ σ fps E R hm Q q =>
  h G H ρ σ fps E _ hm _ fun d v H1 fp hR e1 s1 r1 n1 f1 => by
    obtain ⟨kvs, l, hR⟩ := hR
    obtain ⟨a, ys, xs, gp, u, rfl, ha, hu, hr, _⟩ := l.rp r1
    refine ⟨a, u, ys, xs, rfl, ha, hu.v hr, q _ _ H1 [] hR e1 s1 ?_ .nil (.fresh (fun b hb => by cases hb) List.nodup_nil)⟩
    rw [(rpk_len hr).2]
    exact int_rp H1
def dNewX : DM := fun _ R => R (.dict [])
end
/-! ### typed pairs -/
section
variable {α β : Type} [DecidableEq α] {f : α → D} {g : β → D}
def aFind (xs : List (α × β)) (a : α) : Option β := (xs.find? fun p => decide (p.1 = a)).map (·.2)
def aPut (xs : List (α × β)) (a : α) (b : β) : List (α × β) := if (aFind xs a).isSome then xs.map (fun p => if p.1 = a then (p.1, b) else p) else xs ++ [(a, b)]
def tD (f : α → D) (g : β → D) (xs : List (α × β)) : List (D × D) := xs.map fun p => (f p.1, g p.2)
theorem kFind_tD (inj : ∀ a b, f a = f b → a = b) (xs : List (α × β)) (a : α) : kFind (tD f g xs) (f a) = (aFind xs a).map g := by
  induction xs with
  | nil => rfl
  | cons p xs ih =>
    by_cases h : p.1 = a
    · have h1 : kFind (tD f g (p :: xs)) (f a) = some (g p.2) := kFind_pos (p := (f p.1, g p.2)) (congrArg f h)
      rw [h1]
      simp [aFind, h]
    · have h1 : kFind (tD f g (p :: xs)) (f a) = kFind (tD f g xs) (f a) := kFind_neg (p := (f p.1, g p.2)) fun z => h (inj _ _ z)
      rw [h1, ih]
      simp [aFind, List.find?_cons, h]
theorem kRepl_tD (inj : ∀ a b, f a = f b → a = b) (xs : List (α × β)) (a : α) (b : β) : kRepl (tD f g xs) (f a) (g b) = tD f g (xs.map fun p => if p.1 = a then (p.1, b) else p) := by
  unfold kRepl tD
  rw [List.map_map, List.map_map]
  refine List.map_congr_left fun p _ => ?_
  simp only [Function.comp]
  by_cases h : p.1 = a
  · rw [if_pos (congrArg f h), if_pos h]
  · rw [if_neg fun z => h (inj _ _ z), if_neg h]
theorem kPut_tD (inj : ∀ a b, f a = f b → a = b) (xs : List (α × β)) (a : α) (b : β) : kPut (tD f g xs) (f a) (g b) = tD f g (aPut xs a b) := by
  unfold kPut aPut
  rw [kFind_tD inj, Option.isSome_map]
  split
  · exact kRepl_tD inj xs a b
  · simp [tD]
theorem plainK_tD (ok : ∀ a, KeyOk (f a)) (xs : List (α × β)) : plainK (tD f g xs) := plainK_of fun p hp => by
  obtain ⟨q, _, rfl⟩ := List.mem_map.mp hp
  exact ok q.1
theorem homog_tD {t : Bool} (ht : ∀ a, isTuple (f a) = t) (xs : List (α × β)) (a : α) : Homog (tD f g xs) (f a) := fun p hp => by
  obtain ⟨q, _, rfl⟩ := List.mem_map.mp hp
  rw [ht, ht]
omit [DecidableEq α] in
theorem tD_len (xs : List (α × β)) : (tD f g xs).length = xs.length := List.length_map ..
theorem aFind_mem {xs : List (α × β)} {a : α} : (aFind xs a).isSome = true ↔ a ∈ xs.map (·.1) := by
  unfold aFind
  rw [Option.isSome_map, List.find?_isSome]
  constructor
  · rintro ⟨p, hp, e⟩
    exact List.mem_map.mpr ⟨p, hp, by simpa using e⟩
  · intro h
    obtain ⟨p, hp, e⟩ := List.mem_map.mp h
    exact ⟨p, hp, by simpa using e⟩
theorem aFind_of_mem {xs : List (α × β)} (nd : (xs.map (·.1)).Nodup) {a : α} {b : β} (h : (a, b) ∈ xs) : aFind xs a = some b := by
  induction xs with
  | nil => cases h
  | cons p xs ih =>
    rw [List.map_cons] at nd
    obtain ⟨n1, n2⟩ := List.nodup_cons.mp nd
    rcases List.mem_cons.mp h with rfl | h
    · simp [aFind]
    · have : p.1 ≠ a := fun z => n1 (z ▸ List.mem_map.mpr ⟨_, h, rfl⟩)
      have := ih n2 h
      unfold aFind at this ⊢
      rw [List.find?_cons]
      simp [*]
theorem aPut_keys (xs : List (α × β)) (a : α) (b : β) : (aPut xs a b).map (·.1) = if a ∈ xs.map (·.1) then xs.map (·.1) else xs.map (·.1) ++ [a] := by
  unfold aPut
  by_cases h : a ∈ xs.map (·.1)
  · rw [if_pos (aFind_mem.mpr h), if_pos h, List.map_map]
    refine List.map_congr_left fun p _ => ?_
    simp only [Function.comp]
    split <;> rfl
  · rw [if_neg fun z => h (aFind_mem.mp z), if_neg h, List.map_append]
    rfl
theorem aPut_nodup {xs : List (α × β)} (nd : (xs.map (·.1)).Nodup) (a : α) (b : β) : ((aPut xs a b).map (·.1)).Nodup := by
  rw [aPut_keys]
  split
  · exact nd
  · rename_i h
    exact List.nodup_append.mpr ⟨nd, List.pairwise_singleton _ _, fun x hx y hy z => h (by rw [List.mem_singleton.mp hy] at z; exact z ▸ hx)⟩
theorem aFind_put (xs : List (α × β)) (a c : α) (b : β) : aFind (aPut xs a b) c = if c = a then some b else aFind xs c := by
  unfold aPut
  by_cases h : (aFind xs a).isSome = true
  · rw [if_pos h]
    by_cases hc : c = a
    · subst hc
      rw [if_pos rfl]
      induction xs with
      | nil => cases h
      | cons p xs ih =>
        by_cases e : p.1 = c
        · simp [aFind, e]
        · have : (aFind xs c).isSome = true := by
            have h' := h
            unfold aFind at h' ⊢
            rw [List.find?_cons] at h'
            simpa [e] using h'
          have := ih this
          unfold aFind at this ⊢
          rw [List.map_cons, List.find?_cons]
          simpa [e] using this
    · rw [if_neg hc]
      clear h
      induction xs with
      | nil => rfl
      | cons p xs ih =>
        unfold aFind at ih ⊢
        rw [List.map_cons, List.find?_cons, List.find?_cons]
        by_cases e : p.1 = a
        · have : ¬ p.1 = c := fun z => hc (z.symm.trans e)
          have a' : ¬ a = c := fun z => hc z.symm
          simp only [e, if_true, a', decide_false]
          exact ih
        · by_cases e2 : p.1 = c
          · have h3 : (if p.1 = a then (p.1, b) else p) = p := if_neg e
            rw [h3]
            simp [e2]
          · simp only [e, if_false, e2, decide_false]
            exact ih
  · rw [if_neg h]
    by_cases hc : c = a
    · subst hc
      rw [if_pos rfl]
      have : aFind xs c = none := by
        cases hh : aFind xs c with
        | none => rfl
        | some b => rw [hh] at h; exact (h rfl).elim
      unfold aFind at this ⊢
      rw [Option.map_eq_none_iff] at this
      rw [List.find?_append, this]
      simp
    · rw [if_neg hc]
      unfold aFind
      rw [List.find?_append]
      have : ¬ a = c := fun z => hc z.symm
      cases hh : xs.find? (fun p => decide (p.1 = c)) with
      | none => simp [this]
      | some p => simp
end
end Z
set_option Elab.async false
set_option linter.all false
set_option maxRecDepth 100000
set_option maxHeartbeats 4000000
/-! Z39: len(dict(pairs)), the keys ints. -/
namespace Z
open PySem PySem.Spec PyProof.Rows L2
section
variable {K : PySem.W.Frag} {S : Option (Addr × Addr)}
def dLenDict0 (m : DM) : DM := fun ρ R => m ρ fun d => ∃ ns : List Int, d = pairs0 ns ∧ ∀ ks : List Int, ks.Nodup → (∀ x, x ∈ ks ↔ x ∈ ns) → R (.int ((ks.length : Nat) : Int))
end
end Z
set_option Elab.async false
set_option linter.all false
set_option maxHeartbeats 1000000
/-! G26: rows put together by what is seen at places; what a lot tells. Plain Lean. -/
namespace Z
open PySem PySem.Spec PyProof.Rows L2
def grpS (P : List Nat) (xs : List (List Bool × List (List Bool))) (v : List Bool) : List (List Bool × List (List Bool)) := aPut xs (atP P v) ((aFind xs (atP P v)).getD [] ++ [v])
def alike (P : List Nat) (V : List (List Bool)) (k : List Bool) : List (List Bool) := V.filter fun v => atP P v == k
def optL (l : List (List Bool)) : Option (List (List Bool)) := if l = [] then none else some l
structure Grp (P : List Nat) (V : List (List Bool)) (xs : List (List Bool × List (List Bool))) : Prop where
  nd : (xs.map (·.1)).Nodup
  at' : ∀ k, aFind xs k = optL (alike P V k)
theorem optL_getD (l : List (List Bool)) : (optL l).getD [] = l := by
  unfold optL
  split
  · rename_i h
    rw [h]
    rfl
  · rfl
theorem Grp.step {P : List Nat} {V : List (List Bool)} {xs : List (List Bool × List (List Bool))} (h : Grp P V xs) (v : List Bool) : Grp P (V ++ [v]) (grpS P xs v) := by
  refine ⟨aPut_nodup h.nd _ _, fun k => ?_⟩
  unfold grpS
  rw [aFind_put, h.at', optL_getD]
  unfold alike
  rw [List.filter_append]
  by_cases e : k = atP P v
  · subst e
    rw [if_pos rfl]
    have : [v].filter (fun w => atP P w == atP P v) = [v] := by simp
    rw [this]
    unfold optL
    rw [if_neg (by simp)]
  · rw [if_neg e, h.at']
    have : [v].filter (fun w => atP P w == k) = [] := by
      rw [List.filter_eq_nil_iff]
      intro a ha
      rw [List.mem_singleton.mp ha]
      simpa using fun z => e z.symm
    rw [this, List.append_nil]
    rfl
section
variable {P : List Nat} {V : List (List Bool)} {xs : List (List Bool × List (List Bool))}
theorem Grp.val (h : Grp P V xs) {p : List Bool × List (List Bool)} (hp : p ∈ xs) : p.2 = alike P V p.1 := by
  have := aFind_of_mem h.nd (a := p.1) (b := p.2) hp
  rw [h.at'] at this
  unfold optL at this
  split at this
  · cases this
  · exact (Option.some.inj this).symm
theorem Grp.keys (h : Grp P V xs) (k : List Bool) : k ∈ xs.map (·.1) ↔ ∃ v ∈ V, atP P v = k := by
  rw [← aFind_mem, h.at']
  unfold optL alike
  constructor
  · intro z
    split at z
    · cases z
    · rename_i hne
      obtain ⟨v, hv⟩ := List.exists_mem_of_ne_nil _ hne
      obtain ⟨h1, h2⟩ := List.mem_filter.mp hv
      exact ⟨v, h1, by simpa using h2⟩
  · rintro ⟨v, hv, e⟩
    rw [if_neg]
    · rfl
    · intro z
      have : v ∈ V.filter fun w => atP P w == k := List.mem_filter.mpr ⟨hv, by simpa using e⟩
      rw [z] at this
      cases this
theorem Grp.has (h : Grp P V xs) {v : List Bool} (hv : v ∈ V) : (atP P v, alike P V (atP P v)) ∈ xs := by
  obtain ⟨p, hp, e⟩ := List.mem_map.mp ((h.keys (atP P v)).mpr ⟨v, hv, rfl⟩)
  have := h.val hp
  rw [← e, ← this]
  exact hp
end
/-! ### what a lot tells -/
end Z
set_option Elab.async false
set_option linter.all false
set_option maxRecDepth 100000
set_option maxHeartbeats 4000000
/-! Z40: dict(list of pairs) whose keys are tuples of any depth. -/
namespace Z
open PySem PySem.Spec PyProof.Rows L2
/-! ### over data -/
noncomputable def kMerge (kvs : List (D × D)) : List (D × D) := kvs.foldl (fun acc p => kPut acc p.1 p.2) []
def KeyT (d : D) : Prop := ∃ (nk : NestedKey) (l : List NestedKey), nkey d = some nk ∧ nk = .tup l ∧ nk.depth ≤ 8
theorem KeyT.ok {d : D} (h : KeyT d) : KeyOk d := .inr h
theorem KeyT.tup {d : D} (h : KeyT d) : isTuple d = true := by
  obtain ⟨nk, l, h1, h2, _⟩ := h
  exact isTuple_nkey (by rw [h1, h2])
section
variable {c : Zc} {H : Hp}
/-- the rows that stand for pairs -/
structure RowsAs (c : Zc) (H : Hp) (kvs : List (D × D)) (rows : List Row) : Prop where
  ks : (kvs.map (·.1)).map nkey = rows.map (fun r => some r.1)
  rp : Rpk c H kvs (rows.map fun r => .ref r.2.1) (rows.map fun r => r.2.2) []
  nd : (rows.map (·.1)).Nodup
  tp : ∀ r ∈ rows, r.1.depth ≤ 8 ∧ ∃ l, r.1 = .tup l
theorem RowsAs.keys {kvs : List (D × D)} {rows : List Row} (h : RowsAs c H kvs rows) : (kvs.map (·.1)).Nodup := by
  have : ((kvs.map (·.1)).map nkey).Nodup := by
    rw [h.ks, show (fun r : Row => some r.1) = some ∘ (fun r : Row => r.1) from rfl, ← List.map_map]
    exact List.Pairwise.map _ (fun a b hne z => hne (Option.some.inj z)) h.nd
  exact List.Pairwise.of_map _ (fun a b hne z => hne (congrArg nkey z)) this
theorem RowsAs.put {kvs : List (D × D)} {rows : List Row} (h : RowsAs c H kvs rows) {k v : D} {nk : NestedKey} {l : List NestedKey} (hk : nkey k = some nk) (hl : nk = .tup l) (hd : nk.depth ≤ 8) {b : Addr} {x : V} (rk : Rp c H k (.ref b) []) (rv : Rp c H v x []) : RowsAs c H (kPut kvs k v) (rowPut rows nk b x) := by
  have gi := find_dX (c := c) (H := H) hk h.ks rfl h.rp
  have eS := gi.isSome
  have tp : ∀ q ∈ rowPut rows nk b x, q.1.depth ≤ 8 ∧ ∃ l, q.1 = .tup l := fun q hq => by
    have : q.1 ∈ (rowPut rows nk b x).map (·.1) := List.mem_map.mpr ⟨q, hq, rfl⟩
    rw [rowPut_keys] at this
    have old : q.1 ∈ rows.map (·.1) → q.1.depth ≤ 8 ∧ ∃ l, q.1 = .tup l := fun z => by
      obtain ⟨q', hq', e'⟩ := List.mem_map.mp z
      rw [← e']
      exact h.tp q' hq'
    split at this
    · exact old this
    · rcases List.mem_append.mp this with z | z
      · exact old z
      · rw [List.mem_singleton.mp z]
        exact ⟨hd, l, hl⟩
  have nds : ((rowPut rows nk b x).map (·.1)).Nodup := by
    rw [rowPut_keys]
    split
    · exact h.nd
    · rename_i hn
      refine List.nodup_append.mpr ⟨h.nd, List.pairwise_singleton _ _, fun b hb b' hb' z => ?_⟩
      rw [List.mem_singleton.mp hb'] at z
      exact rowAt_none hn (z ▸ hb)
  have hks := h.ks
  have hrp := h.rp
  cases hf : (kFind kvs k).isSome with
  | true =>
    rw [hf] at eS
    obtain ⟨gp', a1, a2, a3, _⟩ := rpk_sel (k := k) rv List.nodup_nil h.keys h.rp List.nodup_nil fun b hb => by cases hb
    have eg : gp' = [] := List.eq_nil_iff_forall_not_mem.mpr fun b hb => by
      rcases a2 b hb with z | z <;> cases z
    subst eg
    refine ⟨?_, ?_, nds, tp⟩
    · rw [kPut_keys, if_pos hf, hks]
      rw [show (fun r : Row => some r.1) = some ∘ (fun r : Row => r.1) from rfl, ← List.map_map, ← List.map_map, rowPut_keys, if_pos eS]
    · unfold kPut
      rw [if_pos hf]
      have e1 : (rowPut rows nk b x).map (fun r => V.ref r.2.1) = rows.map (fun r => V.ref r.2.1) := by
        unfold rowPut
        rw [if_pos eS, List.map_map]
        refine List.map_congr_left fun q _ => ?_
        simp only [Function.comp]
        split <;> rfl
      have e2 : (rowPut rows nk b x).map (fun r => r.2.2) = selX (kSel kvs k) x (rows.map fun r => r.2.2) := by
        unfold rowPut
        rw [if_pos eS, sel_vals, sel_rows hk hks]
      rw [e1, e2]
      exact a1
  | false =>
    rw [hf] at eS
    refine ⟨?_, ?_, nds, tp⟩
    · rw [kPut_keys, if_neg (by rw [hf]; simp), List.map_append, hks]
      rw [show (fun r : Row => some r.1) = some ∘ (fun r : Row => r.1) from rfl, ← List.map_map, ← List.map_map, rowPut_keys, if_neg (by rw [eS]; simp), List.map_append]
      rw [List.map_cons, hk]
      rfl
    · unfold kPut
      rw [if_neg (by rw [hf]; simp)]
      have e1 : (rowPut rows nk b x).map (fun r => V.ref r.2.1) = rows.map (fun r => V.ref r.2.1) ++ [.ref b] := by
        unfold rowPut
        rw [if_neg (by rw [eS]; simp), List.map_append]
        rfl
      have e2 : (rowPut rows nk b x).map (fun r => r.2.2) = rows.map (fun r => r.2.2) ++ [x] := by
        unfold rowPut
        rw [if_neg (by rw [eS]; simp), List.map_append]
        rfl
      rw [e1, e2]
      have := rpk_snoc rk rv hrp
      rwa [List.append_nil] at this
end
section
variable {K : PySem.W.Frag} {S : Option (Addr × Addr)}
def dDictX (m : DM) : DM := fun ρ R => m ρ fun d => ∃ kvs : List (D × D), d = .list (kvs.map fun p => .tuple [p.1, p.2]) ∧ kvs ≠ [] ∧ (∀ p ∈ kvs, KeyT p.1 ∧ solid p.2 = true) ∧ kvs.length ≤ 10000000 ∧ R (.dict (kMerge kvs))
end
/-! ### merged typed pairs -/
end Z
set_option Elab.async false
set_option linter.all false
set_option maxRecDepth 100000
set_option maxHeartbeats 4000000
/-! Z41: sorted of lists that never change. -/
namespace Z
open PySem PySem.Spec PyProof.Rows L2
section
variable {K : PySem.W.Frag} {S : Option (Addr × Addr)}
def fSortedF (b : Bool) : List D → (D → Prop) → Prop := fun ds R => match ds with
  | [d] => ∃ xs, IsL d xs ∧ solids xs = true ∧ SortOk xs ∧ R (.list (sortD b xs))
  | _ => False
end
end Z
set_option Elab.async false
set_option linter.all false
set_option maxHeartbeats 1000000
/-! G27: how many unlike lots of ends there are. Plain Lean. -/
set_option Elab.async false
set_option linter.all false
set_option maxHeartbeats 1000000
/-! G28: lots of ends, sorted. Plain Lean. -/
set_option Elab.async false
set_option linter.all false
set_option maxRecDepth 100000
set_option maxHeartbeats 4000000
/-! Z42: sorted of lists of one item at most, whatever it is. -/
namespace Z
open PySem PySem.Spec PyProof.Rows L2
section
variable {K : PySem.W.Frag} {S : Option (Addr × Addr)}
/-- sorted of a list of either kind; of one item at most: whatever it is -/
def fSortedW : List D → (D → Prop) → Prop := fun ds R => match ds with
  | [d] => ∃ xs, IsL d xs ∧ solids xs = true ∧ ((SortOk xs ∧ R (.list (sortD false xs))) ∨ (xs.length ≤ 1 ∧ R (.list xs)))
  | _ => False
end
end Z
set_option Elab.async false
set_option linter.all false
set_option maxRecDepth 100000
set_option maxHeartbeats 4000000
/-! Z43: itertools.combinations(xs, r), at the library's level. -/
set_option Elab.async false
set_option linter.all false
set_option maxRecDepth 100000
set_option maxHeartbeats 4000000
/-! Z44: itertools.combinations(xs, r) over the layer. -/
namespace Z
open PySem PySem.Spec PyProof.Rows L2
/-! ### the lots in order -/
/-- the ways to pick r of them, in order -/
def picks {α : Type} : List α → Nat → List (List α)
  | _, 0 => [[]]
  | [], _ + 1 => []
  | x :: xs, r + 1 => (picks xs r).map (x :: ·) ++ picks xs (r + 1)
section
variable {K : PySem.W.Frag} {S : Option (Addr × Addr)}
/-- combinations -/
def combD (ds : List D) (r : Nat) : List D := (picks ds r).map .tuple
def dCmbR (m1 m2 : DM) : DMs := fun ρ R => m1 ρ fun d => asI d fun n => (0 ≤ n ∧ n ≤ 100000) ∧ m2 ρ fun e => asI e fun r => (0 ≤ r ∧ r ≤ 100000) ∧ R (combD (rangeD 0 n.toNat 1) r.toNat)
def dCmbL (ms : DMs) : DMs := fun ρ R => ms ρ fun ds => match ds with
  | [.list xs, .int r] => (0 ≤ r ∧ r ≤ 100000) ∧ R (combD xs r.toNat)
  | [.tuple xs, .int r] => (0 ≤ r ∧ r ≤ 100000) ∧ R (combD xs r.toNat)
  | _ => False
end
end Z
set_option Elab.async false
set_option linter.all false
set_option maxRecDepth 100000
set_option maxHeartbeats 4000000
/-! G29: base lots, their changes. -/
set_option Elab.async false
set_option linter.all false
set_option maxRecDepth 100000
set_option maxHeartbeats 4000000
/-! G30: loops. -/
namespace Z
open PySem L2
variable {n : Nat} {B : List (List Bool)} {P Q : List Nat}
theorem sp_nil {n : Nat} {v : List Bool} (s : Sp n [] v) : v = nul n := by
  cases s with
  | zero => rfl
  | add h _ => cases h
/-! ### lots, sorted -/
/-! ### all loops -/
end Z
set_option Elab.async false
set_option linter.all false
set_option maxRecDepth 100000
set_option maxHeartbeats 4000000
/-! G31: rows of numbers below p; spans. Plain Lean. -/
namespace Z
open PySem L2
/-- entry -/
def en (v : List Int) (i : Nat) : Int := v.getD i 0
/-- a row of m numbers below p -/
def Vec (p : Int) (m : Nat) (v : List Int) : Prop := v.length = m ∧ ∀ x ∈ v, 0 ≤ x ∧ x < p
/-- c times b and v -/
def axp (p c : Int) (b v : List Int) : List Int := (b.zip v).map fun q => (c * q.1 + q.2) % p
theorem axp_len {p c : Int} {b v : List Int} {m : Nat} (h : b.length = m) (k : v.length = m) : (axp p c b v).length = m := by
  unfold axp
  rw [List.length_map, List.length_zip, h, k]
  omega
theorem en_axp {p c : Int} {b v : List Int} {m i : Nat} (h : b.length = m) (k : v.length = m) (hi : i < m) : en (axp p c b v) i = (c * en b i + en v i) % p := by
  unfold en axp
  have h1 : i < b.length := by omega
  have h2 : i < v.length := by omega
  rw [List.getD_eq_getElem?_getD, List.getD_eq_getElem?_getD, List.getD_eq_getElem?_getD, List.getElem?_map, List.getElem?_eq_getElem h1, List.getElem?_eq_getElem h2, List.getElem?_eq_getElem (by rw [List.length_zip]; omega)]
  simp
theorem vec_ext {p : Int} {m : Nat} {a b : List Int} (ha : Vec p m a) (hb : Vec p m b) (h : ∀ i, i < m → en a i % p = en b i % p) : a = b := by
  refine List.ext_getElem (by rw [ha.1, hb.1]) fun i h1 h2 => ?_
  have e := h i (by rw [← ha.1]; exact h1)
  unfold en at e
  rw [List.getD_eq_getElem?_getD, List.getD_eq_getElem?_getD, List.getElem?_eq_getElem h1, List.getElem?_eq_getElem h2] at e
  have x := ha.2 _ (List.getElem_mem h1)
  have y := hb.2 _ (List.getElem_mem h2)
  simp only [Option.getD_some] at e
  rwa [Int.emod_eq_of_lt x.1 x.2, Int.emod_eq_of_lt y.1 y.2] at e
theorem vec_axp {p c : Int} {m : Nat} {b v : List Int} (hp : 0 < p) (hb : b.length = m) (hv : v.length = m) : Vec p m (axp p c b v) := by
  refine ⟨axp_len hb hv, fun x hx => ?_⟩
  unfold axp at hx
  obtain ⟨q, _, rfl⟩ := List.mem_map.mp hx
  exact ⟨Int.emod_nonneg _ (by omega), Int.emod_lt_of_pos _ hp⟩
def zer (m : Nat) : List Int := List.replicate m 0
theorem zer_len (m : Nat) : (zer m).length = m := List.length_replicate ..
theorem en_zer (m i : Nat) : en (zer m) i = 0 := by
  unfold en zer
  rw [List.getD_eq_getElem?_getD, List.getElem?_replicate]
  by_cases h : i < m <;> simp [h]
theorem vec_zer {p : Int} (hp : 0 < p) (m : Nat) : Vec p m (zer m) := ⟨zer_len m, fun x hx => by rw [List.eq_of_mem_replicate hx]; exact ⟨Int.le_refl _, hp⟩⟩
/-- what S spans -/
inductive Spn (p : Int) (m : Nat) (S : List (List Int)) : List Int → Prop
  | zero : Spn p m S (zer m)
  | add {b v : List Int} (c : Int) : b ∈ S → Spn p m S v → Spn p m S (axp p c b v)
def VecS (p : Int) (m : Nat) (S : List (List Int)) : Prop := ∀ b ∈ S, Vec p m b
section
variable {p : Int} {m : Nat} {S T : List (List Int)}
theorem Spn.vec (hp : 0 < p) (hS : VecS p m S) {v : List Int} (s : Spn p m S v) : Vec p m v := by
  induction s with
  | zero => exact vec_zer hp m
  | add c hb _ ih => exact vec_axp hp (hS _ hb).1 ih.1
theorem axp_zero (hp : 0 < p) {v : List Int} (hv : Vec p m v) {b : List Int} (hb : b.length = m) {c : Int} (hc : c % p = 0) : axp p c b v = v := vec_ext (vec_axp hp hb hv.1) hv fun i hi => by
  rw [en_axp hb hv.1 hi, Int.emod_emod_of_dvd _ (Int.dvd_refl _), Int.add_emod, Int.mul_emod, hc]
  simp
theorem Spn.mono (h : ∀ b ∈ S, b ∈ T) {v : List Int} (s : Spn p m S v) : Spn p m T v := by
  induction s with
  | zero => exact .zero
  | add c hb _ ih => exact .add c (h _ hb) ih
theorem Spn.comb (hp : 0 < p) (hS : VecS p m S) (c : Int) {u v : List Int} (su : Spn p m S u) (sv : Spn p m S v) : Spn p m S (axp p c u v) := by
  induction su with
  | zero =>
    have e : axp p c (zer m) v = v := vec_ext (vec_axp hp (zer_len m) (sv.vec hp hS).1) (sv.vec hp hS) fun i hi => by
      rw [en_axp (zer_len m) (sv.vec hp hS).1 hi, en_zer, Int.mul_zero, Int.zero_add, Int.emod_emod_of_dvd _ (Int.dvd_refl _)]
    rw [e]
    exact sv
  | @add b w d hb sw ih =>
    have lb := (hS b hb).1
    have lw := (sw.vec hp hS).1
    have lv := (sv.vec hp hS).1
    have e : axp p c (axp p d b w) v = axp p (c * d) b (axp p c w v) := by
      refine vec_ext (vec_axp hp (axp_len lb lw) lv) (vec_axp hp lb (axp_len lw lv)) fun i hi => ?_
      rw [en_axp (axp_len lb lw) lv hi, en_axp lb lw hi, en_axp lb (axp_len lw lv) hi, en_axp lw lv hi]
      simp only [Int.emod_emod_of_dvd _ (Int.dvd_refl _)]
      rw [Int.add_emod, Int.mul_emod, Int.emod_emod_of_dvd _ (Int.dvd_refl _), ← Int.mul_emod, ← Int.add_emod, Int.add_emod (c * d * en b i), Int.emod_emod_of_dvd _ (Int.dvd_refl _), ← Int.add_emod]
      congr 1
      rw [Int.mul_add, Int.mul_assoc, Int.add_assoc]
    rw [e]
    exact .add _ hb ih
theorem Spn.self (hp : 0 < p) (hS : VecS p m S) {b : List Int} (hb : b ∈ S) : Spn p m S b := by
  have e : axp p 1 b (zer m) = b := vec_ext (vec_axp hp (hS b hb).1 (zer_len m)) (hS b hb) fun i hi => by
    rw [en_axp (hS b hb).1 (zer_len m) hi, en_zer, Int.one_mul, Int.add_zero, Int.emod_emod_of_dvd _ (Int.dvd_refl _)]
  have := Spn.add (m := m) (p := p) 1 hb .zero
  rwa [e] at this
theorem Spn.trans (hp : 0 < p) (hT : VecS p m T) (h : ∀ b ∈ S, Spn p m T b) {v : List Int} (s : Spn p m S v) : Spn p m T v := by
  induction s with
  | zero => exact .zero
  | add c hb _ ih => exact Spn.comb hp hT c (h _ hb) ih
/-- a row more: what it spans is a row of the old and a multiple of the new one -/
theorem Spn.split (hp : 0 < p) (hS : VecS p m S) {u : List Int} (hu : Vec p m u) {v : List Int} (s : Spn p m (u :: S) v) : ∃ (c : Int) (w : List Int), Spn p m S w ∧ v = axp p c u w := by
  have hU : VecS p m (u :: S) := fun b hb => by
    rcases List.mem_cons.mp hb with rfl | hb
    · exact hu
    · exact hS b hb
  induction s with
  | zero => exact ⟨0, zer m, .zero, (axp_zero hp (vec_zer hp m) hu.1 (Int.zero_emod _)).symm⟩
  | @add b v d hb sv ih =>
    obtain ⟨c, w, sw, rfl⟩ := ih
    have lw := (sw.vec hp hS)
    rcases List.mem_cons.mp hb with rfl | hb
    · refine ⟨d + c, w, sw, vec_ext (vec_axp hp hu.1 (axp_len hu.1 lw.1)) (vec_axp hp hu.1 lw.1) fun i hi => ?_⟩
      rw [en_axp hu.1 (axp_len hu.1 lw.1) hi, en_axp hu.1 lw.1 hi, en_axp hu.1 lw.1 hi]
      simp only [Int.emod_emod_of_dvd _ (Int.dvd_refl _)]
      rw [Int.add_emod (d * en b i), Int.emod_emod_of_dvd _ (Int.dvd_refl _), ← Int.add_emod, Int.add_mul, Int.add_assoc]
    · have lb := (hS b hb)
      refine ⟨c, axp p d b w, .add d hb sw, vec_ext (vec_axp hp lb.1 (axp_len hu.1 lw.1)) (vec_axp hp hu.1 (axp_len lb.1 lw.1)) fun i hi => ?_⟩
      rw [en_axp lb.1 (axp_len hu.1 lw.1) hi, en_axp hu.1 lw.1 hi, en_axp hu.1 (axp_len lb.1 lw.1) hi, en_axp lb.1 lw.1 hi]
      simp only [Int.emod_emod_of_dvd _ (Int.dvd_refl _)]
      rw [Int.add_emod (d * en b i), Int.emod_emod_of_dvd _ (Int.dvd_refl _), ← Int.add_emod, Int.add_emod (c * en u i), Int.emod_emod_of_dvd _ (Int.dvd_refl _), ← Int.add_emod]
      congr 1
      omega
/-- every number but 0 has one that makes 1 -/
def Inv1 (p : Int) : Prop := ∀ c : Int, c % p ≠ 0 → ∃ d : Int, (d * c) % p = 1
end
/-! ### ranks: how many rows are not spanned by those before them -/
section
variable {p : Int} {m : Nat} {S T : List (List Int)}
open Classical in
noncomputable def rkS (p : Int) (m : Nat) : List (List Int) → Nat
  | [] => 0
  | u :: S => rkS p m S + if Spn p m S u then 0 else 1
end
end Z
set_option Elab.async false
set_option linter.all false
set_option maxRecDepth 100000
set_option maxHeartbeats 4000000
/-! G32: heads of rows of numbers below p. Plain Lean. -/
namespace Z
open PySem L2
def stpM (p : Int) (l : List Int) (a : Nat × List Int) : List Int := (l.zip a.2).map fun q => (q.1 - en l a.1 * q.2) % p
def redM (p : Int) (H : List (Nat × List Int)) (v : List Int) : List Int := H.foldl (stpM p) v
def idxM (v : List Int) : List Nat := (v.zipIdx.filter fun q => q.1 != 0).map (·.2)
def turnM (p : Nat) (c : Int) : List Nat := (List.range p).filter fun x => ((x : Int) * c) % (p : Int) == 1
def addM (p : Nat) (H : List (Nat × List Int)) (v : List Int) : List (Nat × List Int) := match idxM (redM p H v) with
  | [] => H
  | k :: _ => H ++ [(k, (redM p H v).map fun x => (((turnM p (en (redM p H v) k)).getD 0 0 : Nat) * x) % (p : Int))]
section
variable {p : Int} {m : Nat} {X : List (List Int)}
theorem stpM_axp {l : List Int} {a : Nat × List Int} (hp : 0 < p) (hl : l.length = m) (ha : a.2.length = m) : stpM p l a = axp p (-(en l a.1)) a.2 l := by
  unfold stpM axp
  refine List.ext_getElem (by rw [List.length_map, List.length_map, List.length_zip, List.length_zip, hl, ha]) fun i h1 h2 => ?_
  rw [List.getElem_map, List.getElem_map, List.getElem_zip, List.getElem_zip]
  show (_ - _) % p = (_ + _) % p
  congr 1
  simp only []
  rw [Int.neg_mul]
  omega
structure TP (p : Int) (m : Nat) (X : List (List Int)) (H : List (Nat × List Int)) : Prop where
  vec : VecS p m (H.map (·.2))
  one : ∀ a ∈ H, en a.2 a.1 = 1
  low : H.Pairwise fun a b => en b.2 a.1 = 0
  lt : ∀ a ∈ H, a.1 < m
  sp : ∀ v, Spn p m (H.map (·.2)) v ↔ Spn p m X v
  cnt : H.length = rkS p m X
theorem TP.nil (p : Int) (m : Nat) : TP p m [] [] := ⟨fun b hb => (by cases hb), fun a ha => (by cases ha), .nil, fun a ha => (by cases ha), fun v => Iff.rfl, rfl⟩
theorem en_lt {v : List Int} (hv : Vec p m v) (hp : 0 < p) (i : Nat) : 0 ≤ en v i ∧ en v i < p := by
  unfold en
  rw [List.getD_eq_getElem?_getD]
  rcases Nat.lt_or_ge i v.length with h | h
  · rw [List.getElem?_eq_getElem h]
    exact hv.2 _ (List.getElem_mem h)
  · rw [List.getElem?_eq_none h]
    exact ⟨Int.le_refl _, hp⟩
theorem redM_ok (hp : 0 < p) : ∀ (H : List (Nat × List Int)), VecS p m (H.map (·.2)) → (∀ a ∈ H, en a.2 a.1 = 1) → H.Pairwise (fun a b => en b.2 a.1 = 0) → (∀ a ∈ H, a.1 < m) → ∀ v : List Int, Vec p m v →
    Vec p m (redM p H v) ∧ (∀ a ∈ H, en (redM p H v) a.1 = 0) ∧ (∀ i, i < m → (∀ a ∈ H, en a.2 i = 0) → en (redM p H v) i = en v i) ∧ (∀ C, VecS p m C → (∀ a ∈ H, Spn p m C a.2) → (Spn p m C (redM p H v) ↔ Spn p m C v))
  | [], _, _, _, _, v, hv => ⟨hv, fun a ha => (by cases ha), fun i _ _ => rfl, fun C _ _ => Iff.rfl⟩
  | a :: H, l, one, low, lt, v, hv => by
    have low := List.pairwise_cons.mp low
    have va : Vec p m a.2 := l _ (List.mem_cons_self ..)
    have es := stpM_axp (p := p) (l := v) (a := a) hp hv.1 va.1
    have vs : Vec p m (stpM p v a) := by rw [es]; exact vec_axp hp va.1 hv.1
    obtain ⟨h1, h2, h3, h4⟩ := redM_ok hp H (fun b hb => l b (List.mem_cons_of_mem _ hb)) (fun b hb => one b (List.mem_cons_of_mem _ hb)) low.2 (fun b hb => lt b (List.mem_cons_of_mem _ hb)) (stpM p v a) vs
    have e0 : redM p (a :: H) v = redM p H (stpM p v a) := rfl
    rw [e0]
    refine ⟨h1, fun b hb => ?_, fun i hi hz => ?_, fun C hC hH => ?_⟩
    · rcases List.mem_cons.mp hb with rfl | hb
      · rw [h3 b.1 (lt b (List.mem_cons_self ..)) low.1, es, en_axp va.1 hv.1 (lt b (List.mem_cons_self ..)), one b (List.mem_cons_self ..), Int.mul_one, Int.add_comm, Int.add_right_neg]
        exact Int.zero_emod _
      · exact h2 b hb
    · rw [h3 i hi fun b hb => hz b (List.mem_cons_of_mem _ hb), es, en_axp va.1 hv.1 hi, hz a (List.mem_cons_self ..), Int.mul_zero, Int.zero_add]
      have := en_lt hv hp i
      exact Int.emod_eq_of_lt this.1 this.2
    · refine (h4 C hC fun b hb => hH b (List.mem_cons_of_mem _ hb)).trans ?_
      have ha := hH a (List.mem_cons_self ..)
      rw [es]
      constructor
      · intro s
        -- v = (en v a.1) a + that
        have e : v = axp p (en v a.1) a.2 (axp p (-(en v a.1)) a.2 v) := vec_ext hv (vec_axp hp va.1 (axp_len va.1 hv.1)) fun i hi => by
          rw [en_axp va.1 (axp_len va.1 hv.1) hi, en_axp va.1 hv.1 hi, Int.emod_emod_of_dvd _ (Int.dvd_refl _), Int.add_emod (en v a.1 * en a.2 i), Int.emod_emod_of_dvd _ (Int.dvd_refl _), ← Int.add_emod, Int.neg_mul]
          congr 1
          omega
        rw [e]
        exact Spn.comb hp hC _ ha s
      · exact fun s => Spn.comb hp hC _ ha s
theorem zero_low (hp : 1 < p) : ∀ (H : List (Nat × List Int)), VecS p m (H.map (·.2)) → (∀ a ∈ H, en a.2 a.1 = 1) → H.Pairwise (fun a b => en b.2 a.1 = 0) → (∀ a ∈ H, a.1 < m) → ∀ w : List Int, Spn p m (H.map (·.2)) w → (∀ a ∈ H, en w a.1 = 0) → w = zer m
  | [], _, _, _, _, w, s, _ => by
    cases s with
    | zero => rfl
    | add c hb _ => cases hb
  | a :: H, l, one, low, lt, w, s, z => by
    have hp0 : 0 < p := by omega
    have low := List.pairwise_cons.mp low
    have va : Vec p m a.2 := l _ (List.mem_cons_self ..)
    have lH : VecS p m (H.map (·.2)) := fun b hb => l b (List.mem_cons_of_mem _ hb)
    obtain ⟨c, u, su, e⟩ := s.split hp0 lH va
    have vu := su.vec hp0 lH
    have zl : ∀ (T : List (Nat × List Int)) (q : Nat), q < m → VecS p m (T.map (·.2)) → (∀ b ∈ T, en b.2 q = 0) → ∀ x, Spn p m (T.map (·.2)) x → en x q = 0 := fun T q hq vT hT x sx => by
      induction sx with
      | zero => exact en_zer m q
      | @add b v d hb sv ih =>
        obtain ⟨t, ht, rfl⟩ := List.mem_map.mp hb
        rw [en_axp (vT _ hb).1 (sv.vec hp0 vT).1 hq, hT t ht, ih, Int.mul_zero, Int.add_zero]
        exact Int.zero_emod _
    have la := lt a (List.mem_cons_self ..)
    have u0 := zl H a.1 la lH low.1 u su
    have z0 := z a (List.mem_cons_self ..)
    rw [e, en_axp va.1 vu.1 la, one a (List.mem_cons_self ..), u0, Int.mul_one, Int.add_zero] at z0
    have ew : w = u := by rw [e, axp_zero hp0 vu va.1 z0]
    rw [ew]
    rw [ew] at z
    exact zero_low hp H lH (fun b hb => one b (List.mem_cons_of_mem _ hb)) low.2 (fun b hb => lt b (List.mem_cons_of_mem _ hb)) u su fun b hb => z b (List.mem_cons_of_mem _ hb)
theorem mem_idxM {v : List Int} {k : Nat} : k ∈ idxM v ↔ k < v.length ∧ en v k ≠ 0 := by
  unfold idxM
  rw [List.mem_map]
  constructor
  · rintro ⟨⟨x, j⟩, h, rfl⟩
    obtain ⟨h1, h2⟩ := List.mem_filter.mp h
    have := List.mem_zipIdx h1
    simp only [Nat.zero_le, Nat.zero_add, true_and, Nat.sub_zero] at this
    obtain ⟨hj, hx⟩ := this
    refine ⟨hj, ?_⟩
    unfold en
    rw [List.getD_eq_getElem?_getD, List.getElem?_eq_getElem hj]
    simp only [Option.getD_some]
    rw [← hx]
    simpa using h2
  · rintro ⟨h1, h2⟩
    refine ⟨(v[k], k), List.mem_filter.mpr ⟨?_, ?_⟩, rfl⟩
    · rw [List.mem_iff_getElem]
      exact ⟨k, by rw [List.length_zipIdx]; exact h1, by rw [List.getElem_zipIdx]; simp⟩
    · unfold en at h2
      rw [List.getD_eq_getElem?_getD, List.getElem?_eq_getElem h1] at h2
      simpa using h2
theorem vec_cons {v : List Int} (hX : VecS p m X) (hv : Vec p m v) : VecS p m (v :: X) := fun b hb => by
  rcases List.mem_cons.mp hb with rfl | hb
  · exact hv
  · exact hX b hb
theorem rkS_in {v : List Int} (h : Spn p m X v) : rkS p m (v :: X) = rkS p m X := by
  unfold rkS
  rw [if_pos h]
  cases X <;> rfl
theorem rkS_out {v : List Int} (h : ¬ Spn p m X v) : rkS p m (v :: X) = rkS p m X + 1 := by
  conv => lhs; unfold rkS
  rw [if_neg h]
/-- a row of numbers, times one -/
theorem scale_axp {l : List Int} {t : Int} (hp : 0 < p) (hl : l.length = m) : (l.map fun x => (t * x) % p) = axp p t l (zer m) := by
  unfold axp
  refine List.ext_getElem (by rw [List.length_map, List.length_map, List.length_zip, zer_len, hl]; omega) fun i h1 h2 => ?_
  rw [List.getElem_map, List.getElem_map, List.getElem_zip]
  show _ = (_ + (zer m)[i]'_) % p
  have : (zer m)[i]'(by rw [zer_len, ← hl]; simpa using h1) = 0 := by simp [zer]
  simp only [this, Int.add_zero]
/-- turnM finds one -/
theorem turn_ok {q : Nat} (ip : Inv1 q) (hq : 1 < q) {c : Int} (h : c % (q : Int) ≠ 0) : ∃ t : Nat, (turnM q c).getD 0 0 = t ∧ t < q ∧ ((t : Int) * c) % (q : Int) = 1 ∧ turnM q c ≠ [] := by
  obtain ⟨d, hd⟩ := ip c h
  have d0 := Int.emod_nonneg d (show (q : Int) ≠ 0 by omega)
  have d1 := Int.emod_lt_of_pos d (show (0 : Int) < q by omega)
  have mem : (d % (q : Int)).toNat ∈ turnM q c := List.mem_filter.mpr ⟨List.mem_range.mpr (by omega), by
    rw [beq_iff_eq, Int.toNat_of_nonneg d0, Int.mul_emod, Int.emod_emod_of_dvd _ (Int.dvd_refl _), ← Int.mul_emod]
    exact hd⟩
  match hm : turnM q c, mem with
  | t :: r, _ =>
    have ht : t ∈ turnM q c := by rw [hm]; exact List.mem_cons_self ..
    obtain ⟨h1, h2⟩ := List.mem_filter.mp ht
    exact ⟨t, rfl, List.mem_range.mp h1, beq_iff_eq.mp h2, fun z => by cases z⟩
theorem TP.add {q : Nat} (hq : 1 < q) (ip : Inv1 q) {H : List (Nat × List Int)} (h : TP q m X H) (hX : VecS q m X) {v : List Int} (hv : Vec q m v) : TP q m (v :: X) (addM q H v) := by
  have hp0 : (0 : Int) < q := by omega
  have hp1 : (1 : Int) < q := by omega
  obtain ⟨h1, h2, h3, h4⟩ := redM_ok hp0 H h.vec h.one h.low h.lt v hv
  have hvX := vec_cons hX hv
  have inX : ∀ a ∈ H, Spn q m (v :: X) a.2 := fun a ha => ((h.sp _).mp (Spn.self hp0 h.vec (List.mem_map.mpr ⟨a, ha, rfl⟩))).mono fun b hb => List.mem_cons_of_mem _ hb
  have sv : Spn q m (v :: X) (redM q H v) := (h4 _ hvX inX).mpr (Spn.self hp0 hvX (List.mem_cons_self ..))
  have inH : ∀ a ∈ H, Spn q m (H.map (·.2)) a.2 := fun a ha => Spn.self hp0 h.vec (List.mem_map.mpr ⟨a, ha, rfl⟩)
  have iff0 : Spn q m X v ↔ redM q H v = zer m := by
    rw [← h.sp, ← h4 _ h.vec inH]
    exact ⟨fun s => zero_low hp1 H h.vec h.one h.low h.lt _ s h2, fun e => by rw [e]; exact .zero⟩
  unfold addM
  cases e : idxM (redM q H v) with
  | nil =>
    have z : redM q H v = zer m := vec_ext h1 (vec_zer hp0 m) fun i hi => by
      rw [en_zer]
      have : ¬ en (redM q H v) i ≠ 0 := fun c => by
        have := mem_idxM.mpr ⟨by rw [h1.1]; exact hi, c⟩
        rw [e] at this
        cases this
      rw [Classical.not_not.mp this]
    have sX := iff0.mpr z
    refine ⟨h.vec, h.one, h.low, h.lt, fun w => (h.sp w).trans ⟨fun s => s.mono fun b hb => List.mem_cons_of_mem _ hb, fun s => s.trans hp0 hX fun b hb => ?_⟩, by rw [rkS_in sX]; exact h.cnt⟩
    rcases List.mem_cons.mp hb with rfl | hb
    · exact sX
    · exact .self hp0 hX hb
  | cons k more =>
    obtain ⟨hk, nk⟩ := mem_idxM.mp (by rw [e]; exact List.mem_cons_self .. : k ∈ idxM (redM q H v))
    have hkm : k < m := by rw [← h1.1]; exact hk
    have rng := en_lt h1 hp0 k
    obtain ⟨t, et, lt, ht, _⟩ := turn_ok ip hq (c := en (redM q H v) k) (by rw [Int.emod_eq_of_lt rng.1 rng.2]; exact nk)
    show TP (q : Int) m (v :: X) (H ++ [(k, (redM q H v).map fun x => (((turnM q (en (redM q H v) k)).getD 0 0 : Nat) * x) % (q : Int))])
    rw [et, scale_axp hp0 h1.1]
    have vn : Vec q m (axp q t (redM q H v) (zer m)) := vec_axp hp0 h1.1 (zer_len m)
    have en1 : ∀ i, i < m → en (axp q t (redM q H v) (zer m)) i = (t * en (redM q H v) i) % q := fun i hi => by rw [en_axp h1.1 (zer_len m) hi, en_zer, Int.add_zero]
    have nsp : ¬ Spn q m X v := fun s => by
      rw [iff0.mp s, en_zer] at nk
      exact nk rfl
    have vA : VecS q m ((H ++ [(k, axp q t (redM q H v) (zer m))]).map (·.2)) := fun b hb => by
      rw [List.map_append] at hb
      rcases List.mem_append.mp hb with hb | hb
      · exact h.vec b hb
      · rw [List.mem_singleton.mp hb]; exact vn
    have subA : ∀ b ∈ H.map (·.2), b ∈ (H ++ [(k, axp q t (redM q H v) (zer m))]).map (·.2) := fun b hb => by rw [List.map_append]; exact List.mem_append_left _ hb
    have sn : Spn q m ((H ++ [(k, axp q t (redM q H v) (zer m))]).map (·.2)) (axp q t (redM q H v) (zer m)) := .self hp0 vA (by simp)
    -- the reduced row is spanned by the scaled one
    have back : redM q H v = axp q (en (redM q H v) k) (axp q t (redM q H v) (zer m)) (zer m) := vec_ext h1 (vec_axp hp0 vn.1 (zer_len m)) fun i hi => by
      rw [en_axp vn.1 (zer_len m) hi, en1 i hi, en_zer, Int.add_zero, Int.emod_emod_of_dvd _ (Int.dvd_refl _), Int.mul_emod, Int.emod_emod_of_dvd _ (Int.dvd_refl _), ← Int.mul_emod, ← Int.mul_assoc, Int.mul_comm (en (redM q H v) k), Int.mul_emod, ht, Int.one_mul, Int.emod_emod_of_dvd _ (Int.dvd_refl _)]
    have sA : Spn q m ((H ++ [(k, axp q t (redM q H v) (zer m))]).map (·.2)) (redM q H v) := by
      have c := Spn.comb hp0 vA (en (redM q H v) k) sn .zero
      rw [← back] at c
      exact c
    have sv2 : Spn q m ((H ++ [(k, axp q t (redM q H v) (zer m))]).map (·.2)) v := (h4 _ vA fun a ha => (inH a ha).mono subA).mp sA
    refine ⟨vA, fun a ha => ?_, List.pairwise_append.mpr ⟨h.low, List.pairwise_singleton _ _, fun a ha b hb => ?_⟩, fun a ha => ?_, fun w => ⟨fun s => s.trans hp0 hvX fun b hb => ?_, fun s => s.trans hp0 vA fun b hb => ?_⟩, by rw [rkS_out nsp, List.length_append, List.length_singleton, h.cnt]⟩
    · rcases List.mem_append.mp ha with ha | ha
      · exact h.one a ha
      · rw [List.mem_singleton.mp ha]
        show en (axp q t (redM q H v) (zer m)) k = 1
        rw [en1 k hkm]
        exact ht
    · rw [List.mem_singleton.mp hb]
      show en (axp q t (redM q H v) (zer m)) a.1 = 0
      rw [en1 _ (h.lt a ha), h2 a ha, Int.mul_zero]
      exact Int.zero_emod _
    · rcases List.mem_append.mp ha with ha | ha
      · exact h.lt a ha
      · rw [List.mem_singleton.mp ha]; exact hkm
    · rw [List.map_append] at hb
      rcases List.mem_append.mp hb with hb | hb
      · obtain ⟨a, ha, rfl⟩ := List.mem_map.mp hb
        exact inX a ha
      · rw [List.mem_singleton.mp hb]
        exact Spn.comb hp0 hvX _ sv .zero
    · rcases List.mem_cons.mp hb with rfl | hb
      · exact sv2
      · exact ((h.sp b).mpr (.self hp0 hX hb)).mono subA
/-! ### the ranks of lots of columns -/
end
end Z
set_option Elab.async false
set_option linter.all false
set_option maxRecDepth 100000
set_option maxHeartbeats 4000000
/-! Z45: a loop that looks for the first thing of a kind and returns it. -/
namespace Z
open PySem PySem.Spec PyProof.Rows L2
section
variable {K : PySem.W.Frag} {S : Option (Addr × Addr)}
/-- a starred list or tuple of things without lists -/
def dStarS (m : DM) (ms : DMs) : DMs := fun ρ R => m ρ fun d => asSeq d fun xs => solids xs = true ∧ ms ρ fun ds => R (xs ++ ds)
end
end Z
set_option Elab.async false
set_option linter.all false
set_option maxRecDepth 100000
set_option maxHeartbeats 4000000
/-! Z46: x.bit_length(), x ^= e, a copy of a dict with keys that are ints or texts. -/
namespace Z
open PySem PySem.Spec PyProof.Rows L2
section
variable {X : Cx}
theorem ip_xor : PIp X .BitXor (ipI fun i j => Builtin.bitXor i j) := by
  intro pins s σ H x y v u Q I r1 r2 h
  obtain ⟨i, j, e1, e2, q⟩ := h
  subst e1; subst e2
  obtain ⟨t, rfl⟩ := r1
  obtain ⟨t', rfl⟩ := r2
  exact ixor_int ⟨.int _, H, I.tok _, ⟨_, rfl⟩, q⟩
/-- dict(d) -/
def rDictD : List V → Hp → VK → Prop := fun xs H Q => ∃ (a : Addr) (kvs : List (Key × V)), xs = [.ref a] ∧ Rd H a (.dK kvs) ∧ ∀ p, H p = none → Q (.ref p) (upd H p (.dK kvs))
theorem cr_dictD : CallR X (.type "dict") rDictD := call_dictD
end
section
variable {K : PySem.W.Frag} {S : Option (Addr × Addr)}
def dBits (m : DM) : DM := fun ρ R => m ρ fun d => asI d fun i => R (.int ((Builtin.Int.intBits i : Nat) : Int))
theorem de_bits {te : TE} {m : DM} {U : List Nat} (h : DE K S te m U) : DE K S (tBits te) (dBits m) [] := fun G H ρ σ fps E R hm Q q =>
  h G H ρ σ fps E _ hm _ fun d v H1 fp hR e1 s1 r1 n1 f1 => by
    obtain ⟨i, rfl, hR⟩ := asI_ok hR
    obtain rfl := rp_int r1
    exact ⟨i, rfl, q _ _ H1 [] hR e1 s1 (int_rp H1) .nil .nil⟩
theorem rpk_solid {c : Zc} {H : Hp} : ∀ {kvs : List (D × D)} {ys xs : List V} {fp : List Addr}, Rpk c H kvs ys xs fp → (∀ p ∈ kvs, solid p.2 = true) → fp = []
  | [], _, _, _, h, _ => by simp only [Rpk] at h; exact h.2.2
  | (k, d) :: kvs, ys, xs, fp, h, s => by
    simp only [Rpk] at h
    obtain ⟨y, ys', x, xs', f1, f2, rfl, rfl, rfl, h0, h1, h2⟩ := h
    rw [h1.solid _ _ _ (s (k, d) (List.mem_cons_self ..)), rpk_solid h2 fun p hp => s p (List.mem_cons_of_mem _ hp)]
    rfl
theorem nkey_key (k : Key) : ∀ l, nkey (keyD k) ≠ some (.tup l) := fun l => by
  cases k <;> simp [keyD, nkey]
/-- dict(d), its keys ints or texts, its values without lists of their own -/
def fDictCp : List D → (D → Prop) → Prop := fun ds R => match ds with
  | [d] => ∃ kvs, IsDc d kvs ∧ (∃ kk : List Key, kvs.map (·.1) = kk.map keyD) ∧ (∀ p ∈ kvs, solid p.2 = true) ∧ R (.dict kvs)
  | _ => False
theorem cd_dictCp : CallD K S rDictD fDictCp := fun H xs ds fp s r n R hf Q q => by
  unfold fDictCp at hf
  split at hf
  · obtain ⟨x, rfl, rx⟩ := rps_one r
    obtain ⟨kvs, l, ⟨kk, ek⟩, so, hR⟩ := hf
    obtain ⟨a, ys, xs, gp, u, rfl, ha, hu, hr, sub, nd⟩ := l.rp rx
    have z := rpk_solid hr so
    subst z
    have hk : ∀ p ∈ kvs, KeyOk p.1 := fun p hp => by
      have : p.1 ∈ kk.map keyD := ek ▸ List.mem_map.mpr ⟨p, hp, rfl⟩
      obtain ⟨k, _, e⟩ := List.mem_map.mp this
      exact .inl ⟨k, e.symm⟩
    rcases hu with ⟨kk2, e2, nd2, l2, rfl⟩ | ⟨rows, h1, h2, h3, _⟩
    · refine ⟨a, _, rfl, ha, fun p hp => ?_⟩
      have e := Ext.new (c := ⟨K, S⟩) (o := .dK (kk2.zip xs)) hp
      have ps := s.fresh hp
      refine q (.dict kvs) (.ref p) _ [p] hR e (s.new hp) ((rp_dict (plainK_of hk)).mpr ⟨p, ys, xs, [], rfl, rfl, ?_, _, upd_same, .inl ⟨kk2, e2, nd2, l2, rfl⟩⟩) (fun b hb => by rw [List.mem_singleton.mp hb]; exact ps) (List.pairwise_singleton _ _) fun b hb => by rw [List.mem_singleton.mp hb]; exact hp
      exact hr.mono (e.tk s) _ _ _ _ fun b hb => by cases hb
    · exfalso
      rw [ek] at h2
      cases rows with
      | nil => exact h1 rfl
      | cons rw_ rows =>
        obtain ⟨_, l', el⟩ := h3 rw_ (List.mem_cons_self ..)
        cases kk with
        | nil => simp at h2
        | cons k kk =>
          simp only [List.map_cons, List.cons.injEq] at h2
          exact nkey_key k l' (by rw [h2.1, el])
  · exact hf.elim
end
end Z
set_option Elab.async false
set_option linter.all false
set_option maxRecDepth 100000
set_option maxHeartbeats 4000000
/-! Z47: dict displays whose keys are unlike ints or texts, whose values hold no lists of their own. -/
namespace Z
open PySem PySem.Spec PyProof.Rows L2
section
variable {K : PySem.W.Frag} {S : Option (Addr × Addr)}
def PsOk (c : Zc) (H : Hp) : List (D × D) → List (V × V) → Prop
  | [], [] => True
  | (k, d) :: ps, (x, y) :: vs => Rp c H k x [] ∧ Rp c H d y [] ∧ PsOk c H ps vs
  | _, _ => False
def dPairs (ρ : En) : List (DM × DM) → (List (D × D) → Prop) → Prop
  | [], R => R []
  | (mk, mv) :: ms, R => mk ρ fun k => (∃ kk : Key, k = keyD kk) ∧ mv ρ fun v => solid v = true ∧ dPairs ρ ms fun ps => R ((k, v) :: ps)
def DPs (K : PySem.W.Frag) (S : Option (Addr × Addr)) (trs : List (TE × TE)) (ms : List (DM × DM)) : Prop :=
  ∀ (G H : Hp) (ρ : En) (σ : L2.St) (fps : Nat → List Addr), EnvAt ⟨K, S⟩ G H ρ σ fps → ∀ R : List (D × D) → Prop, dPairs ρ ms R → ∀ Q : List (V × V) → Hp → Prop,
    (∀ ps vs H', R ps → Ext ⟨K, S⟩ H H' → SrcAt ⟨K, S⟩ H' → PsOk ⟨K, S⟩ H' ps vs → Q vs H') → tPairs trs σ H Q
theorem key_solid (k : Key) : solid (keyD k) = true := by cases k <;> simp [keyD, solid]
theorem dps_nil : DPs K S [] [] := fun G H ρ σ fps E R hm Q q => q [] [] H hm (.refl _ _) E.src trivial
theorem dps_cons {tk tv : TE} {mk mv : DM} {U V : List Nat} {trs : List (TE × TE)} {ms : List (DM × DM)} (hk : DE K S tk mk U) (hv : DE K S tv mv V) (hr : DPs K S trs ms) : DPs K S ((tk, tv) :: trs) ((mk, mv) :: ms) := fun G H ρ σ fps E R hm Q q =>
  hk G H ρ σ fps E _ hm _ fun k x H1 f1 hR1 e1 s1 r1 n1 _ => by
    obtain ⟨⟨kk, rfl⟩, hR1⟩ := hR1
    have z := r1.solid _ _ _ (key_solid kk)
    subst z
    have E1 := E.step e1 s1
    refine hv G H1 ρ σ fps E1 _ hR1 _ fun v y H2 f2 hR2 e2 s2 r2 n2 _ => ?_
    obtain ⟨so, hR2⟩ := hR2
    have z := r2.solid _ _ _ so
    subst z
    refine hr G H2 ρ σ fps (E1.step e2 s2) _ hR2 _ fun ps vs H3 hR3 e3 s3 ok => ?_
    exact q _ _ H3 hR3 ((e1.trans e2).trans e3) s3 ⟨(r1.ext .nil e2 s1).ext .nil e3 s2, r2.ext .nil e3 s2, ok⟩
theorem psOk_mono {c : Zc} {H H' : Hp} (t : Tk H H') : ∀ {ps : List (D × D)} {vs : List (V × V)}, PsOk c H ps vs → PsOk c H' ps vs
  | [], [], _ => trivial
  | [], _ :: _, h => h
  | _ :: _, [], h => h
  | (k, d) :: ps, (x, y) :: vs, h => ⟨h.1.mono t _ _ _ fun a ha => (by cases ha), h.2.1.mono t _ _ _ fun a ha => (by cases ha), psOk_mono t h.2.2⟩
theorem psOk_rpk {c : Zc} {H : Hp} : ∀ {ps : List (D × D)} {vs : List (V × V)}, PsOk c H ps vs → Rpk c H ps (vs.map (·.1)) (vs.map (·.2)) []
  | [], [], _ => by simp [Rpk]
  | [], _ :: _, h => h.elim
  | _ :: _, [], h => h.elim
  | (k, d) :: ps, (x, y) :: vs, h => by
    simp only [List.map_cons, Rpk]
    exact ⟨x, _, y, _, [], [], rfl, rfl, rfl, h.1, h.2.1, psOk_rpk h.2.2⟩
theorem psOk_keys {c : Zc} {H : Hp} : ∀ {ps : List (D × D)} {vs : List (V × V)} {kk : List Key}, PsOk c H ps vs → ps.map (·.1) = kk.map keyD → vs = (kk.zip (vs.map (·.2))).map fun kv => (kV kv.1, kv.2)
  | [], [], kk, _, e => by
    cases kk <;> simp at e ⊢
  | [], _ :: _, _, h, _ => h.elim
  | _ :: _, [], _, h, _ => h.elim
  | (k, d) :: ps, (x, y) :: vs, kk, h, e => by
    cases kk with
    | nil => simp at e
    | cons a kk =>
      simp only [List.map_cons, List.cons.injEq] at e
      have ih := psOk_keys h.2.2 e.2
      simp only [List.map_cons, List.zip_cons_cons]
      rw [← ih]
      congr 1
      have hk := h.1
      rw [show k = keyD a from e.1] at hk
      cases a <;> simp only [keyD, Rp] at hk <;> rw [hk.1] <;> rfl
theorem mergeK_new : ∀ (more kvs : List (Key × V)), ((kvs ++ more).map (·.1)).Nodup → mergeK kvs more = kvs ++ more
  | [], kvs, _ => by simp [mergeK]
  | p :: more, kvs, nd => by
    have e : putK kvs p.1 p.2 = kvs ++ [p] := by
      unfold putK
      rw [if_neg]
      intro z
      obtain ⟨a, ha, hb⟩ := List.any_eq_true.mp z
      rw [List.map_append, List.nodup_append] at nd
      exact nd.2.2 a.1 (List.mem_map.mpr ⟨a, ha, rfl⟩) p.1 (by simp) (of_decide_eq_true hb)
    have : mergeK kvs (p :: more) = mergeK (putK kvs p.1 p.2) more := rfl
    rw [this, e, mergeK_new more (kvs ++ [p]) (by rw [List.append_assoc]; exact nd), List.append_assoc]
    rfl
theorem psOk_len {c : Zc} {H : Hp} : ∀ {ps : List (D × D)} {vs : List (V × V)}, PsOk c H ps vs → vs.length = ps.length
  | [], [], _ => rfl
  | [], _ :: _, h => h.elim
  | _ :: _, [], h => h.elim
  | (k, d) :: ps, (x, y) :: vs, h => by rw [List.length_cons, List.length_cons, psOk_len h.2.2]
/-- a dict display -/
def dDisp (ms : List (DM × DM)) : DM := fun ρ R => dPairs ρ ms fun ps => ∃ kk : List Key, ps.map (·.1) = kk.map keyD ∧ kk.Nodup ∧ ps.length ≤ 15 ∧ R (.dict ps)
theorem de_disp {trs : List (TE × TE)} {ms : List (DM × DM)} (h : DPs K S trs ms) : DE K S (tDisp trs) (dDisp ms) [] := fun G H ρ σ fps E R hm Q q p hp => by
  have e0 := Ext.new (c := ⟨K, S⟩) (o := .dK []) hp
  have s0 := E.src.new (o := .dK []) hp
  refine h G _ ρ σ fps (E.step e0 s0) _ hm _ fun ps vs H2 hR e s ok => ?_
  obtain ⟨kk, ek, nd, hl, hR⟩ := hR
  have np : ¬ Zc.has ⟨K, S⟩ p := E.src.fresh hp
  have hp2 : H2 p = some (.dK []) := e p _ upd_same np
  have lk : kk.length = ps.length := by
    have := congrArg List.length ek
    rw [List.length_map, List.length_map] at this
    exact this.symm
  have lv := psOk_len ok
  have ez : (kk.zip (vs.map (·.2))).length = ps.length := by rw [List.length_zip, List.length_map, lk, lv, Nat.min_self]
  have em : mergeK [] (kk.zip (vs.map (·.2))) = kk.zip (vs.map (·.2)) := by
    rw [mergeK_new _ []]
    · rfl
    · rw [List.nil_append, List.map_fst_zip (by rw [List.length_map, lk, lv]; exact Nat.le_refl _)]
      exact nd
  have tk : Tk H2 (upd H2 p (.dK (kk.zip (vs.map (·.2))))) := fun a o ha hf => by
    rw [upd_ne fun z => by rw [z, hp2] at ha; cases ha; exact hf]
    exact ha
  have hk : ∀ q ∈ ps, KeyOk q.1 := fun q hq => by
    have : q.1 ∈ kk.map keyD := ek ▸ List.mem_map.mpr ⟨q, hq, rfl⟩
    obtain ⟨k, _, e⟩ := List.mem_map.mp this
    exact .inl ⟨k, e.symm⟩
  refine ⟨hp2, kk.zip (vs.map (·.2)), psOk_keys ok ek, by omega, ?_⟩
  rw [em]
  refine q (.dict ps) (.ref p) _ [p] hR (fun a o ha hn => ?_) (s.own np) ((rp_dict (plainK_of hk)).mpr ⟨p, _, _, [], rfl, rfl, psOk_rpk (psOk_mono tk ok), _, upd_same, .inl ⟨kk, ek, nd, by rw [List.length_map, lk, lv], rfl⟩⟩) (fun b hb => by rw [List.mem_singleton.mp hb]; exact np) (.new hp)
  rw [upd_ne fun z => by rw [z, hp] at ha; cases ha]
  exact e a o (e0 a o ha hn) hn
/-- x = y, y an own list or dict that is not asked for again: what y held is x's own now -/
def sMove (i j : Nat) : DMS := fun ρ R => ∃ d, ρ[j]? = some (.own d) ∧ R.nx ((hide [j] ρ).set i (.own d))
end
end Z
set_option Elab.async false
set_option linter.all false
set_option maxRecDepth 100000
set_option maxHeartbeats 4000000
/-! Z48: min of a list of any data that can be compared. -/
namespace Z
open PySem PySem.Spec PyProof.Rows L2 PySem.W
section
variable {X : Cx}
def rMinD (K : PySem.W.Frag) : List V → Hp → VK → Prop := fun vs H Q => ∃ (a : Addr) (xs : List V) (x : D) (r : List D), vs = [V.ref a] ∧ SqL K H a xs ∧ DpAll K H xs (x :: r) ∧ xs.length = (x :: r).length ∧ AlikeAll (x :: r) ∧ PyData.depthAll (x :: r) ≤ 50 ∧ ∀ (i : Nat) (v : V), xs[i]? = some v → (x :: r)[i]? = some (minD x r) → Q v H
theorem vals_back : ∀ {xs : List V} {us : List Value} {i : Nat} {u : Value}, Vals xs us → us[i]? = some u → ∃ v, xs[i]? = some v ∧ RelV v u
  | _, _, i, u, .nil, h => by simp at h
  | _, _, 0, u, .cons h r, e => by
    simp only [List.getElem?_cons_zero, Option.some.injEq] at e
    subst e
    exact ⟨_, rfl, h⟩
  | _, _, i + 1, u, .cons h r, e => by
    obtain ⟨v, e1, e2⟩ := vals_back (i := i) r (by simpa using e)
    exact ⟨v, by simpa using e1, e2⟩
theorem cr_minD (hc : X.calm = true) (hu : X.A.units + 64 < cLine) : CallR X (.builtin "min") (rMinD X.K) := fun pins s σ H vs us Q I r h => by
  obtain ⟨a, xs, x, rs, rfl, hs, hd, hl, al, hdp, q⟩ := h
  obtain ⟨u, rfl, ru⟩ := vals1 r
  cases ru
  obtain ⟨its, rv, pl, hz⟩ := I.list hs
  obtain ⟨as, rr⟩ := Dp.readsAll I (x :: rs) _ its hd rv
  refine min_list_data (I.ok.hd hc) pl.isList (by rw [List.toList_toArray]; exact rr) al (by omega) fun i v h' tk bs hv rd kp => ?_
  have hv : its[i]? = some v := by simpa using hv
  obtain ⟨y, e1, e2⟩ := vals_back rv hv
  obtain ⟨bs2, g1, g2, _, _⟩ := readsAll_at (vs := its) rr i v hv
  have e3 := (reads_det (fun b o e _ => kp b o e) g1 rd).1
  have J : Inv X pins σ H { s with heap := h', toks := tk } := I.kept (t' := tk) kp
  refine ⟨y, H, J, e2, q i y e1 ?_⟩
  rw [e3, List.getD_eq_getElem?_getD, List.getElem?_eq_getElem g2]
  rfl
end
section
variable {K : PySem.W.Frag} {S : Option (Addr × Addr)}
def fMinD : List D → (D → Prop) → Prop := fun ds R => match ds with
  | [.list (x :: r)] => solids (x :: r) = true ∧ PyData.plainAll (x :: r) = true ∧ AlikeAll (x :: r) ∧ PyData.depthAll (x :: r) ≤ 50 ∧ R (minD x r)
  | _ => False
theorem cd_minD : CallD K S (rMinD K) fMinD := fun H vs ds fp s r n R hf Q q => by
  unfold fMinD at hf
  split at hf
  · rename_i x rs
    obtain ⟨so, pl, al, dp, hR⟩ := hf
    obtain ⟨u, rfl, ru⟩ := rps_one r
    simp only [Rp] at ru
    obtain ⟨a, xs, gp, rfl, rfl, ha, hx⟩ := ru
    have z := hx.solid _ _ _ so
    subst z
    refine ⟨a, xs, x, rs, rfl, .of ha, hx.dp _ _ _ pl, hx.len, al, dp, fun i v hv hi => ?_⟩
    obtain ⟨w, gp, e1, e2, e3, _⟩ := hx.at hi
    rw [hv] at e1
    cases e1
    have : gp = [] := List.eq_nil_iff_forall_not_mem.mpr fun b hb => by cases e3 b hb
    subst this
    exact q _ v H [] hR (.refl _ _) s e2 .nil List.nodup_nil fun b hb => by cases hb
  · exact hf.elim
end
end Z
set_option Elab.async false
set_option linter.all false
set_option maxRecDepth 100000
set_option maxHeartbeats 4000000
/-! G33: anything as a rank table: its first fault. -/
namespace Z
open PySem PySem.Spec PyProof.Rows L2
theorem or_add : ∀ {p x : Nat}, Nat.testBit x p = false → x ||| 2 ^ p = x + 2 ^ p
  | 0, x, h => by
    have hx : x % 2 = 0 := by
      rw [Nat.testBit_zero] at h
      have := decide_eq_false_iff_not.mp h
      omega
    have e : x = 2 ^ 1 * (x / 2) + 0 := by omega
    have := Nat.two_pow_add_eq_or_of_lt (i := 1) (b := 1) (by decide) (x / 2)
    rw [Nat.pow_zero]
    have e2 : x = 2 ^ 1 * (x / 2) := by omega
    rw [← e2] at this
    exact this.symm
  | p + 1, x, h => by
    rw [Nat.testBit_add_one] at h
    have ih := or_add h
    have d1 := Nat.or_div_two (a := x) (b := 2 ^ (p + 1))
    have d2 : 2 ^ (p + 1) / 2 = 2 ^ p := by rw [Nat.pow_succ]; omega
    rw [d2, ih] at d1
    have m1 := Nat.or_mod_two_pow (a := x) (b := 2 ^ (p + 1)) (n := 1)
    have m2 : 2 ^ (p + 1) % 2 ^ 1 = 0 := by rw [Nat.pow_succ]; omega
    rw [m2, Nat.or_zero] at m1
    have : 2 ^ (p + 1) = 2 * 2 ^ p := by rw [Nat.pow_succ]; omega
    omega
/-! ### the first fault -/
end Z
set_option Elab.async false
set_option linter.all false
set_option maxRecDepth 100000
set_option maxHeartbeats 4000000
/-! G34: code papers of a table: the told base, the first four, a paper. -/
namespace Z
open PySem PySem.Spec PyProof.Rows L2
theorem xor_sub {x h : Nat} (b : Nat.testBit x h = true) : x ^^^ 2 ^ h = x - 2 ^ h ∧ Nat.testBit (x ^^^ 2 ^ h) h = false := by
  have f : Nat.testBit (x ^^^ 2 ^ h) h = false := by
    rw [Nat.testBit_xor, b, Nat.testBit_two_pow_self]; rfl
  refine ⟨?_, f⟩
  have e := or_add f
  have : (x ^^^ 2 ^ h) ||| 2 ^ h = x := Nat.eq_of_testBit_eq fun i => by
    rw [Nat.testBit_or, Nat.testBit_xor, Nat.testBit_two_pow]
    by_cases c : h = i
    · subst c; simp [b]
    · simp [c]
  omega
theorem xor_nat (x y : Nat) : Builtin.bitXor (x : Int) (y : Int) = ((x ^^^ y : Nat) : Int) := by
  rw [Bits.bitXor_pp (Int.natCast_nonneg _) (Int.natCast_nonneg _), Int.toNat_natCast, Int.toNat_natCast]
/-! ### the told base -/
/-! ### the first four -/
/-! ### a paper -/
/-! ### papers judged -/
end Z
set_option Elab.async false
set_option linter.all false
set_option maxRecDepth 100000
set_option maxHeartbeats 4000000
/-! G35: rows told as numbers, kept by their greatest bit: a base of what they span; ranks of all lots of places. -/
namespace Z
open PySem PySem.Spec PyProof.Rows L2
section
variable {m : Nat} {H X : List (List Bool)}
theorem top_high : ∀ {v : List Bool} {p : Nat}, top v < p → gt v p = false
  | [], p, _ => rfl
  | b :: bs, p, h => by
    unfold top at h
    cases p with
    | zero => split at h <;> omega
    | succ p =>
      rw [gt_cons]
      by_cases c : bs.contains true = true
      · rw [if_pos c] at h
        exact top_high (by omega)
      · rw [if_neg c] at h
        have hz : bs = nul bs.length := not_nul rfl fun z => c (List.contains_iff_mem.mpr z)
        rw [hz, gt_nul]
theorem top_is {v : List Bool} {p : Nat} (h1 : gt v p = true) (h2 : ∀ q, p < q → gt v q = false) : top v = p := by
  have ht : true ∈ v := by
    have hp : p < v.length := Classical.byContradiction fun z => by rw [gt_out (by omega)] at h1; cases h1
    unfold gt at h1
    rw [List.getD_eq_getElem?_getD, List.getElem?_eq_getElem hp] at h1
    exact h1 ▸ List.getElem_mem hp
  have h3 := top_gt ht
  rcases Nat.lt_trichotomy (top v) p with c | c | c
  · rw [top_high c] at h1; cases h1
  · exact c
  · rw [h2 _ c] at h3; cases h3
theorem gt_any {v : List Bool} {p : Nat} (h1 : gt v p = true) : true ∈ v := by
  have hp : p < v.length := Classical.byContradiction fun z => by rw [gt_out (by omega)] at h1; cases h1
  unfold gt at h1
  rw [List.getD_eq_getElem?_getD, List.getElem?_eq_getElem hp] at h1
  exact h1 ▸ List.getElem_mem hp
theorem top_xr {a b : List Bool} (l : a.length = b.length) (ha : true ∈ a) (hb : true ∈ b) (ne : top a ≠ top b) : true ∈ xr a b ∧ (top (xr a b) = top a ∨ top (xr a b) = top b) := by
  rcases Nat.lt_or_gt_of_ne ne with c | c
  · have g : gt (xr a b) (top b) = true := by rw [gt_xr l, top_high c, top_gt hb]; rfl
    exact ⟨gt_any g, .inr (top_is g fun q hq => by rw [gt_xr l, top_high (by omega), top_high hq]; rfl)⟩
  · have g : gt (xr a b) (top a) = true := by rw [gt_xr l, top_high c, top_gt ha]; rfl
    exact ⟨gt_any g, .inl (top_is g fun q hq => by rw [gt_xr l, top_high hq, top_high (v := b) (by omega)]; rfl)⟩
theorem num_top : ∀ {v : List Bool}, true ∈ v → 2 ^ top v ≤ numB v ∧ numB v < 2 ^ (top v + 1)
  | [], z => by cases z
  | b :: bs, z => by
    unfold numB top
    by_cases c : bs.contains true = true
    · rw [if_pos c]
      obtain ⟨h1, h2⟩ := num_top (v := bs) (by simpa using c)
      have e1 : 2 ^ (top bs + 1) = 2 * 2 ^ top bs := by rw [Nat.pow_succ]; omega
      have e2 : 2 ^ (top bs + 1 + 1) = 2 * 2 ^ (top bs + 1) := by rw [Nat.pow_succ]; omega
      have e3 : ∀ b : Bool, bN b ≤ 1 := fun b => by cases b <;> decide
      have := e3 b
      omega
    · rw [if_neg c]
      have hz : bs = nul bs.length := not_nul rfl fun y => c (List.contains_iff_mem.mpr y)
      have hb : b = true := by
        rcases List.mem_cons.mp z with y | y
        · exact y.symm
        · exact absurd (List.contains_iff_mem.mpr y) c
      rw [hb, hz, numB_nul]
      decide
theorem bits_num {v : List Bool} (h : true ∈ v) : Builtin.Int.intBits ((numB v : Nat) : Int) = top v + 1 := by
  obtain ⟨h1, h2⟩ := num_top h
  have p := Nat.two_pow_pos (top v)
  unfold Builtin.Int.intBits
  rw [if_neg (by simp; omega), Int.natAbs_natCast, (Nat.log2_eq_iff (by omega)).mpr ⟨h1, h2⟩]
theorem bits_nat {x p : Nat} (h1 : 2 ^ p ≤ x) (h2 : x < 2 ^ (p + 1)) : Builtin.Int.intBits ((x : Nat) : Int) = p + 1 := by
  have q := Nat.two_pow_pos p
  unfold Builtin.Int.intBits
  rw [if_neg (by simp; omega), Int.natAbs_natCast, (Nat.log2_eq_iff (by omega)).mpr ⟨h1, h2⟩]
/-! ### bases with unlike greatest bits -/
structure DH (m : Nat) (H : List (List Bool)) : Prop where
  len : Len m H
  any : ∀ h ∈ H, true ∈ h
  nd : (H.map top).Nodup
theorem DH.nil : DH m [] := ⟨fun h z => (by cases z), fun h z => (by cases z), .nil⟩
theorem DH.tail {h : List Bool} (d : DH m (h :: H)) : DH m H := ⟨fun x hx => d.len x (List.mem_cons_of_mem _ hx), fun x hx => d.any x (List.mem_cons_of_mem _ hx), (List.nodup_cons.mp d.nd).2⟩
/-- what such a base spans has one of its greatest bits -/
theorem DH.tops : ∀ {H : List (List Bool)}, DH m H → ∀ {v : List Bool}, Sp m H v → v ≠ nul m → true ∈ v ∧ ∃ h ∈ H, top h = top v
  | [], _, v, s, ne => absurd (sp_nil s) ne
  | h :: H, d, v, s, ne => by
    have lh := d.len h (List.mem_cons_self ..)
    have hh := d.any h (List.mem_cons_self ..)
    rcases sp_split lh d.tail.len s with z | ⟨w, z, rfl⟩
    · obtain ⟨h1, a, ha, e⟩ := d.tail.tops z ne
      exact ⟨h1, a, List.mem_cons_of_mem _ ha, e⟩
    · by_cases c : w = nul m
      · subst c
        rw [xr_nul lh]
        exact ⟨hh, h, List.mem_cons_self .., rfl⟩
      · obtain ⟨h1, a, ha, e⟩ := d.tail.tops z c
        have lw : w.length = m := z.len d.tail.len
        have ne2 : top h ≠ top w := fun q => (List.nodup_cons.mp d.nd).1 (List.mem_map.mpr ⟨a, ha, by rw [e, q]⟩)
        obtain ⟨g1, g2⟩ := top_xr (by rw [lh, lw]) hh h1 ne2
        refine ⟨g1, ?_⟩
        rcases g2 with g2 | g2
        · exact ⟨h, List.mem_cons_self .., g2.symm⟩
        · exact ⟨a, List.mem_cons_of_mem _ ha, by rw [e, g2]⟩
theorem DH.out (d : DH m H) {v : List Bool} (hv : true ∈ v) (lv : v.length = m) (h : top v ∉ H.map top) : ¬ Sp m H v := fun s => by
  obtain ⟨_, a, ha, e⟩ := d.tops s (fun z => by rw [z] at hv; exact absurd hv (fun q => by have := top_gt q; rw [gt_nul] at this; cases this))
  exact h (List.mem_map.mpr ⟨a, ha, e⟩)
theorem DH.add (d : DH m H) {v : List Bool} (hv : true ∈ v) (lv : v.length = m) (h : top v ∉ H.map top) : DH m (H ++ [v]) := by
  refine ⟨fun x hx => ?_, fun x hx => ?_, ?_⟩
  · rcases List.mem_append.mp hx with z | z
    · exact d.len x z
    · rw [List.mem_singleton.mp z]; exact lv
  · rcases List.mem_append.mp hx with z | z
    · exact d.any x z
    · rw [List.mem_singleton.mp z]; exact hv
  · rw [List.map_append]
    refine List.nodup_append.mpr ⟨d.nd, List.pairwise_singleton _ _, fun a ha b hb => ?_⟩
    rw [List.map_singleton, List.mem_singleton] at hb
    rintro rfl
    exact h (hb ▸ ha)
theorem DH.ind : ∀ (k : Nat) {H : List (List Bool)}, H.length = k → DH m H → Ind m H
  | 0, H, l, d => by rw [List.eq_nil_of_length_eq_zero l]; exact ind_nil
  | k + 1, H, l, d => by
    have ne : H ≠ [] := fun z => by rw [z] at l; cases l
    have e := List.dropLast_concat_getLast ne
    have d1 : DH m H.dropLast := ⟨fun x hx => d.len x ((List.dropLast_sublist H).subset hx), fun x hx => d.any x ((List.dropLast_sublist H).subset hx), by
      have := d.nd
      exact List.Nodup.sublist ((List.dropLast_sublist H).map top) this⟩
    have i1 := DH.ind k (by rw [List.length_dropLast]; omega) d1
    have hl := List.getLast_mem ne
    have nd := d.nd
    rw [← e, List.map_append] at nd
    rw [← e]
    refine ind_snoc d1.len (d.len _ hl) i1 (d1.out (d.any _ hl) (d.len _ hl) fun z => ?_)
    exact (List.nodup_append.mp nd).2.2 _ z _ (by simp) rfl
/-- the rank by such a base -/
theorem DH.rank (d : DH m H) (hX : Len m X) (e : ∀ v, Sp m H v ↔ Sp m X v) : H.length = rkN X := rk_ind hX d.len (d.ind _ rfl) e
theorem sp_more {H X : List (List Bool)} (hH : Len m H) (hX : Len m X) (e : ∀ v, Sp m H v ↔ Sp m X v) {c v : List Bool} (lc : c.length = m) (lv : v.length = m) (s : Sp m H (xr c v)) : (v = nul m → ∀ w, Sp m H w ↔ Sp m (X ++ [c]) w) ∧ ∀ w, Sp m (H ++ [v]) w ↔ Sp m (X ++ [c]) w := by
  have lx : (xr c v).length = m := by rw [xr_len (by rw [lc, lv]), lc]
  have lXc : Len m (X ++ [c]) := fun b hb => by
    rcases List.mem_append.mp hb with z | z
    · exact hX b z
    · rw [List.mem_singleton.mp z]; exact lc
  have lHv : Len m (H ++ [v]) := fun b hb => by
    rcases List.mem_append.mp hb with z | z
    · exact hH b z
    · rw [List.mem_singleton.mp z]; exact lv
  have both : ∀ w, Sp m (H ++ [v]) w ↔ Sp m (X ++ [c]) w := fun w => by
    constructor
    · intro h
      refine h.sub lXc fun b hb => ?_
      rcases List.mem_append.mp hb with z | z
      · exact sp_left ((e b).mp (Sp.mem hH z))
      · rw [List.mem_singleton.mp z]
        have h1 : Sp m (X ++ [c]) (xr c v) := sp_left ((e _).mp s)
        have h2 : Sp m (X ++ [c]) c := Sp.mem lXc (by simp)
        have := h2.xr lXc h1
        rwa [xr_back (by rw [lc, lv])] at this
    · intro h
      refine h.sub lHv fun b hb => ?_
      rcases List.mem_append.mp hb with z | z
      · exact sp_left ((e b).mpr (Sp.mem hX z))
      · rw [List.mem_singleton.mp z]
        have h1 : Sp m (H ++ [v]) (xr c v) := sp_left s
        have h2 : Sp m (H ++ [v]) v := Sp.mem lHv (by simp)
        have := h1.xr lHv h2
        have e5 : xr (xr c v) v = c := by rw [xr_assoc (by rw [lc, lv]) rfl, xr_self, lv, xr_nul lc]
        rwa [e5] at this
  refine ⟨fun hv w => ?_, both⟩
  rw [← both w]
  subst hv
  constructor
  · exact sp_left
  · intro h
    refine h.sub hH fun b hb => ?_
    rcases List.mem_append.mp hb with z | z
    · exact Sp.mem hH z
    · rw [List.mem_singleton.mp z]; exact .zero
/-! ### such a base as a dict -/
def bsK (H : List (List Bool)) : List (Nat × Nat) := H.map fun h => (top h + 1, numB h)
def dicK (H : List (List Bool)) : List (D × D) := tD natD natD (bsK H)
def dicH (H : List (List Bool)) : D := frdD (dicK H)
theorem natD_inj : ∀ a b : Nat, natD a = natD b → a = b := fun a b h => by
  have : ((a : Nat) : Int) = ((b : Nat) : Int) := PyData.int.inj h
  omega
theorem bsK_keys (H : List (List Bool)) : (bsK H).map (·.1) = (H.map top).map (· + 1) := by
  unfold bsK
  rw [List.map_map, List.map_map]
  rfl
theorem DH.keys (d : DH m H) : ((bsK H).map (·.1)).Nodup := by
  rw [bsK_keys]
  exact List.pairwise_map.mpr (d.nd.imp fun h e => h (by omega))
theorem dicK_some (d : DH m H) {h : List Bool} (hh : h ∈ H) : kFind (dicK H) (natD (top h + 1)) = some (natD (numB h)) := by
  unfold dicK
  rw [kFind_tD natD_inj, aFind_of_mem d.keys (List.mem_map.mpr ⟨h, hh, rfl⟩)]
  rfl
theorem dicK_in (H : List (List Bool)) (k : Nat) : (kFind (dicK H) (natD (k + 1))).isSome = (H.map top).contains k := by
  unfold dicK
  rw [kFind_tD natD_inj, Option.isSome_map, Bool.eq_iff_iff, aFind_mem, bsK_keys, List.contains_iff_mem, List.mem_map]
  constructor
  · rintro ⟨a, ha, e⟩
    have : a = k := by omega
    exact this ▸ ha
  · intro h
    exact ⟨k, h, rfl⟩
theorem dicK_put {H : List (List Bool)} {v : List Bool} (h : top v ∉ H.map top) : kPut (dicK H) (natD (top v + 1)) (natD (numB v)) = dicK (H ++ [v]) := by
  unfold dicK
  rw [kPut_tD natD_inj]
  have : (aFind (bsK H) (top v + 1)).isSome = false := by
    rw [← Bool.not_eq_true, aFind_mem, bsK_keys, List.mem_map]
    rintro ⟨a, ha, e⟩
    have : a = top v := by omega
    exact h (this ▸ ha)
  unfold aPut
  rw [this, if_neg Bool.false_ne_true]
  unfold bsK
  rw [List.map_append]
  rfl
theorem keyOk_nat (k : Nat) : KeyOk (natD k) := .inl ⟨.inl ((k : Nat) : Int), rfl⟩
theorem homog_nat (H : List (List Bool)) (k : Nat) : Homog (dicK H) (natD k) := homog_tD (t := false) (fun _ => rfl) _ _
theorem plain_dicK (H : List (List Bool)) : plainK (dicK H) := plainK_tD keyOk_nat _
end
end Z
set_option Elab.async false
set_option linter.all false
set_option maxRecDepth 100000
set_option maxHeartbeats 4000000
/-! G36: the least widest and the least total of all orders, lot by lot; bounds of widths. -/
namespace Z
open PySem PySem.Spec PyProof.Rows L2
theorem bit_and1 (x p : Nat) : (Builtin.bitAnd ((x : Int) / 2 ^ p) 1 == 1) = Nat.testBit x p := by
  have e3 : (x : Int) / 2 ^ p = ((x / 2 ^ p : Nat) : Int) := by norm_cast
  rw [e3, bitAnd_pp (Int.natCast_nonneg _) (by decide), tb_div]
  have e4 : ((((x / 2 ^ p : Nat) : Int).toNat &&& (1 : Int).toNat : Nat)) = x / 2 ^ p % 2 := Nat.and_one_is_mod _
  rw [e4]
  rcases Nat.mod_two_eq_zero_or_one (x / 2 ^ p) with z | z <;> rw [z] <;> rfl
/-- the least of some numbers (0 of none) -/
def minI : List Int → Int
  | [] => 0
  | [a] => a
  | a :: l => min a (minI l)
theorem minI_mem : ∀ {l : List Int}, l ≠ [] → minI l ∈ l ∧ ∀ x ∈ l, minI l ≤ x
  | [], h => absurd rfl h
  | [a], _ => ⟨List.mem_singleton.mpr rfl, fun x hx => by rw [List.mem_singleton.mp hx]; exact Int.le_refl _⟩
  | a :: b :: l, _ => by
    obtain ⟨h1, h2⟩ := minI_mem (l := b :: l) (by simp)
    have e : minI (a :: b :: l) = min a (minI (b :: l)) := rfl
    rw [e]
    constructor
    · by_cases c : a ≤ minI (b :: l)
      · rw [Int.min_eq_left c]; exact List.mem_cons_self ..
      · rw [Int.min_eq_right (by omega)]; exact List.mem_cons_of_mem _ h1
    · intro x hx
      rcases List.mem_cons.mp hx with rfl | hx
      · omega
      · have := h2 x hx; omega
theorem minI_is {l : List Int} {m : Int} (h1 : m ∈ l) (h2 : ∀ y ∈ l, m ≤ y) : m = minI l := by
  obtain ⟨a, b⟩ := minI_mem (List.ne_nil_of_mem h1)
  have := b m h1
  have := h2 _ a
  omega
def joinT (tot : Bool) (m w : Int) : Int := if tot then m + w else max m w
def leastL (n : Nat) (w : Nat → Int) (tot : Bool) : Nat → List Int
  | 0 => [0]
  | k + 1 => leastL n w tot k ++ [joinT tot (minI ((ptsN n (k + 1)).map fun p => (leastL n w tot k).getD (k + 1 - 2 ^ p) 0)) (w (k + 1))]
def bestN (n : Nat) (w : Nat → Int) (tot : Bool) (x : Nat) : Int := (leastL n w tot x).getD x 0
theorem leastL_len (n : Nat) (w : Nat → Int) (tot : Bool) : ∀ k, (leastL n w tot k).length = k + 1
  | 0 => rfl
  | k + 1 => by unfold leastL; rw [List.length_append, leastL_len n w tot k]; rfl
theorem leastL_at (n : Nat) (w : Nat → Int) (tot : Bool) : ∀ {k x : Nat}, x ≤ k → (leastL n w tot k).getD x 0 = bestN n w tot x
  | 0, x, h => by
    have : x = 0 := by omega
    subst this
    rfl
  | k + 1, x, h => by
    by_cases c : x = k + 1
    · subst c; rfl
    · have ih := leastL_at n w tot (k := k) (x := x) (by omega)
      rw [← ih]
      conv => lhs; unfold leastL
      rw [List.getD_eq_getElem?_getD, List.getD_eq_getElem?_getD, List.getElem?_append_left (by rw [leastL_len]; omega)]
theorem pts_sub {n x p : Nat} (h : p ∈ ptsN n x) : x - 2 ^ p < x ∧ ∀ q, q ∈ ptsN n (x - 2 ^ p) ↔ q ∈ ptsN n x ∧ q ≠ p := by
  obtain ⟨hp, hb⟩ := mem_pts.mp h
  have ge : 2 ^ p ≤ x := Nat.ge_two_pow_of_testBit hb
  have p0 := Nat.two_pow_pos p
  refine ⟨by omega, fun q => ?_⟩
  rw [← (xor_sub hb).1, mem_pts, mem_pts, Nat.testBit_xor, Nat.testBit_two_pow]
  constructor
  · rintro ⟨a, b⟩
    by_cases c : p = q
    · subst c; rw [hb] at b; simp at b
    · simp [c] at b
      exact ⟨⟨a, b⟩, fun z => c z.symm⟩
  · rintro ⟨⟨a, b⟩, c⟩
    exact ⟨a, by simp [b, Ne.symm c]⟩
theorem bestN_step (n : Nat) (w : Nat → Int) (tot : Bool) {x : Nat} (h : 0 < x) : bestN n w tot x = joinT tot (minI ((ptsN n x).map fun p => bestN n w tot (x - 2 ^ p))) (w x) := by
  obtain ⟨k, rfl⟩ : ∃ k, x = k + 1 := ⟨x - 1, by omega⟩
  conv => lhs; unfold bestN leastL
  rw [List.getD_eq_getElem?_getD, List.getElem?_append_right (by rw [leastL_len]; omega), leastL_len, Nat.sub_self]
  show joinT _ _ _ = _
  congr 2
  refine List.map_congr_left fun p hp => ?_
  have := (pts_sub hp).1
  exact leastL_at n w tot (by omega)
theorem pts_any {n x : Nat} (h : 0 < x) (hx : x < 2 ^ n) : ptsN n x ≠ [] := fun z => by
  obtain ⟨p, Q, e, _⟩ := pts_top h hx
  rw [z] at e
  cases Q <;> cases e
/-! ### lots of few places -/
end Z
set_option Elab.async false
set_option linter.all false
set_option maxRecDepth 100000
set_option maxHeartbeats 4000000
/-! G37: all orders of places; the least of their greatest widths, and of their sums, are the worths of all lots. -/
namespace Z
open PySem PySem.Spec PyProof.Rows L2
/-- what an order costs -/
def costL (tot : Bool) (l : List Int) : Int := l.foldl (joinT tot) 0
theorem costL_snoc (tot : Bool) (l : List Int) (x : Int) : costL tot (l ++ [x]) = joinT tot (costL tot l) x := by
  unfold costL
  rw [List.foldl_append]
  rfl
theorem costL_sum : ∀ (l : List Int) (a : Int), l.foldl (joinT true) a = a + l.sum
  | [], a => by simp
  | x :: l, a => by
    rw [List.foldl_cons, costL_sum l, List.sum_cons]
    show (a + x) + l.sum = _
    omega
theorem costL_max : ∀ (l : List Int) (a : Int), (l.foldl (joinT false) a = a ∨ l.foldl (joinT false) a ∈ l) ∧ a ≤ l.foldl (joinT false) a ∧ ∀ x ∈ l, x ≤ l.foldl (joinT false) a
  | [], a => ⟨.inl rfl, Int.le_refl _, fun x h => by cases h⟩
  | x :: l, a => by
    have e : joinT false a x = max a x := rfl
    obtain ⟨h1, h2, h3⟩ := costL_max l (max a x)
    rw [List.foldl_cons, e]
    refine ⟨?_, by omega, fun y hy => ?_⟩
    · rcases h1 with h1 | h1
      · by_cases c : x ≤ a
        · exact .inl (by omega)
        · exact .inr (by rw [h1, Int.max_eq_right (by omega)]; exact List.mem_cons_self ..)
      · exact .inr (List.mem_cons_of_mem _ h1)
    · rcases List.mem_cons.mp hy with rfl | hy
      · omega
      · exact h3 y hy
theorem max_cost {l : List Int} (h0 : (0 : Int) ∈ l) {m : Int} (h1 : m ∈ l) (h2 : ∀ y ∈ l, y ≤ m) : m = costL false l := by
  obtain ⟨a, b, c⟩ := costL_max l 0
  have c1 := c m h1
  unfold costL
  rcases a with a | a
  · have := h2 0 h0
    omega
  · have := h2 _ a
    omega
/-- the worths of an order's beginnings -/
def preW (w : List Nat → Int) (o : List Nat) : List Int := (List.range (o.length + 1)).map fun i => w (o.take i)
theorem preW_nil (w : List Nat → Int) : preW w [] = [w []] := rfl
theorem preW_snoc (w : List Nat → Int) (o : List Nat) (p : Nat) : preW w (o ++ [p]) = preW w o ++ [w (o ++ [p])] := by
  unfold preW
  rw [List.length_append, List.length_singleton, List.range_succ (n := o.length + 1), List.map_append]
  congr 1
  · refine List.map_congr_left fun i hi => ?_
    have hi := List.mem_range.mp hi
    rw [List.take_append_of_le_length (by omega)]
  · rw [List.map_singleton, List.take_of_length_le (by simp)]
theorem preW_zero (w : List Nat → Int) (o : List Nat) : w [] ∈ preW w o := List.mem_map.mpr ⟨0, List.mem_range.mpr (by omega), by rw [List.take_zero]⟩
theorem wds_pre {n : Nat} {B : List (List Bool)} {o : List Nat} (l : o.length = n) : wds n B o = preW (wdP n B) o := by
  unfold wds preW
  rw [l]
theorem pts_fullN (n : Nat) : ptsN n (2 ^ n - 1) = List.range n := pts_same List.pairwise_lt_range fun q => by
  rw [List.mem_range, Nat.testBit_two_pow_sub_one]
  simp
end Z
set_option Elab.async false
set_option linter.all false
set_option maxRecDepth 100000
set_option maxHeartbeats 4000000
/-! G38: told orders, by the least worths of all lots. -/
namespace Z
open PySem PySem.Spec PyProof.Rows L2
/-! ### the least of some pairs -/
def lexI (a b : Int × Int) : Bool := decide (a.1 < b.1 ∨ (a.1 = b.1 ∧ a.2 < b.2))
def minP (a : Int × Int) (l : List (Int × Int)) : Int × Int := l.foldl (fun a y => if lexI y a then y else a) a
def pD (a : Int × Int) : D := .tuple [.int a.1, .int a.2]
theorem minD_pairs : ∀ (l : List (Int × Int)) (a : Int × Int), PySem.W.minD (pD a) (l.map pD) = pD (minP a l)
  | [], a => rfl
  | y :: l, a => by
    have e : PySem.W.minD (pD a) ((y :: l).map pD) = PySem.W.minD (if PySem.W.dataLt (pD y) (pD a) then pD y else pD a) (l.map pD) := rfl
    have e2 : minP a (y :: l) = minP (if lexI y a then y else a) l := rfl
    have e3 : PySem.W.dataLt (pD y) (pD a) = lexI y a := PySem.W.dataLt_ii ..
    rw [e, e2, ← minD_pairs l, e3]
    congr 1
    split <;> rfl
theorem lexI_iff {a b : Int × Int} : lexI a b = true ↔ a.1 < b.1 ∨ (a.1 = b.1 ∧ a.2 < b.2) := decide_eq_true_iff
theorem minP_ok : ∀ (l : List (Int × Int)) (a : Int × Int), minP a l ∈ a :: l ∧ ∀ y ∈ a :: l, lexI y (minP a l) = false
  | [], a => ⟨List.mem_singleton.mpr rfl, fun y hy => by
      rw [List.mem_singleton.mp hy, ← Bool.not_eq_true, show minP a [] = a from rfl, lexI_iff]
      omega⟩
  | z :: l, a => by
    have e2 : minP a (z :: l) = minP (if lexI z a then z else a) l := rfl
    obtain ⟨h1, h2⟩ := minP_ok l (if lexI z a then z else a)
    rw [e2]
    have h3 := h2 _ (List.mem_cons_self ..)
    rw [← Bool.not_eq_true, lexI_iff] at h3
    constructor
    · rcases List.mem_cons.mp h1 with h1 | h1
      · rw [h1]
        split
        · exact List.mem_cons_of_mem _ (List.mem_cons_self ..)
        · exact List.mem_cons_self ..
      · exact List.mem_cons_of_mem _ (List.mem_cons_of_mem _ h1)
    · intro y hy
      rcases List.mem_cons.mp hy with rfl | hy
      · rw [← Bool.not_eq_true, lexI_iff]
        by_cases c : lexI z y = true
        · rw [if_pos c] at h3 ⊢
          rw [lexI_iff] at c
          omega
        · rw [if_neg c] at h3 ⊢
          exact h3
      · rcases List.mem_cons.mp hy with rfl | hy
        · rw [← Bool.not_eq_true, lexI_iff]
          by_cases c : lexI y a = true
          · rw [if_pos c] at h3 ⊢
            exact h3
          · rw [if_neg c] at h3 ⊢
            rw [lexI_iff] at c
            omega
        · exact h2 y (List.mem_cons_of_mem _ hy)
theorem pairs_ok (a : Int × Int) (l : List (Int × Int)) : (solid (pD a) && solids (l.map pD)) = true ∧ PyData.plainAll (pD a :: l.map pD) = true ∧ PySem.W.AlikeAll (pD a :: l.map pD) ∧ PyData.depthAll (pD a :: l.map pD) ≤ 50 := by
  have e : pD a :: l.map pD = (a :: l).map pD := rfl
  refine ⟨?_, ?_, ⟨fun x hx y hy => ?_, fun x hx z => ?_⟩, ?_⟩
  · have := solids_of (f := pD) (xs := a :: l) fun x _ => by simp [pD, solid, solids]
    simpa [solids] using this
  · rw [e]
    exact plainAll_of fun d hd => by
      obtain ⟨x, _, rfl⟩ := List.mem_map.mp hd
      simp [pD, PyData.plain, PyData.plainAll, PyData.canLay0]
  · rw [e] at hx hy
    obtain ⟨u, _, rfl⟩ := List.mem_map.mp hx
    obtain ⟨v, _, rfl⟩ := List.mem_map.mp hy
    show PySem.W.alike (.tuple _) (.tuple _) = true
    simp only [PySem.W.alike]
    exact PySem.W.alike_ints [u.1, u.2] [v.1, v.2]
  · rw [e] at hx
    obtain ⟨u, _, rfl⟩ := List.mem_map.mp hx
    cases z
  · rw [e]
    have : ∀ l : List (Int × Int), PyData.depthAll (l.map pD) ≤ 1 := fun l => by
      induction l with
      | nil => simp [PyData.depthAll]
      | cons x l ih =>
        simp only [List.map_cons, PyData.depthAll, pD, PyData.depth]
        simp
        exact Nat.max_le.mpr ⟨Nat.le_refl _, ih⟩
    exact Nat.le_trans (this _) (by decide)
/-! ### told orders -/
section
variable (n : Nat) (w : Nat → Int) (tot : Bool)
def leastB (x : Nat) : Int := minI ((ptsN n x).map fun p => bestN n w tot (x - 2 ^ p))
/-- the greatest place without which the worth is least -/
def lastW (x : Nat) : Nat := (((ptsN n x).filter fun p => bestN n w tot (x - 2 ^ p) == leastB n w tot x).getLast?).getD 0
def toldO (x : Nat) : List Nat := if h : lastW n w tot x ∈ ptsN n x then lastW n w tot x :: toldO (x - 2 ^ lastW n w tot x) else []
termination_by x
decreasing_by exact (pts_sub h).1
end
section
variable {n : Nat} {w : Nat → Int} {tot : Bool}
theorem lastW_ok {x : Nat} (h : 0 < x) (hx : x < 2 ^ n) : lastW n w tot x ∈ ptsN n x ∧ bestN n w tot (x - 2 ^ lastW n w tot x) = leastB n w tot x ∧ (∀ q ∈ ptsN n x, leastB n w tot x ≤ bestN n w tot (x - 2 ^ q)) ∧ (∀ q ∈ ptsN n x, bestN n w tot (x - 2 ^ q) = leastB n w tot x → q ≤ lastW n w tot x) := by
  obtain ⟨h1, h2⟩ := minI_mem (l := (ptsN n x).map fun p => bestN n w tot (x - 2 ^ p)) fun z => pts_any h hx (List.map_eq_nil_iff.mp z)
  obtain ⟨p, hp, e⟩ := List.mem_map.mp h1
  have hl : ∀ q ∈ ptsN n x, leastB n w tot x ≤ bestN n w tot (x - 2 ^ q) := fun q hq => h2 _ (List.mem_map.mpr ⟨q, hq, rfl⟩)
  have hm : p ∈ (ptsN n x).filter fun p => bestN n w tot (x - 2 ^ p) == leastB n w tot x := List.mem_filter.mpr ⟨hp, by rw [beq_iff_eq]; exact e⟩
  have ne : (ptsN n x).filter (fun p => bestN n w tot (x - 2 ^ p) == leastB n w tot x) ≠ [] := List.ne_nil_of_mem hm
  have et : lastW n w tot x = ((ptsN n x).filter fun p => bestN n w tot (x - 2 ^ p) == leastB n w tot x).getLast ne := by
    unfold lastW
    rw [List.getLast?_eq_some_getLast ne]
    rfl
  have hin := List.getLast_mem ne
  rw [← et] at hin
  obtain ⟨i1, i2⟩ := List.mem_filter.mp hin
  refine ⟨i1, by simpa using i2, hl, fun q hq eq => ?_⟩
  have hq2 : q ∈ (ptsN n x).filter fun p => bestN n w tot (x - 2 ^ p) == leastB n w tot x := List.mem_filter.mpr ⟨hq, by rw [beq_iff_eq]; exact eq⟩
  have up : ((ptsN n x).filter fun p => bestN n w tot (x - 2 ^ p) == leastB n w tot x).Pairwise (· < ·) := List.Pairwise.sublist List.filter_sublist (pts_asc n x)
  have e2 := List.dropLast_concat_getLast ne
  rw [← e2] at hq2 up
  rcases List.mem_append.mp hq2 with z | z
  · have := (List.pairwise_append.mp up).2.2 q z _ (List.mem_singleton.mpr rfl)
    omega
  · have := List.mem_singleton.mp z
    omega
/-- only one place is so -/
theorem lastW_is {x q : Nat} (h : 0 < x) (hx : x < 2 ^ n) (hq : q ∈ ptsN n x) (h1 : ∀ r ∈ ptsN n x, bestN n w tot (x - 2 ^ q) ≤ bestN n w tot (x - 2 ^ r)) (h2 : ∀ r ∈ ptsN n x, bestN n w tot (x - 2 ^ r) = bestN n w tot (x - 2 ^ q) → r ≤ q) : q = lastW n w tot x := by
  obtain ⟨a, b, c, d⟩ := lastW_ok (w := w) (tot := tot) h hx
  have e1 := h1 _ a
  have e2 := c q hq
  have e3 : bestN n w tot (x - 2 ^ q) = leastB n w tot x := by omega
  have := d q hq e3
  have := h2 _ a (by omega)
  omega
theorem toldO_zero : toldO n w tot 0 = [] := by
  rw [toldO, dif_neg]
  rw [pts_zero]
  exact fun z => by cases z
theorem toldO_step {x : Nat} (h : 0 < x) (hx : x < 2 ^ n) : toldO n w tot x = lastW n w tot x :: toldO n w tot (x - 2 ^ lastW n w tot x) := by
  conv => lhs; rw [toldO]
  rw [dif_pos (lastW_ok h hx).1]
theorem toldO_ok : ∀ x, x < 2 ^ n → (toldO n w tot x).Nodup ∧ ∀ q, q ∈ toldO n w tot x ↔ q ∈ ptsN n x := fun x => by
  induction x using Nat.strongRecOn with
  | _ x ih =>
    intro hx
    by_cases c0 : x = 0
    · subst c0
      rw [toldO_zero, pts_zero]
      exact ⟨.nil, fun q => Iff.rfl⟩
    · obtain ⟨a, _⟩ := lastW_ok (w := w) (tot := tot) (show 0 < x by omega) hx
      rw [toldO_step (by omega) hx]
      obtain ⟨lt, hs⟩ := pts_sub a
      obtain ⟨i1, i2⟩ := ih _ lt (by omega)
      refine ⟨List.nodup_cons.mpr ⟨fun z => ((hs _).mp ((i2 _).mp z)).2 rfl, i1⟩, fun q => ?_⟩
      rw [List.mem_cons, i2, hs]
      constructor
      · rintro (rfl | z)
        · exact a
        · exact z.1
      · intro z
        by_cases c : q = lastW n w tot x
        · exact .inl c
        · exact .inr ⟨z, c⟩
end
/-- what a told order costs -/
theorem told_cost {n : Nat} {w : List Nat → Int} (w0 : w [] = 0) (ws : ∀ P Q : List Nat, (∀ p, p ∈ P ↔ p ∈ Q) → w P = w Q) (tot : Bool) : ∀ x, x < 2 ^ n → costL tot (preW w (toldO n (fun x => w (ptsN n x)) tot x).reverse) = bestN n (fun x => w (ptsN n x)) tot x := fun x => by
  induction x using Nat.strongRecOn with
  | _ x ih =>
    intro hx
    by_cases c0 : x = 0
    · subst c0
      rw [toldO_zero, List.reverse_nil, preW_nil, w0]
      cases tot <;> rfl
    · obtain ⟨a, b, _⟩ := lastW_ok (w := fun x => w (ptsN n x)) (tot := tot) (show 0 < x by omega) hx
      obtain ⟨lt, hs⟩ := pts_sub a
      have i1 := ih _ lt (by omega)
      have ok := (toldO_ok (w := fun x => w (ptsN n x)) (tot := tot) x hx).2
      rw [toldO_step (by omega) hx] at ok ⊢
      rw [List.reverse_cons, preW_snoc, costL_snoc, i1, b, bestN_step n _ tot (by omega)]
      show joinT tot (leastB n _ tot x) _ = joinT tot (leastB n _ tot x) _
      congr 1
      refine ws _ _ fun q => ?_
      rw [← ok q, List.mem_append, List.mem_reverse, List.mem_singleton]
      rw [show (q ∈ lastW n (fun x => w (ptsN n x)) tot x :: toldO n (fun x => w (ptsN n x)) tot (x - 2 ^ lastW n (fun x => w (ptsN n x)) tot x)) = (q = lastW n (fun x => w (ptsN n x)) tot x ∨ q ∈ toldO n (fun x => w (ptsN n x)) tot (x - 2 ^ lastW n (fun x => w (ptsN n x)) tot x)) from propext List.mem_cons]
      exact or_comm.symm
end Z
set_option Elab.async false
set_option linter.all false
set_option maxRecDepth 100000
set_option maxHeartbeats 4000000
local macro_rules | `(tactic| walk_at "z") => `(tactic| simp only [Z.dVar, Z.look, Z.dC, Z.dSolid, Z.dNil, Z.dCons, Z.dBin, Z.dUn, Z.dCall, Z.kont_none, Z.kont_bool, Z.kont_int, Z.kont_str, Z.kont_list, Z.kont_tuple, Z.f2I, Z.f2IC, Z.f1I, Z.asI, Z.dTest, Z.asB, Z.dAnd, Z.dOr, Z.dNot, Z.dYes, Z.dAndV, Z.dOrV, Z.dNotV, Z.dIf, Z.dTup, Z.dLst,
  Z.sNext, Z.sBreak, Z.sCont, Z.sSeq, Z.later_cons, Z.sIf, Z.sDrop, Z.sRet, Z.sRetV, Z.sRetN, Z.sAsg, Z.sAsgG, Z.valsAt, Z.sPar, Z.ownL, Z.sAppend, Z.sSetI, Z.dItems, Z.asItems, Z.items, Z.dRng1, Z.dRng2, Z.dCmbR, Z.dCmbL, Z.dgName, Z.dgNil, Z.dgCons, Z.asT, Z.dgTup, Z.asL, Z.dgUnl, Z.dComp, Z.dEnum, Z.sFor, Z.sAugI,
  Z.startE, Z.startL, Z.retE, Z.lawE, Z.fRepr, Z.fReprU, Z.dItemsZ, Z.fLenF, Z.fEqE, Z.solid_frz, Z.solid_frd, Z.fIx, Z.dKGet, Z.dKGet1, Z.dKGet2, Z.dKIn, Z.ownK, Z.sKPut, Z.sKSetd, Z.sKSetApp, Z.sFz, Z.dXKeys, Z.dXVals, Z.dXItems, Z.dLenX, Z.dNewX, Z.dLenDict0, Z.dDictX, Z.fSortedF, Z.fSortedW, Z.fSum, Z.fSumA, Z.dSortDict, Z.dLenDict, Z.asPairs, Z.fMaxA, Z.dIsi, Z.fIsi, Z.isInt, Z.isBool, Z.isStr, Z.isTuple, Z.isList, Z.isDict, Z.dAddN, Z.fAll, Z.fAny, Z.dTupRg, Z.asSeq, Z.dStar, Z.dStarS, Z.fMinD, Z.sMove, Z.dDisp, Z.dPairs, Z.dBits, Z.fDictCp, Z.sPar3, Z.fLen, Z.fTuple, Z.fTupleF, Z.fEqLE, Z.sAugL, Z.fInt, Z.fMul, Z.fAdd, Z.dIndex, Z.dSlice, Z.dRev, Z.fRev, Z.d0New, Z.sPopAt, Z.sRet2, Z.dZipSF, Z.dSortDict0, Z.dFrz, Z.fFrz, Z.fIxF_tup, Z.fIxF_list, Z.dZipF, Z.dIndexF, Z.sUpd0, Z.own0, Z.dLen0, Z.dNo, Z.dPart, Z.fCut, Z.fList, Z.dListRg, Z.fSorted, Z.dZip, Z.dZipS, Z.dTru, Z.f2L, Z.fAbs, Z.fIsN, Z.isNone, Z.dChain, Z.tru, Z.hide, Z.demote, Z.demoteOff, Z.restore, Z.isOwn, Z.solid_tI, Z.solid_tII, Z.solid_int, Z.solid_bool, Z.solid_str, Z.solid_none, Z.solids_nil, Z.solids_cons, Z.solid_tup, Z.solids_ints, Z.solids_tII,
  List.getElem?_cons_zero, List.getElem?_cons_succ, List.set_cons_zero, List.set_cons_succ, List.map_cons, List.map_nil, List.length_cons, List.length_nil, List.nil_append, List.cons_append, List.replicate_succ, List.replicate_zero, List.append_nil, List.contains_cons, List.contains_nil, List.elem_nil, Nat.reduceAdd, Nat.reduceSub, Nat.reduceBEq, Nat.reduceLeDiff, Nat.zero_add, Nat.reduceLT,
  Bool.or_false, Bool.false_or, Bool.true_or, Bool.or_true, Bool.and_true, Bool.true_and, cond_true, cond_false, if_true, if_false, true_and, and_true, Bool.false_eq_true, Bool.true_eq_false, ite_true, ite_false, reduceIte, beq_self_eq_true, List.not_mem_nil, implies_true, false_implies, Bool.not_true, Bool.not_false])
local macro_rules | `(tactic| walk_at "y") => `(tactic| simp only [Z.ix0, Z.ix1, Z.dVar, Z.look, Z.dC, Z.dSolid, Z.dNil, Z.dCons, Z.dBin, Z.dUn, Z.dCall, Z.kont_none, Z.kont_bool, Z.kont_int, Z.kont_str, Z.kont_list, Z.kont_tuple, Z.f2I, Z.f2IC, Z.f1I, Z.asI, Z.dTest, Z.asB, Z.dAnd, Z.dOr, Z.dNot, Z.dYes, Z.dAndV, Z.dOrV, Z.dNotV, Z.dIf, Z.dTup, Z.dLst,
  Z.sNext, Z.sBreak, Z.sCont, Z.sSeq, Z.later_cons, Z.sIf, Z.sDrop, Z.sRet, Z.sRetV, Z.sRetN, Z.sAsg, Z.sAsgG, Z.valsAt, Z.sPar, Z.ownL, Z.sAppend, Z.sSetI, Z.dItems, Z.asItems, Z.items, Z.dRng1, Z.dRng2, Z.dCmbR, Z.dCmbL, Z.dgName, Z.dgNil, Z.dgCons, Z.asT, Z.dgTup, Z.asL, Z.dgUnl, Z.dComp, Z.dEnum, Z.sFor, Z.sAugI,
  Z.startE, Z.startL, Z.retE, Z.lawE, Z.fRepr, Z.fReprU, Z.dItemsZ, Z.fLenF, Z.fEqE, Z.solid_frz, Z.solid_frd, Z.fIx, Z.dKGet, Z.dKGet1, Z.dKGet2, Z.dKIn, Z.ownK, Z.sKPut, Z.sKSetd, Z.sKSetApp, Z.sFz, Z.dXKeys, Z.dXVals, Z.dXItems, Z.dLenX, Z.dNewX, Z.dLenDict0, Z.dDictX, Z.fSortedF, Z.fSortedW, Z.fSum, Z.fSumA, Z.dSortDict, Z.dLenDict, Z.asPairs, Z.fMaxA, Z.dIsi, Z.fIsi, Z.isInt, Z.isBool, Z.isStr, Z.isTuple, Z.isList, Z.isDict, Z.dAddN, Z.fAll, Z.fAny, Z.dTupRg, Z.asSeq, Z.dStar, Z.dStarS, Z.fMinD, Z.sMove, Z.dDisp, Z.dPairs, Z.dBits, Z.fDictCp, Z.sPar3, Z.fLen, Z.fTuple, Z.fTupleF, Z.fEqLE, Z.sAugL, Z.fInt, Z.fMul, Z.fAdd, Z.dIndex, Z.dSlice, Z.dRev, Z.fRev, Z.d0New, Z.sPopAt, Z.sRet2, Z.dZipSF, Z.dSortDict0, Z.dFrz, Z.fFrz, Z.fIxF_tup, Z.fIxF_list, Z.dZipF, Z.dIndexF, Z.sUpd0, Z.own0, Z.dLen0, Z.dNo, Z.dPart, Z.fCut, Z.fList, Z.dListRg, Z.fSorted, Z.dZip, Z.dZipS, Z.dTru, Z.f2L, Z.fAbs, Z.fIsN, Z.isNone, Z.dChain, Z.tru, Z.hide, Z.demote, Z.demoteOff, Z.restore, Z.isOwn, Z.solid_tI, Z.solid_tII, Z.solid_int, Z.solid_bool, Z.solid_str, Z.solid_none, Z.solids_nil, Z.solids_cons, Z.solid_tup, Z.solids_ints, Z.solids_tII,
  List.getElem?_cons_zero, List.getElem?_cons_succ, List.set_cons_zero, List.set_cons_succ, List.map_cons, List.map_nil, List.length_cons, List.length_nil, List.nil_append, List.cons_append, List.replicate_succ, List.replicate_zero, List.append_nil, List.contains_cons, List.contains_nil, List.elem_nil, Nat.reduceAdd, Nat.reduceSub, Nat.reduceBEq, Nat.reduceLeDiff, Nat.zero_add, Nat.reduceLT,
  Bool.or_false, Bool.false_or, Bool.true_or, Bool.or_true, Bool.and_true, Bool.true_and, cond_true, cond_false, if_true, if_false, true_and, and_true, Bool.false_eq_true, Bool.true_eq_false, ite_true, ite_false, reduceIte, beq_self_eq_true, List.not_mem_nil, implies_true, false_implies, Bool.not_true, Bool.not_false])
local macro_rules | `(tactic| walk_at "h") => `(tactic| simp only [Z.ix0, Z.ix1, Z.dVar, Z.look, Z.dC, Z.dSolid, Z.dNil, Z.dCons, Z.dBin, Z.dUn, Z.dCall, Z.kont_none, Z.kont_bool, Z.kont_int, Z.kont_str, Z.kont_list, Z.kont_tuple, Z.f2I, Z.f2IC, Z.f1I, Z.asI, Z.dTest, Z.asB, Z.dAnd, Z.dOr, Z.dNot, Z.dYes, Z.dAndV, Z.dOrV, Z.dNotV, Z.dIf, Z.dTup, Z.dLst,
  Z.sNext, Z.sBreak, Z.sCont, Z.sSeq, Z.sIf, Z.sDrop, Z.sRet, Z.sRetV, Z.sRetN, Z.sAsg, Z.sAsgG, Z.valsAt, Z.sPar, Z.ownL, Z.sAppend, Z.sSetI, Z.dItems, Z.asItems, Z.items, Z.dRng1, Z.dRng2, Z.dCmbR, Z.dCmbL, Z.dgName, Z.dgNil, Z.dgCons, Z.asT, Z.dgTup, Z.asL, Z.dgUnl, Z.dComp, Z.dEnum, Z.sFor, Z.sAugI,
  Z.startE, Z.startL, Z.retE, Z.lawE, Z.fRepr, Z.fReprU, Z.dItemsZ, Z.fLenF, Z.fEqE, Z.solid_frz, Z.solid_frd, Z.fIx, Z.dKGet, Z.dKGet1, Z.dKGet2, Z.dKIn, Z.ownK, Z.sKPut, Z.sKSetd, Z.sKSetApp, Z.sFz, Z.dXKeys, Z.dXVals, Z.dXItems, Z.dLenX, Z.dNewX, Z.dLenDict0, Z.dDictX, Z.fSortedF, Z.fSortedW, Z.fSum, Z.fSumA, Z.dSortDict, Z.dLenDict, Z.asPairs, Z.fMaxA, Z.dIsi, Z.fIsi, Z.isInt, Z.isBool, Z.isStr, Z.isTuple, Z.isList, Z.isDict, Z.dAddN, Z.fAll, Z.fAny, Z.dTupRg, Z.asSeq, Z.dStar, Z.dStarS, Z.fMinD, Z.sMove, Z.dDisp, Z.dPairs, Z.dBits, Z.fDictCp, Z.sPar3, Z.fLen, Z.fTuple, Z.fTupleF, Z.fEqLE, Z.sAugL, Z.fInt, Z.fMul, Z.fAdd, Z.dIndex, Z.dSlice, Z.dRev, Z.fRev, Z.d0New, Z.sPopAt, Z.sRet2, Z.dZipSF, Z.dSortDict0, Z.dFrz, Z.fFrz, Z.fIxF_tup, Z.fIxF_list, Z.dZipF, Z.dIndexF, Z.sUpd0, Z.own0, Z.dLen0, Z.dNo, Z.dPart, Z.fCut, Z.fList, Z.dListRg, Z.fSorted, Z.dZip, Z.dZipS, Z.dTru, Z.f2L, Z.fAbs, Z.fIsN, Z.isNone, Z.dChain, Z.tru, Z.hide, Z.demote, Z.demoteOff, Z.restore, Z.isOwn, Z.solid_tI, Z.solid_tII, Z.solid_int, Z.solid_bool, Z.solid_str, Z.solid_none, Z.solids_nil, Z.solids_cons, Z.solid_tup, Z.solids_ints, Z.solids_tII,
  List.getElem?_cons_zero, List.getElem?_cons_succ, List.set_cons_zero, List.set_cons_succ, List.map_cons, List.map_nil, List.length_cons, List.length_nil, List.nil_append, List.cons_append, List.replicate_succ, List.replicate_zero, List.append_nil, List.contains_cons, List.contains_nil, List.elem_nil, Nat.reduceAdd, Nat.reduceSub, Nat.reduceBEq, Nat.reduceLeDiff, Nat.zero_add, Nat.reduceLT,
  Bool.or_false, Bool.false_or, Bool.true_or, Bool.or_true, Bool.and_true, Bool.true_and, cond_true, cond_false, if_true, if_false, true_and, and_true, Bool.false_eq_true, Bool.true_eq_false, ite_true, ite_false, reduceIte, beq_self_eq_true, List.not_mem_nil, implies_true, false_implies, Bool.not_true, Bool.not_false])
local macro_rules | `(tactic| walk_at "s") => `(tactic| ((first | rw [Z.later_cons] | (simp only []; rw [Z.later_cons])); walk_at "h"))
namespace Z
open PySem PySem.Spec PyProof.Rows L2
/-! ### the text -/
def topS (i : Nat) : Stmt := PySem.Challenge.pw_spancodes_k78_told_orders.main.body.getD i (.Pass ⟨0, 0, 0, 0⟩)
abbrev s_bit_ranks : Stmt := topS 1
theorem sc_bit_ranks : FnScope ["code", "columns", "place", "k", "row", "found", "spans", "lot", "ahead", "left", "base", "late"] ["code"] (defScope s_bit_ranks) := ⟨rfl, rfl, rfl, by decide +kernel, rfl, by decide +kernel, by decide +kernel⟩
abbrev s_bit_widths : Stmt := topS 2
theorem sc_bit_widths : FnScope ["code", "ranks", "every", "lot"] ["code"] (defScope s_bit_widths) := ⟨rfl, rfl, rfl, by decide +kernel, rfl, by decide +kernel, by decide +kernel⟩
abbrev s_least_rows : Stmt := topS 3
theorem sc_least_rows : FnScope ["code", "is_total", "found", "some", "lot", "least", "place"] ["code", "is_total"] (defScope s_least_rows) := ⟨rfl, rfl, rfl, by decide +kernel, rfl, by decide +kernel, by decide +kernel⟩
abbrev s_told_order : Stmt := topS 4
theorem sc_told_order : FnScope ["code", "least", "found", "lot", "some", "place"] ["code", "least"] (defScope s_told_order) := ⟨rfl, rfl, rfl, by decide +kernel, rfl, by decide +kernel, by decide +kernel⟩
abbrev s_least_widest : Stmt := topS 5
theorem sc_least_widest : FnScope ["code"] ["code"] (defScope s_least_widest) := ⟨rfl, rfl, rfl, by decide +kernel, rfl, by decide +kernel, by decide +kernel⟩
abbrev s_least_total : Stmt := topS 6
theorem sc_least_total : FnScope ["code"] ["code"] (defScope s_least_total) := ⟨rfl, rfl, rfl, by decide +kernel, rfl, by decide +kernel, by decide +kernel⟩
abbrev s_best_order : Stmt := topS 7
theorem sc_best_order : FnScope ["code"] ["code"] (defScope s_best_order) := ⟨rfl, rfl, rfl, by decide +kernel, rfl, by decide +kernel, by decide +kernel⟩
abbrev s_total_order : Stmt := topS 8
theorem sc_total_order : FnScope ["code"] ["code"] (defScope s_total_order) := ⟨rfl, rfl, rfl, by decide +kernel, rfl, by decide +kernel, by decide +kernel⟩
abbrev s_sum_of : Stmt := topS 10
theorem sc_sum_of : FnScope ["one", "other", "k", "mark"] ["one", "other"] (defScope s_sum_of) := ⟨rfl, rfl, rfl, by decide +kernel, rfl, by decide +kernel, by decide +kernel⟩
abbrev s_first_one : Stmt := topS 12
theorem sc_first_one : FnScope ["row"] ["row"] (defScope s_first_one) := ⟨rfl, rfl, rfl, by decide +kernel, rfl, by decide +kernel, by decide +kernel⟩
abbrev s_told_rows : Stmt := topS 13
theorem sc_told_rows : FnScope ["rows", "found", "row", "here", "one", "place"] ["rows"] (defScope s_told_rows) := ⟨rfl, rfl, rfl, by decide +kernel, rfl, by decide +kernel, by decide +kernel⟩
abbrev s_marks_at : Stmt := topS 15
theorem sc_marks_at : FnScope ["row", "places", "place"] ["row", "places"] (defScope s_marks_at) := ⟨rfl, rfl, rfl, by decide +kernel, rfl, by decide +kernel, by decide +kernel⟩
abbrev s_seen_at : Stmt := topS 16
theorem sc_seen_at : FnScope ["code", "places", "row"] ["code", "places"] (defScope s_seen_at) := ⟨rfl, rfl, rfl, by decide +kernel, rfl, by decide +kernel, by decide +kernel⟩
abbrev s_rank_at : Stmt := topS 17
theorem sc_rank_at : FnScope ["code", "places"] ["code", "places"] (defScope s_rank_at) := ⟨rfl, rfl, rfl, by decide +kernel, rfl, by decide +kernel, by decide +kernel⟩
abbrev s_others_of : Stmt := topS 19
theorem sc_others_of : FnScope ["n", "places", "place"] ["n", "places"] (defScope s_others_of) := ⟨rfl, rfl, rfl, by decide +kernel, rfl, by decide +kernel, by decide +kernel⟩
abbrev s_width : Stmt := topS 20
theorem sc_width : FnScope ["code", "places"] ["code", "places"] (defScope s_width) := ⟨rfl, rfl, rfl, by decide +kernel, rfl, by decide +kernel, by decide +kernel⟩
abbrev s_widths : Stmt := topS 21
theorem sc_widths : FnScope ["code", "order", "i"] ["code", "order"] (defScope s_widths) := ⟨rfl, rfl, rfl, by decide +kernel, rfl, by decide +kernel, by decide +kernel⟩
abbrev s_widest : Stmt := topS 22
theorem sc_widest : FnScope ["code", "order"] ["code", "order"] (defScope s_widest) := ⟨rfl, rfl, rfl, by decide +kernel, rfl, by decide +kernel, by decide +kernel⟩
abbrev s_total_width : Stmt := topS 23
theorem sc_total_width : FnScope ["code", "order"] ["code", "order"] (defScope s_total_width) := ⟨rfl, rfl, rfl, by decide +kernel, rfl, by decide +kernel, by decide +kernel⟩
abbrev s__law_source : Stmt := topS 25
theorem sc__law_source : FnScope ["script", "mixed", "cell"] ["script"] (defScope s__law_source) := ⟨rfl, rfl, rfl, by decide +kernel, rfl, by decide +kernel, by decide +kernel⟩
abbrev s__law_pick : Stmt := topS 26
theorem sc__law_pick : FnScope ["source", "many", "left", "mixed"] ["source", "many"] (defScope s__law_pick) := ⟨rfl, rfl, rfl, by decide +kernel, rfl, by decide +kernel, by decide +kernel⟩
abbrev s__law_of : Stmt := topS 27
theorem sc__law_of : FnScope ["source", "some"] ["source", "some"] (defScope s__law_of) := ⟨rfl, rfl, rfl, by decide +kernel, rfl, by decide +kernel, by decide +kernel⟩
abbrev s__law_mixed : Stmt := topS 28
theorem sc__law_mixed : FnScope ["source", "things", "rest", "lap"] ["source", "things"] (defScope s__law_mixed) := ⟨rfl, rfl, rfl, by decide +kernel, rfl, by decide +kernel, by decide +kernel⟩
abbrev s__law_number : Stmt := topS 29
theorem sc__law_number : FnScope ["row", "place", "mark"] ["row"] (defScope s__law_number) := ⟨rfl, rfl, rfl, by decide +kernel, rfl, by decide +kernel, by decide +kernel⟩
abbrev s__law_solved : Stmt := topS 30
theorem sc__law_solved : FnScope ["numbers", "heads", "here", "head"] ["numbers"] (defScope s__law_solved) := ⟨rfl, rfl, rfl, by decide +kernel, rfl, by decide +kernel, by decide +kernel⟩
abbrev s__law_code : Stmt := topS 31
theorem sc__law_code : FnScope ["source", "n", "most", "way", "found", "share", "lap", "row", "place", "a", "b", "one", "names"] ["source", "n", "most"] (defScope s__law_code) := ⟨rfl, rfl, rfl, by decide +kernel, rfl, by decide +kernel, by decide +kernel⟩
abbrev s__law_rank : Stmt := topS 32
theorem sc__law_rank : FnScope ["code", "lot", "mask", "place", "row"] ["code", "lot"] (defScope s__law_rank) := ⟨rfl, rfl, rfl, by decide +kernel, rfl, by decide +kernel, by decide +kernel⟩
abbrev s__law_others : Stmt := topS 33
theorem sc__law_others : FnScope ["code", "lot", "place"] ["code", "lot"] (defScope s__law_others) := ⟨rfl, rfl, rfl, by decide +kernel, rfl, by decide +kernel, by decide +kernel⟩
abbrev s__law_width : Stmt := topS 34
theorem sc__law_width : FnScope ["code", "lot"] ["code", "lot"] (defScope s__law_width) := ⟨rfl, rfl, rfl, by decide +kernel, rfl, by decide +kernel, by decide +kernel⟩
abbrev s__law_best : Stmt := topS 35
theorem sc__law_best : FnScope ["code", "is_sum", "n", "worth", "number", "places", "place", "here", "late"] ["code", "is_sum"] (defScope s__law_best) := ⟨rfl, rfl, rfl, by decide +kernel, rfl, by decide +kernel, by decide +kernel⟩
abbrev s__law_told : Stmt := topS 36
theorem sc__law_told : FnScope ["code", "worth", "number", "found", "places", "place", "least"] ["code", "worth"] (defScope s__law_told) := ⟨rfl, rfl, rfl, by decide +kernel, rfl, by decide +kernel, by decide +kernel⟩
abbrev s_law : Stmt := topS 37
theorem sc_law : FnScope ["script", "source", "lap", "n", "code", "seen", "told", "due"] ["script"] (defScope s_law) := ⟨rfl, rfl, rfl, by decide +kernel, rfl, by decide +kernel, by decide +kernel⟩
structure Tx (K : PySem.W.Frag) (mg : Str → Option Value) : Prop where
  b_abs : mg "abs" = none
  b_dict : mg "dict" = none
  b_enumerate : mg "enumerate" = none
  b_int : mg "int" = none
  b_len : mg "len" = none
  b_list : mg "list" = none
  b_max : mg "max" = none
  b_min : mg "min" = none
  b_range : mg "range" = none
  b_repr : mg "repr" = none
  b_sorted : mg "sorted" = none
  b_sum : mg "sum" = none
  b_tuple : mg "tuple" = none
  f_bit_ranks : ∃ f fd, mg "bit_ranks" = some (.ref f) ∧ Fun K "bit_ranks" "bit_ranks" s_bit_ranks f fd
  f_bit_widths : ∃ f fd, mg "bit_widths" = some (.ref f) ∧ Fun K "bit_widths" "bit_widths" s_bit_widths f fd
  f_least_rows : ∃ f fd, mg "least_rows" = some (.ref f) ∧ Fun K "least_rows" "least_rows" s_least_rows f fd
  f_told_order : ∃ f fd, mg "told_order" = some (.ref f) ∧ Fun K "told_order" "told_order" s_told_order f fd
  f_least_widest : ∃ f fd, mg "least_widest" = some (.ref f) ∧ Fun K "least_widest" "least_widest" s_least_widest f fd
  f_least_total : ∃ f fd, mg "least_total" = some (.ref f) ∧ Fun K "least_total" "least_total" s_least_total f fd
  f_best_order : ∃ f fd, mg "best_order" = some (.ref f) ∧ Fun K "best_order" "best_order" s_best_order f fd
  f_total_order : ∃ f fd, mg "total_order" = some (.ref f) ∧ Fun K "total_order" "total_order" s_total_order f fd
  f_sum_of : ∃ f fd, mg "sum_of" = some (.ref f) ∧ Fun K "sum_of" "sum_of" s_sum_of f fd
  f_first_one : ∃ f fd, mg "first_one" = some (.ref f) ∧ Fun K "first_one" "first_one" s_first_one f fd
  f_told_rows : ∃ f fd, mg "told_rows" = some (.ref f) ∧ Fun K "told_rows" "told_rows" s_told_rows f fd
  f_marks_at : ∃ f fd, mg "marks_at" = some (.ref f) ∧ Fun K "marks_at" "marks_at" s_marks_at f fd
  f_seen_at : ∃ f fd, mg "seen_at" = some (.ref f) ∧ Fun K "seen_at" "seen_at" s_seen_at f fd
  f_rank_at : ∃ f fd, mg "rank_at" = some (.ref f) ∧ Fun K "rank_at" "rank_at" s_rank_at f fd
  f_others_of : ∃ f fd, mg "others_of" = some (.ref f) ∧ Fun K "others_of" "others_of" s_others_of f fd
  f_width : ∃ f fd, mg "width" = some (.ref f) ∧ Fun K "width" "width" s_width f fd
  f_widths : ∃ f fd, mg "widths" = some (.ref f) ∧ Fun K "widths" "widths" s_widths f fd
  f_widest : ∃ f fd, mg "widest" = some (.ref f) ∧ Fun K "widest" "widest" s_widest f fd
  f_total_width : ∃ f fd, mg "total_width" = some (.ref f) ∧ Fun K "total_width" "total_width" s_total_width f fd
  f__law_source : ∃ f fd, mg "_law_source" = some (.ref f) ∧ Fun K "_law_source" "_law_source" s__law_source f fd
  f__law_pick : ∃ f fd, mg "_law_pick" = some (.ref f) ∧ Fun K "_law_pick" "_law_pick" s__law_pick f fd
  f__law_of : ∃ f fd, mg "_law_of" = some (.ref f) ∧ Fun K "_law_of" "_law_of" s__law_of f fd
  f__law_mixed : ∃ f fd, mg "_law_mixed" = some (.ref f) ∧ Fun K "_law_mixed" "_law_mixed" s__law_mixed f fd
  f__law_number : ∃ f fd, mg "_law_number" = some (.ref f) ∧ Fun K "_law_number" "_law_number" s__law_number f fd
  f__law_solved : ∃ f fd, mg "_law_solved" = some (.ref f) ∧ Fun K "_law_solved" "_law_solved" s__law_solved f fd
  f__law_code : ∃ f fd, mg "_law_code" = some (.ref f) ∧ Fun K "_law_code" "_law_code" s__law_code f fd
  f__law_rank : ∃ f fd, mg "_law_rank" = some (.ref f) ∧ Fun K "_law_rank" "_law_rank" s__law_rank f fd
  f__law_others : ∃ f fd, mg "_law_others" = some (.ref f) ∧ Fun K "_law_others" "_law_others" s__law_others f fd
  f__law_width : ∃ f fd, mg "_law_width" = some (.ref f) ∧ Fun K "_law_width" "_law_width" s__law_width f fd
  f__law_best : ∃ f fd, mg "_law_best" = some (.ref f) ∧ Fun K "_law_best" "_law_best" s__law_best f fd
  f__law_told : ∃ f fd, mg "_law_told" = some (.ref f) ∧ Fun K "_law_told" "_law_told" s__law_told f fd
  f_law : ∃ f fd, mg "law" = some (.ref f) ∧ Fun K "law" "law" s_law f fd
section
variable {P : Program} {w : World} {K : PySem.W.Frag} {mg : Str → Option Value} {base : Heap}
def spec_bit_ranks : List D → (D → Prop) → Prop := fun ds R => ∃ (n : Nat) (B : List (List Bool)), ds = [.tuple [.int ((n : Nat) : Int), .tuple (rowsD B)]] ∧ Len n B ∧ 1 ≤ n ∧ n ≤ 16 ∧ B.length ≤ 16 ∧ R (.list ((List.range (2 ^ n)).map fun x => natD (rkP B (ptsN n x))))
theorem len_bit_ranks : ∀ ds R, spec_bit_ranks ds R → ds.length = 1 := by
  rintro ds R ⟨n, B, rfl, _⟩
  rfl
def m_bit_ranks : DMS :=
  (sSeq (sAsg 1 (dLst dNil))
  (sSeq (sFor (dRng1 (dCons (dBin fIx (dVar 0) (dC (.int 0))) dNil)) (dgName 2) (sAppend 1 (dCall fSumA (dCons (dComp (dEnum (dCons (dBin fIx (dVar 0) (dC (.int 1))) dNil)) (dgTup 2 (dgCons (dgName 3) (dgCons (dgName 4) dgNil))) dYes (dBin (f2IC CPow fun i j => .int (i * 2 ^ j.toNat)) (dBin fIx (dVar 4) (dVar 2)) (dVar 3)) [3, 4]) dNil))) [2, 1] [])
  (sSeq (sAsg 5 (dLst (dCons (dC (.int 0)) dNil)))
  (sSeq (sAsg 6 (dLst (dCons (dC (frdD [])) dNil)))
  (sSeq (sFor (dRng2 (dCons (dC (.int 1)) (dCons (dBin (f2IC CPow fun i j => .int (i * 2 ^ j.toNat)) (dC (.int 1)) (dBin fIx (dVar 0) (dC (.int 0)))) dNil))) (dgName 7) (sSeq (sAsg 2 (dBin (f2I fun i j => .int (i - j)) (dBits (dVar 7)) (dC (.int 1))))
  (sSeq (sAsg 8 (dBin (f2I fun i j => .int (Builtin.bitXor i j)) (dVar 7) (dBin (f2IC CPow fun i j => .int (i * 2 ^ j.toNat)) (dC (.int 1)) (dVar 2))))
  (sSeq (sPar 9 10 (dCons (dSolid (dBin fIx (dVar 1) (dVar 2))) (dCons (dSolid (dBin fIx (dVar 6) (dVar 8))) dNil)))
  (sSeq (sWhile (dAnd (dTest (dBin (fEq true) (dVar 9) (dC (.int 0)))) (dTest (dKIn false (dBits (dVar 9)) (dVar 10)))) (sAugI 9 (fun i j => Builtin.bitXor i j) (dKGet (dVar 10) (dBits (dVar 9)))) [])
  (sSeq (sIf (dTest (dBin (fEq false) (dVar 9) (dC (.int 0)))) (sAppend 6 (dSolid (dVar 10))) (sSeq (sAsg 11 (dCall fDictCp (dCons (dVar 10) dNil)))
  (sSeq (sKPut 11 (dBits (dVar 9)) (dSolid (dVar 9)))
  (sFz 11 (sAppend 6 (dSolid (dVar 11)))))))
  (sAppend 5 (dLenX (dBin fIx (dVar 6) (dVar 7))))))))) [7, 2, 8, 9, 10, 9, 6, 11, 11, 6, 5] [7, 8, 9, 10, 11])
  (sRetV 5))))))
theorem pl_bit_ranks : ∀ ds R, spec_bit_ranks ds R → m_bit_ranks (startE ["code", "columns", "place", "k", "row", "found", "spans", "lot", "ahead", "left", "base", "late"] ds) (retE R) := by
  rintro ds R ⟨n, B, rfl, hB, n1, hn, lB, h⟩
  unfold m_bit_ranks
  have pw : (2 : Nat) ^ n ≤ 2 ^ 16 := Nat.pow_le_pow_right (by decide) hn
  have p0 : 0 < 2 ^ n := Nat.two_pow_pos n
  have e : (1 : Int) * 2 ^ ((n : Nat) : Int).toNat = ((2 ^ n : Nat) : Int) := by rw [Int.toNat_natCast, Int.one_mul]; norm_cast
  walk_at "h"
  walk_at "s"
  rw [Int.toNat_natCast, rangeD_nats]
  refine ⟨⟨by omega, by omega⟩, ?_⟩
  refine forD_inv (fun i ρ => ∃ s2 : Sl, ρ = [.val (.tuple [.int ((n : Nat) : Int), .tuple (rowsD B)]), .own (.list ((List.range i).map fun p => natD (numB (colB B p)))), s2, .unk, .unk, .unk, .unk, .unk, .unk, .unk, .unk, .unk]) _ 0 _ ⟨_, rfl⟩ ?_ ?_
  · rintro i x ρ Nx hx ⟨s2, rfl⟩ hN
    rw [Nat.zero_add] at hN ⊢
    obtain ⟨hi, ex⟩ : i < n ∧ x = natD i := by
      have hl := (List.getElem?_eq_some_iff.mp hx).1
      rw [List.length_map, List.length_range] at hl
      refine ⟨hl, ?_⟩
      rw [List.getElem?_map, List.getElem?_range hl] at hx
      exact (Option.some.inj hx).symm
    subst ex
    walk_at "h"
    have en : enumD (rowsD B) = B.zipIdx.map fun p => .tuple [.int (p.2 : Nat), rowD p.1] := enumD_map rowD B
    rw [en]
    refine ⟨by rw [List.length_map, List.length_zipIdx]; omega, compD_map (fun q => .int (bI (gt q.1 i) * 2 ^ q.2)) (fun q hq k k0 hk => ?_) ⟨B.zipIdx.map fun q => bI (gt q.1 i) * 2 ^ q.2, by rw [List.map_map]; rfl, ?_⟩⟩
    · obtain ⟨r, j⟩ := q
      have hj := (List.mem_zipIdx hq).2.1
      have hr : r ∈ B := by
        have := (List.mem_zipIdx hq).2.2
        exact this ▸ List.getElem_mem _
      walk_at "h"
      refine fIx_rowD (by rw [hB r hr]; exact hi) ?_
      rw [Int.toNat_natCast]
      exact ⟨⟨by omega, by omega, by cases gt r i <;> decide⟩, hk⟩
    have es : (B.zipIdx.map fun q => bI (gt q.1 i) * 2 ^ q.2).sum = ((numB (colB B i) : Nat) : Int) := by
      have := num_sum (colB B i) 0
      rw [Int.pow_zero, Int.mul_one] at this
      rw [← this]
      congr 1
      unfold colB
      rw [List.zipIdx_map, List.map_map]
      rfl
    rw [es]
    refine ⟨by rw [List.length_map, List.length_range]; omega, hN _ ⟨.val (natD i), ?_⟩⟩
    rw [List.range_succ, List.map_append]
    rfl
  · rintro ρ ⟨s2, rfl⟩
    rw [List.length_map, List.length_range, Nat.zero_add]
    walk_at "h"
    walk_at "s"
    walk_at "s"
    walk_at "s"
    rw [e]
    refine ⟨⟨by omega, by omega, by decide⟩, ⟨by omega, by omega, by omega, by omega⟩, ?_⟩
    have init : ∀ (y : Nat) (hy : y < [([] : List (List Bool))].length), DH B.length [([] : List (List Bool))][y] ∧ ∀ v, Sp B.length [([] : List (List Bool))][y] v ↔ Sp B.length ((ptsN n y).map (colB B)) v := fun y hy => by
      have : y = 0 := by simpa using hy
      subst this
      refine ⟨DH.nil, fun v => ?_⟩
      rw [pts_zero]
      exact Iff.rfl
    refine forD_nx (fun i ρ => ∃ (s2 : Sl) (Ls : List (List (List Bool))), Ls.length = i + 1 ∧ (∀ (y : Nat) (hy : y < Ls.length), DH B.length Ls[y] ∧ ∀ v, Sp B.length Ls[y] v ↔ Sp B.length ((ptsN n y).map (colB B)) v) ∧
      ρ = [.val (.tuple [.int ((n : Nat) : Int), .tuple (rowsD B)]), .val (.list ((List.range n).map fun p => natD (numB (colB B p)))), s2, .unk, .unk, .own (.list (Ls.map fun H => natD H.length)), .own (.list (Ls.map dicH)), .unk, .unk, .unk, .unk, .unk]) _ 0 _ ⟨_, [[]], rfl, init, rfl⟩ ?_ ?_
    · rintro i x ρ E hx ⟨s2, Ls, lL, hL, rfl⟩ hN
      rw [Nat.zero_add] at hN
      have lL : Ls.length = i + 1 := by rw [lL, Nat.zero_add]
      have eN : (((2 ^ n : Nat) : Int) - 1).toNat = 2 ^ n - 1 := by omega
      have hi : i < 2 ^ n - 1 := by
        have := (List.getElem?_eq_some_iff.mp hx).1
        rw [rangeD_len, eN] at this
        exact this
      obtain rfl : natD (i + 1) = x := by
        unfold rangeD at hx
        rw [List.getElem?_map, List.getElem?_range (by omega)] at hx
        have := Option.some.inj hx
        rw [← this]
        show PyData.int _ = PyData.int _
        congr 1
        omega
      obtain ⟨p, Q, e1, hpn, ge, lt, e2⟩ := pts_top (n := n) (x := i + 1) (by omega) (by omega)
      have pm : ∀ q, q ∈ ptsN n (i + 1) ↔ q ∈ Q ∨ q = p := fun q => by rw [e1, List.mem_append, List.mem_singleton]
      have bp : Nat.testBit (i + 1) p = true := (mem_pts.mp ((pm p).mpr (.inr rfl))).2
      have hi2 : i + 1 < 2 ^ (p + 1) := Nat.lt_pow_two_of_testBit _ fun q hq => by
        rw [← Bool.not_eq_true]
        intro z
        have qn : q < n := Classical.byContradiction fun y => by
          have := Nat.testBit_lt_two_pow (x := i + 1) (i := q) (Nat.lt_of_lt_of_le (show i + 1 < 2 ^ n by omega) (Nat.pow_le_pow_right (by decide) (by omega)))
          rw [this] at z
          cases z
        have as := pts_asc n (i + 1)
        rw [e1, List.pairwise_append] at as
        rcases (pm q).mp (mem_pts.mpr ⟨qn, z⟩) with y | y
        · have := as.2.2 q y p (by simp)
          omega
        · omega
      have eb := bits_nat ge hi2
      have ex : Builtin.bitXor (((i + 1 : Nat) : Nat) : Int) ((2 ^ p : Nat) : Int) = ((i + 1 - 2 ^ p : Nat) : Int) := by rw [xor_nat, (xor_sub bp).1]
      have a1 : i + 1 - 2 ^ p < Ls.length := by rw [lL]; exact lt
      obtain ⟨dA, sA⟩ := hL _ a1
      rw [e2] at sA
      walk_at "h"
      rw [eb]
      walk_at "s"
      have e5 : (((p + 1 : Nat) : Int) - 1).toNat = p := by omega
      rw [e5, Int.one_mul, show ((2 : Int) ^ p) = ((2 ^ p : Nat) : Int) by norm_cast, ex]
      refine ⟨⟨by omega, by omega, by decide⟩, ?_⟩
      walk_at "s"
      refine ⟨_, atI_ok (j := p) (by rw [List.getElem?_map, List.getElem?_range hpn]; rfl) (by omega), solid_int _, _, atI_ok (j := i + 1 - 2 ^ p) (by rw [List.getElem?_map, List.getElem?_eq_getElem a1]; rfl) rfl, solid_frd _, ?_⟩
      have lC := colB_len B p
      generalize hC : colB B p = C at *
      generalize hH : Ls[i + 1 - 2 ^ p] = H0 at *
      have lX : Len B.length (Q.map (colB B)) := fun b hb => by
        obtain ⟨q, _, rfl⟩ := List.mem_map.mp hb
        exact colB_len B q
      walk_at "s"
      refine ⟨fun m ρ => ∃ v : List Bool, v.length = B.length ∧ Sp B.length H0 (xr C v) ∧ m = numB v ∧ ρ = [.val (.tuple [.int ((n : Nat) : Int), .tuple (rowsD B)]), .val (.list ((List.range n).map fun p => natD (numB (colB B p)))), .own (.int (((p + 1 : Nat) : Int) - 1)), .unk, .unk, .own (.list (Ls.map fun H => natD H.length)), .own (.list (Ls.map dicH)), .val (natD (i + 1)), .own (.int ((i + 1 - 2 ^ p : Nat) : Int)), .own (natD (numB v)), .own (dicH H0), .unk], ?_, ?_⟩
      · refine ⟨_, C, lC, ?_, rfl, rfl⟩
        rw [xr_self, lC]
        exact .zero
      rintro m ρ ⟨v, lv, sv, rfl, rfl⟩
      have app : ∀ H', DH B.length H' → (∀ w, Sp B.length H' w ↔ Sp B.length (Q.map (colB B) ++ [C]) w) → ∀ (y : Nat) (hy : y < (Ls ++ [H']).length), DH B.length (Ls ++ [H'])[y] ∧ ∀ v, Sp B.length (Ls ++ [H'])[y] v ↔ Sp B.length ((ptsN n y).map (colB B)) v := fun H' d' s' y hy => by
        by_cases c : y < Ls.length
        · rw [List.getElem_append_left c]
          exact hL y c
        · rw [List.length_append, List.length_singleton] at hy
          have ey : y = i + 1 := by omega
          subst ey
          rw [List.getElem_append_right (by omega)]
          simp only [lL, Nat.sub_self, List.getElem_cons_zero]
          refine ⟨d', fun v => ?_⟩
          rw [s', e1, List.map_append, List.map_singleton, hC]
      obtain ⟨m1, m2⟩ := sp_more dA.len lX sA lC lv sv
      have atE : ∀ H' : List (List Bool), atI ((Ls.map dicH) ++ [dicH H']) ((i + 1 : Nat) : Int) = some (dicH H') := fun H' => atI_ok (j := i + 1) (by
        rw [List.getElem?_append_right (by rw [List.length_map]; omega), List.length_map, lL, Nat.sub_self]
        rfl) rfl
      walk_at "h"
      refine fEq_int ?_
      simp only [if_true]
      by_cases hz : numB v = 0
      · have ez : v = nul B.length := by rw [numB_zero hz, lv]
        have c0 : (((numB v : Nat) : Int) == 0) = true := by rw [beq_iff_eq]; omega
        rw [c0]
        walk_at "h"
        walk_at "s"
        refine fEq_int ?_
        simp only [Bool.false_eq_true, if_false]
        rw [c0]
        walk_at "h"
        refine ⟨solid_frd _, by rw [List.length_map]; omega, ?_⟩
        walk_at "s"
        refine ⟨_, atE H0, dicK H0, .inr rfl, by rw [List.length_map]; omega, ?_⟩
        refine hN _ ⟨.own (.int (((p + 1 : Nat) : Int) - 1)), Ls ++ [H0], by rw [List.length_append, List.length_singleton, lL], app H0 dA (m1 ez), ?_⟩
        have dl : (dicK H0).length = H0.length := by unfold dicK bsK; rw [tD_len, List.length_map]
        rw [List.map_append, List.map_append, dl]
        rfl
      · have tv : true ∈ v := numB_any hz
        have c0 : (((numB v : Nat) : Int) == 0) = false := by rw [beq_eq_false_iff_ne]; omega
        rw [c0, bits_num tv]
        walk_at "h"
        refine ⟨keyOk_nat _, dicK H0, .inr rfl, homog_nat _ _, ?_⟩
        rw [dicK_in]
        cases ct : (H0.map top).contains (top v)
        · have nt : top v ∉ H0.map top := fun z => by rw [List.contains_iff_mem.mpr z] at ct; cases ct
          rw [Bool.xor_false, cond_false]
          walk_at "s"
          refine fEq_int ?_
          simp only [Bool.false_eq_true, if_false]
          rw [c0]
          walk_at "h"
          refine ⟨dicK H0, .inr rfl, ⟨(bsK H0).map fun q => .inl ((q.1 : Nat) : Int), by unfold dicK tD; rw [List.map_map, List.map_map]; rfl⟩, fun q hq => ?_, ?_⟩
          · obtain ⟨r, _, rfl⟩ := List.mem_map.mp hq
            exact solid_int _
          walk_at "s"
          rw [bits_num tv]
          have dl : (dicK H0).length = H0.length := by unfold dicK bsK; rw [tD_len, List.length_map]
          have hl := ind_count dA.len (dA.ind _ rfl)
          refine ⟨dicK H0, rfl, plain_dicK _, keyOk_nat _, homog_nat _ _, by omega, ?_⟩
          rw [show (.int ((top v + 1 : Nat) : Int) : D) = natD (top v + 1) from rfl, dicK_put nt]
          walk_at "s"
          refine ⟨_, rfl, ?_⟩
          have ef : fz (.dict (dicK (H0 ++ [v]))) = dicH (H0 ++ [v]) := by
            rw [fz_dict (plain_dicK _)]
            unfold dicH
            congr 1
            conv => rhs; rw [← List.map_id (dicK (H0 ++ [v]))]
            refine List.map_congr_left fun q hq => ?_
            obtain ⟨r, _, rfl⟩ := List.mem_map.mp hq
            rfl
          rw [ef]
          refine ⟨solid_frd _, by rw [List.length_map]; omega, ?_⟩
          walk_at "s"
          refine ⟨_, atE _, dicK (H0 ++ [v]), .inr rfl, by rw [List.length_map]; omega, ?_⟩
          refine hN _ ⟨.own (.int (((p + 1 : Nat) : Int) - 1)), Ls ++ [H0 ++ [v]], by rw [List.length_append, List.length_singleton, lL], app _ (dA.add tv lv nt) m2, ?_⟩
          have dl : (dicK (H0 ++ [v])).length = (H0 ++ [v]).length := by unfold dicK bsK; rw [tD_len, List.length_map]
          rw [List.map_append, List.map_append, dl]
          rfl
        · obtain ⟨h0, hh0, et⟩ := List.mem_map.mp (List.contains_iff_mem.mp ct)
          rw [Bool.xor_true, Bool.not_false, cond_true]
          have lh := dA.len h0 hh0
          have gv : gt v (top h0) = true := by rw [et]; exact top_gt tv
          refine ⟨dicK H0, .inr rfl, keyOk_nat _, homog_nat _ _, natD (numB h0), by rw [← et]; exact dicK_some dA hh0, ?_⟩
          refine ⟨numB (xr v h0), (less_top (by rw [lv, lh]) (dA.any h0 hh0)).mpr gv, xr v h0, by rw [xr_len (by rw [lv, lh]), lv], ?_, rfl, ?_⟩
          · rw [← xr_assoc (by rw [lC, lv]) (by rw [lv, lh])]
            exact sv.xr dA.len (Sp.mem dA.len hh0)
          · rw [xor_numB (by rw [lv, lh])]
    · rintro ρ ⟨s2, Ls, lL, hL, rfl⟩
      have lL : Ls.length = 2 ^ n := by
        rw [lL, rangeD_len]; omega
      walk_at "h"
      walk_at "s"
      have er : (Ls.map fun H => natD H.length) = (List.range (2 ^ n)).map fun x => natD (rkP B (ptsN n x)) := by
        refine List.ext_getElem (by simp [lL]) fun x h1 h2 => ?_
        rw [List.getElem_map, List.getElem_map, List.getElem_range]
        have hx : x < Ls.length := by simpa using h1
        obtain ⟨dx, sx⟩ := hL x hx
        have := dx.rank (X := (ptsN n x).map (colB B)) (fun b hb => by obtain ⟨q, _, rfl⟩ := List.mem_map.mp hb; exact colB_len B q) sx
        rw [this, rkP_cols hB]
      rw [er]
      exact h
theorem at_bit_ranks (T : Tx K mg) : FnAt P w K mg base "bit_ranks" 1 1 (spD K spec_bit_ranks) := by
  obtain ⟨f, fd, hm, F⟩ := T.f_bit_ranks
  refine fnAt_of hm F rfl (F.binds (ps := ["code"]) fun _ _ _ _ _ _ us hl => match us, hl with | [_], _ => rfl) (fnG_of F sc_bit_ranks (spD_len len_bit_ranks) fun cdv A outer s H vs Q E hr hg h => ?_)
  exact body_of (m := fun _ => m_bit_ranks) ["code", "columns", "place", "k", "row", "found", "spans", "lot", "ahead", "left", "base", "late"]
    ((pss_cons (ps_set (i := 1) sc_bit_ranks.nd rfl (by first | exact Or.inl rfl | exact Or.inr rfl) (pe_lst pa_nil))
      (pss_cons (ps_for PassesOwn.never rfl (pi_range1 (by rfl) T.b_range (pa_cons (pe_ix ix_seq (pv 0) pe_int (fun _ _ => rfl)) pa_nil)) (pg_name (i := 2) sc_bit_ranks.nd rfl (by first | exact Or.inl rfl | exact Or.inr rfl)) (pss_one (ps_expr (pe_bm PySem.F.plainAttrs_list PySem.F.slot_list_append PySem.F.type_list_append mt_append (pv 1) (pa_cons (pe_callB (cr_sumA rfl) (by rfl) T.b_sum (by decide +kernel) (pa_cons (pe_lc (own := [("k", 3), ("row", 4)]) rfl sc_bit_ranks.nd (pi_enumS (by rfl) T.b_enumerate (pa_cons (pe_ix ix_seq (pv 0) pe_int (fun _ _ => rfl)) pa_nil)) (blkOk_by (N := ["code", "columns", "place", "k", "row", "found", "spans", "lot", "ahead", "left", "base", "late"]) (sc := defScope s_bit_ranks) (by decide +kernel)) (fun _ _ _ _ _ => (pg_tup rfl (pgs_cons (pg_name (i := 3) sc_bit_ranks.nd rfl (by first | exact Or.inl rfl | exact Or.inr rfl)) (pgs_cons (pg_name (i := 4) sc_bit_ranks.nd rfl (by first | exact Or.inl rfl | exact Or.inr rfl)) pgs_nil)))) (fun _ _ _ _ _ => pts_nil) (fun _ _ _ _ _ => (pe_op op_shl (pe_ix ix_seq (pv 4) (pv 2) (fun _ _ => rfl)) (pv 3)))) pa_nil)) pa_nil)))))
      (pss_cons (ps_set (i := 5) sc_bit_ranks.nd rfl (by first | exact Or.inl rfl | exact Or.inr rfl) (pe_lst (pa_cons pe_int pa_nil)))
      (pss_cons (ps_set (i := 6) sc_bit_ranks.nd rfl (by first | exact Or.inl rfl | exact Or.inr rfl) (pe_lst (pa_cons (pe_frd pe_dnewK) pa_nil)))
      (pss_cons (ps_for PassesOwn.never rfl (pi_range2 (by rfl) T.b_range (pa_cons pe_int (pa_cons (pe_op op_shl pe_int (pe_ix ix_seq (pv 0) pe_int (fun _ _ => rfl))) pa_nil))) (pg_name (i := 7) sc_bit_ranks.nd rfl (by first | exact Or.inl rfl | exact Or.inr rfl)) (pss_cons (ps_set (i := 2) sc_bit_ranks.nd rfl (by first | exact Or.inl rfl | exact Or.inr rfl) (pe_op op_sub (pe_bits (pv 7)) pe_int))
      (pss_cons (ps_set (i := 8) sc_bit_ranks.nd rfl (by first | exact Or.inl rfl | exact Or.inr rfl) (pe_op op_xor (pv 7) (pe_op op_shl pe_int (pv 2))))
      (pss_cons (ps_par (i := 9) (j := 10) rfl sc_bit_ranks.nd rfl rfl (by decide) rfl rfl (pa_cons (pe_ix ix_seq (pv 1) (pv 2) (fun _ _ => rfl)) (pa_cons (pe_ix ix_seq (pv 6) (pv 8) (fun _ _ => rfl)) pa_nil)) (by rfl))
      (pss_cons (ps_while PassesOwn.never (PW.pt (pw_and (pt_cmpR (op_neZ hr.units) (pv 9) pe_int (nomark _)) (pw_and1 (pt_cmp (pc_xin hr.units (pe_bits (pv 9)) (pv 10)))))) (pss_one (ps_aug (i := 9) sc_bit_ranks.nd rfl (by first | exact Or.inl rfl | exact Or.inr rfl) (pe_xget hr.units (pv 10) (pe_bits (pv 9)) (fun _ _ => rfl)) ip_xor)))
      (pss_cons (ps_if (pt_cmpR (op_eqZ hr.units) (pv 9) pe_int (nomark _)) (pss_one (ps_expr (pe_bm PySem.F.plainAttrs_list PySem.F.slot_list_append PySem.F.type_list_append mt_append (pv 6) (pa_cons (pv 10) pa_nil)))) (pss_cons (ps_set (i := 11) sc_bit_ranks.nd rfl (by first | exact Or.inl rfl | exact Or.inr rfl) (pe_callTy cr_dictD (by rfl) T.b_dict (by decide +kernel) (pa_cons (pv 10) pa_nil)))
      (pss_cons (ps_xput hr.units (pv 11) (pe_bits (pv 9)) (pv 9) (by rfl))
      (pss_one (ps_frzL (ps_expr (pe_bm PySem.F.plainAttrs_list PySem.F.slot_list_append PySem.F.type_list_append mt_append (pv 6) (pa_cons (pv 11) pa_nil))))))))
      (pss_one (ps_expr (pe_bm PySem.F.plainAttrs_list PySem.F.slot_list_append PySem.F.type_list_append mt_append (pv 5) (pa_cons (pe_callB call_lenX (by rfl) T.b_len (by decide +kernel) (pa_cons (pe_ix ix_seq (pv 6) (pv 7) (fun _ _ => rfl)) pa_nil)) pa_nil))))))))))
      (pss_one (ps_ret (pv 5)))))))))
    (fun S => (ds_seq (ds_asg 1 (de_lst da_nil))
      (ds_seq (ds_for (Wg := [2]) (Wb := [1]) (F := []) (di_rng1 (da_cons (de_opA oa_ix (de_var 0) de_int) da_nil)) (dg_name 2) (ds_append 1 (de_cb cd_sumA (da_cons (de_lc (di_enum (da_cons (de_opA oa_ix (de_var 0) de_int) da_nil)) (dg_tup (dgs_cons (dg_name 3) (dgs_cons (dg_name 4) dgs_nil))) dt_yes (de_op od_IC (de_opA oa_ix (de_var 4) (de_var 2)) (de_var 3)) (by decide)) da_nil))) (by decide))
      (ds_seq (ds_asg 5 (de_lst (da_cons de_int da_nil)))
      (ds_seq (ds_asg 6 (de_lst (da_cons (de_frdNew) da_nil)))
      (ds_seq (ds_for (Wg := [7]) (Wb := [2, 8, 9, 10, 9, 6, 11, 11, 6, 5]) (F := [7, 8, 9, 10, 11]) (di_rng2 (da_cons de_int (da_cons (de_op od_IC de_int (de_opA oa_ix (de_var 0) de_int)) da_nil))) (dg_name 7) (ds_seq (ds_asg 2 (de_op od_I0 (de_bits (de_var 7)) de_int))
      (ds_seq (ds_asg 8 (de_op od_I0 (de_var 7) (de_op od_IC de_int (de_var 2))))
      (ds_seq (ds_par 9 10 (da_cons (de_solid (de_opA oa_ix (de_var 1) (de_var 2))) (da_cons (de_solid (de_opA oa_ix (de_var 6) (de_var 8))) da_nil)))
      (ds_seq (ds_while (F := []) (dt_and (dt_val (de_op od_eq (de_var 9) de_int)) (dt_val (de_kin (de_bits (de_var 9)) (de_var 10)))) (ds_augI 9 (de_kget (de_var 10) (de_bits (de_var 9)))))
      (ds_seq (ds_if (dt_val (de_op od_eq (de_var 9) de_int)) (ds_append 6 (de_solid (de_var 10))) (ds_seq (ds_asg 11 (de_cb cd_dictCp (da_cons (de_var 10) da_nil)))
      (ds_seq (ds_kput 11 (de_solid (de_var 9)) (de_bits (de_var 9)))
      (ds_fz 11 (ds_append 6 (de_solid (de_var 11)))))))
      (ds_append 5 (de_lenX (de_opA oa_ix (de_var 6) (de_var 7))))))))) (by decide))
      (ds_retV 5))))))) h (fun S ds R hs => pl_bit_ranks ds R hs)
def spec_bit_widths : List D → (D → Prop) → Prop := fun ds R => ∃ (n : Nat) (B : List (List Bool)), ds = [.tuple [.int ((n : Nat) : Int), .tuple (rowsD B)]] ∧ Len n B ∧ Ind n B ∧ 1 ≤ n ∧ n ≤ 16 ∧ R (.list ((List.range (2 ^ n)).map fun x => .int (wdP n B (ptsN n x))))
theorem len_bit_widths : ∀ ds R, spec_bit_widths ds R → ds.length = 1 := by
  rintro ds R ⟨n, B, rfl, _⟩
  rfl
def m_bit_widths : DMS :=
  (sSeq (sAsgG [] (dTup (dCons (dCall spec_bit_ranks (dCons (dVar 0) dNil)) (dCons (dBin (f2I fun i j => .int (i - j)) (dBin (f2IC CPow fun i j => .int (i * 2 ^ j.toNat)) (dC (.int 1)) (dBin fIx (dVar 0) (dC (.int 0)))) (dC (.int 1))) dNil))) (dgTup 2 (dgCons (dgName 1) (dgCons (dgName 2) dgNil))))
  (sRet (dComp (dRng1 (dCons (dBin fAdd (dVar 2) (dC (.int 1))) dNil)) (dgName 3) dYes (dBin (f2I fun i j => .int (i - j)) (dBin fAdd (dBin fIx (dVar 1) (dVar 3)) (dBin fIx (dVar 1) (dBin (f2I fun i j => .int (Builtin.bitXor i j)) (dVar 2) (dVar 3)))) (dCall fLen (dCons (dBin fIx (dVar 0) (dC (.int 1))) dNil))) [3])))
theorem pl_bit_widths : ∀ ds R, spec_bit_widths ds R → m_bit_widths (startE ["code", "ranks", "every", "lot"] ds) (retE R) := by
  rintro ds R ⟨n, B, rfl, hB, iB, n1, hn, h⟩
  unfold m_bit_widths
  have lB := ind_count hB iB
  have pw : (2 : Nat) ^ n ≤ 2 ^ 16 := Nat.pow_le_pow_right (by decide) hn
  have p0 : 0 < 2 ^ n := Nat.two_pow_pos n
  have e : (1 : Int) * 2 ^ ((n : Nat) : Int).toNat = ((2 ^ n : Nat) : Int) := by rw [Int.toNat_natCast, Int.one_mul]; norm_cast
  walk_at "h"
  refine ⟨n, B, rfl, hB, n1, hn, by omega, ?_⟩
  walk_at "s"
  rw [e]
  have e2 : ((2 ^ n : Nat) : Int) - 1 = ((2 ^ n - 1 : Nat) : Int) := by omega
  rw [e2]
  refine ⟨⟨by omega, by omega, by decide⟩, ?_⟩
  try walk_at "h"
  try walk_at "s"
  rw [show (((2 ^ n - 1 : Nat) : Int) + 1).toNat = 2 ^ n by omega, rangeD_nats]
  refine ⟨⟨by omega, by omega⟩, by rw [List.length_map, List.length_range]; omega, compD_map (fun x => .int (wdP n B (ptsN n x))) (fun x hx k k0 hk => ?_) h⟩
  have hx := List.mem_range.mp hx
  have hf : (2 ^ n - 1) ^^^ x < 2 ^ n := Nat.xor_lt_two_pow (by omega) hx
  have at_ : ∀ y, y < 2 ^ n → atI ((List.range (2 ^ n)).map fun x => natD (rkP B (ptsN n x))) ((y : Nat) : Int) = some (natD (rkP B (ptsN n y))) := fun y hy => atI_ok (j := y) (by rw [List.getElem?_map, List.getElem?_range hy]; rfl) rfl
  have eo : rkP B (ptsN n ((2 ^ n - 1) ^^^ x)) = rkP B (outP n (ptsN n x)) := rkP_same hB iB fun q => by
    rw [mem_pts, mem_outP, mem_pts, Nat.testBit_xor, Nat.testBit_two_pow_sub_one]
    constructor
    · rintro ⟨a, b⟩
      refine ⟨a, fun z => ?_⟩
      rw [z.2] at b
      simp [a] at b
    · rintro ⟨a, b⟩
      refine ⟨a, ?_⟩
      cases c : Nat.testBit x q
      · simp [a]
      · exact absurd ⟨a, c⟩ b
  walk_at "h"
  rw [xor_nat]
  refine ⟨_, at_ x hx, _, at_ _ hf, ?_⟩
  walk_at "h"
  rw [eo]
  unfold wdP at hk
  rw [List.length_map]
  exact hk
theorem at_bit_widths (T : Tx K mg) : FnAt P w K mg base "bit_widths" 2 1 (spD K spec_bit_widths) := by
  obtain ⟨f, fd, hm, F⟩ := T.f_bit_widths
  refine fnAt_of hm F rfl (F.binds (ps := ["code"]) fun _ _ _ _ _ _ us hl => match us, hl with | [_], _ => rfl) (fnG_of F sc_bit_widths (spD_len len_bit_widths) fun cdv A outer s H vs Q E hr hg h => ?_)
  exact body_of (m := fun _ => m_bit_widths) ["code", "ranks", "every", "lot"]
    ((pss_cons (ps_asg (pe_tupF (pa_cons (pe_callG (at_bit_ranks T) (hr.mono (by decide)) hg (by rfl) (pa_cons (pv 0) pa_nil)) (pa_cons (pe_op op_sub (pe_op op_shl pe_int (pe_ix ix_seq (pv 0) pe_int (fun _ _ => rfl))) pe_int) pa_nil))) (pg_tup rfl (pgs_cons (pg_name (i := 1) sc_bit_widths.nd rfl (by first | exact Or.inl rfl | exact Or.inr rfl)) (pgs_cons (pg_name (i := 2) sc_bit_widths.nd rfl (by first | exact Or.inl rfl | exact Or.inr rfl)) pgs_nil))))
      (pss_one (ps_ret (pe_lc (own := [("lot", 3)]) rfl sc_bit_widths.nd (pi_range1 (by rfl) T.b_range (pa_cons (pe_op op_addZ (pv 2) pe_int) pa_nil)) (blkOk_by (N := ["code", "ranks", "every", "lot"]) (sc := defScope s_bit_widths) (by decide +kernel)) (fun _ _ _ _ _ => (pg_name (i := 3) sc_bit_widths.nd rfl (by first | exact Or.inl rfl | exact Or.inr rfl))) (fun _ _ _ _ _ => pts_nil) (fun _ _ _ _ _ => (pe_op op_sub (pe_op op_addZ (pe_ix ix_seq (pv 1) (pv 3) (fun _ _ => rfl)) (pe_ix ix_seq (pv 1) (pe_op op_xor (pv 2) (pv 3)) (fun _ _ => rfl))) (pe_callB call_len (by rfl) T.b_len PySem.boot_len (pa_cons (pe_ix ix_seq (pv 0) pe_int (fun _ _ => rfl)) pa_nil)))))))))
    (fun S => (ds_seq (ds_asgG (de_tup (da_cons (de_call (da_cons (de_var 0) da_nil)) (da_cons (de_op od_I0 (de_op od_IC de_int (de_opA oa_ix (de_var 0) de_int)) de_int) da_nil))) (dg_tup (dgs_cons (dg_name 1) (dgs_cons (dg_name 2) dgs_nil))))
      (ds_ret (de_lc (di_rng1 (da_cons (de_op od_add (de_var 2) de_int) da_nil)) (dg_name 3) dt_yes (de_op od_I0 (de_op od_add (de_opA oa_ix (de_var 1) (de_var 3)) (de_opA oa_ix (de_var 1) (de_op od_I0 (de_var 2) (de_var 3)))) (de_cb cd_len (da_cons (de_opA oa_ix (de_var 0) de_int) da_nil))) (by decide))))) h (fun S ds R hs => pl_bit_widths ds R hs)
def spec_least_rows : List D → (D → Prop) → Prop := fun ds R => ∃ (n : Nat) (B : List (List Bool)) (tot : Bool), ds = [.tuple [.int ((n : Nat) : Int), .tuple (rowsD B)], .bool tot] ∧ Len n B ∧ Ind n B ∧ 1 ≤ n ∧ n ≤ 16 ∧ R (.list ((List.range (2 ^ n)).map fun x => .int (bestN n (fun x => wdP n B (ptsN n x)) tot x)))
theorem len_least_rows : ∀ ds R, spec_least_rows ds R → ds.length = 2 := by
  rintro ds R ⟨n, B, tot, rfl, _⟩
  rfl
def m_least_rows : DMS :=
  (sSeq (sAsg 2 (dLst (dCons (dC (.int 0)) dNil)))
  (sSeq (sAsg 3 (dCall spec_bit_widths (dCons (dVar 0) dNil)))
  (sSeq (sFor (dRng2 (dCons (dC (.int 1)) (dCons (dCall fLen (dCons (dVar 3) dNil)) dNil))) (dgName 4) (sSeq (sAsg 5 (dCall fMinL (dCons (dComp (dRng1 (dCons (dBin fIx (dVar 0) (dC (.int 0))) dNil)) (dgName 6) (dTest (dBin (fEq false) (dBin (f2I fun i j => .int (Builtin.bitAnd i j)) (dBin (f2IC (fun _ j => 0 ≤ j) fun i j => .int (i / 2 ^ j.toNat)) (dVar 4) (dVar 6)) (dC (.int 1))) (dC (.int 1)))) (dSolid (dBin fIx (dVar 2) (dBin (f2I fun i j => .int (Builtin.bitXor i j)) (dVar 4) (dBin (f2IC CPow fun i j => .int (i * 2 ^ j.toNat)) (dC (.int 1)) (dVar 6))))) [6]) dNil)))
  (sAppend 2 (dIf (dTru (dVar 1)) (dBin fAdd (dVar 5) (dBin fIx (dVar 3) (dVar 4))) (dCall (f2L fun i j => if j > i then j else i) (dCons (dVar 5) (dCons (dBin fIx (dVar 3) (dVar 4)) dNil)))))) [4, 5, 2] [4, 5])
  (sRetV 2))))
theorem pl_least_rows : ∀ ds R, spec_least_rows ds R → m_least_rows (startE ["code", "is_total", "found", "some", "lot", "least", "place"] ds) (retE R) := by
  rintro ds R ⟨n, B, tot, rfl, hB, iB, n1, hn, h⟩
  unfold m_least_rows
  have pw : (2 : Nat) ^ n ≤ 2 ^ 16 := Nat.pow_le_pow_right (by decide) hn
  have p0 : 0 < 2 ^ n := Nat.two_pow_pos n
  have at_ : ∀ y, y < 2 ^ n → atI ((List.range (2 ^ n)).map fun x => (.int (wdP n B (ptsN n x)) : D)) ((y : Nat) : Int) = some (.int (wdP n B (ptsN n y))) := fun y hy => atI_ok (j := y) (by rw [List.getElem?_map, List.getElem?_range hy]; rfl) rfl
  walk_at "h"
  walk_at "s"
  refine ⟨n, B, rfl, hB, iB, n1, hn, ?_⟩
  walk_at "s"
  rw [List.length_map, List.length_range]
  refine ⟨⟨by omega, by omega, by omega, by omega⟩, ?_⟩
  generalize hw : (fun x => wdP n B (ptsN n x)) = w at *
  have at_ : ∀ y, y < 2 ^ n → atI ((List.range (2 ^ n)).map fun x => (.int (wdP n B (ptsN n x)) : D)) ((y : Nat) : Int) = some (.int (w y)) := fun y hy => by rw [at_ y hy, ← hw]
  refine forD_nx (fun i ρ => ρ = [.val (.tuple [.int ((n : Nat) : Int), .tuple (rowsD B)]), .val (.bool tot), .own (.list ((List.range (i + 1)).map fun x => .int (bestN n w tot x))), .val (.list ((List.range (2 ^ n)).map fun x => .int (wdP n B (ptsN n x)))), .unk, .unk, .unk]) _ 0 _ rfl ?_ ?_
  · rintro i x ρ E hx rfl hN
    rw [Nat.zero_add] at hN ⊢
    have eN : (((2 ^ n : Nat) : Int) - 1).toNat = 2 ^ n - 1 := by omega
    have hi : i < 2 ^ n - 1 := by
      have := (List.getElem?_eq_some_iff.mp hx).1
      rw [rangeD_len, eN] at this
      exact this
    obtain rfl : natD (i + 1) = x := by
      unfold rangeD at hx
      rw [List.getElem?_map, List.getElem?_range (by omega)] at hx
      have := Option.some.inj hx
      rw [← this]
      show PyData.int _ = PyData.int _
      congr 1
      omega
    walk_at "h"
    rw [Int.toNat_natCast, rangeD_nats]
    refine ⟨⟨by omega, by omega⟩, by rw [List.length_map, List.length_range]; omega, compD_filter (fun p => .int (bestN n w tot (i + 1 - 2 ^ p))) (fun p => Nat.testBit (i + 1) p) (fun p hp k k0 h1 h0 => ?_) ?_⟩
    · have hp := List.mem_range.mp hp
      walk_at "h"
      refine ⟨by omega, fEq_int ?_⟩
      rw [Int.toNat_natCast]
      have eb : (Builtin.bitAnd (((i + 1 : Nat) : Int) / 2 ^ p) 1 == 1) = Nat.testBit (i + 1) p := bit_and1 _ _
      simp only [Bool.false_eq_true, if_false]
      rw [eb]
      cases g : Nat.testBit (i + 1) p
      · exact h0 g
      · have lt := (pts_sub (mem_pts.mpr ⟨hp, g⟩)).1
        rw [cond_true, show (1 : Int) * 2 ^ p = ((2 ^ p : Nat) : Int) by rw [Int.one_mul]; norm_cast, xor_nat, (xor_sub g).1]
        exact ⟨⟨by omega, by omega, by decide⟩, _, atI_ok (j := i + 1 - 2 ^ p) (by rw [List.getElem?_map, List.getElem?_range (by omega)]; rfl) rfl, solid_int _, h1 g⟩
    have ep : ((List.range n).filter fun p => Nat.testBit (i + 1) p) = ptsN n (i + 1) := rfl
    rw [ep]
    refine ⟨(ptsN n (i + 1)).map fun p => bestN n w tot (i + 1 - 2 ^ p), by rw [List.map_map]; rfl, ?_, fun m h1 h2 => ?_⟩
    · rw [List.length_map]
      exact List.length_pos_iff.mpr (pts_any (by omega) (by omega))
    have em := minI_is h1 h2
    have ea : ((List.range (i + 1)).map fun x => (.int (bestN n w tot x) : D)) ++ [.int (bestN n w tot (i + 1))] = (List.range (i + 1 + 1)).map fun x => .int (bestN n w tot x) := by
      rw [List.range_succ (n := i + 1), List.map_append]
      rfl
    have eb := bestN_step n w tot (x := i + 1) (by omega)
    rw [← em] at eb
    walk_at "s"
    have wl : ((List.range (i + 1)).map fun x => (.int (bestN n w tot x) : D)).length < 10000000 := by rw [List.length_map, List.length_range]; omega
    have wa := at_ (i + 1) (by omega)
    cases tot
    · refine ⟨_, wa, ?_⟩
      walk_at "h"
      refine ⟨wl, ?_⟩
      have ej : (if w (i + 1) > m then w (i + 1) else m) = bestN n w false (i + 1) := by
        rw [eb]
        unfold joinT
        simp only [Bool.false_eq_true, if_false]
        split <;> omega
      rw [ej, ea]
      exact hN _ rfl
    · refine ⟨_, wa, ?_⟩
      walk_at "h"
      refine ⟨wl, ?_⟩
      have ej : m + w (i + 1) = bestN n w true (i + 1) := by
        rw [eb]
        rfl
      rw [ej, ea]
      exact hN _ rfl
  · rintro ρ rfl
    rw [rangeD_len, show (((2 ^ n : Nat) : Int) - 1).toNat = 2 ^ n - 1 by omega, show 0 + (2 ^ n - 1) + 1 = 2 ^ n by omega]
    walk_at "h"
    walk_at "s"
    exact h
theorem at_least_rows (T : Tx K mg) : FnAt P w K mg base "least_rows" 3 2 (spD K spec_least_rows) := by
  obtain ⟨f, fd, hm, F⟩ := T.f_least_rows
  refine fnAt_of hm F rfl (F.binds (ps := ["code", "is_total"]) fun _ _ _ _ _ _ us hl => match us, hl with | [_, _], _ => rfl) (fnG_of F sc_least_rows (spD_len len_least_rows) fun cdv A outer s H vs Q E hr hg h => ?_)
  exact body_of (m := fun _ => m_least_rows) ["code", "is_total", "found", "some", "lot", "least", "place"]
    ((pss_cons (ps_set (i := 2) sc_least_rows.nd rfl (by first | exact Or.inl rfl | exact Or.inr rfl) (pe_lst (pa_cons pe_int pa_nil)))
      (pss_cons (ps_set (i := 3) sc_least_rows.nd rfl (by first | exact Or.inl rfl | exact Or.inr rfl) (pe_callG (at_bit_widths T) (hr.mono (by decide)) hg (by rfl) (pa_cons (pv 0) pa_nil)))
      (pss_cons (ps_for PassesOwn.never rfl (pi_range2 (by rfl) T.b_range (pa_cons pe_int (pa_cons (pe_callB call_len (by rfl) T.b_len PySem.boot_len (pa_cons (pv 3) pa_nil)) pa_nil))) (pg_name (i := 4) sc_least_rows.nd rfl (by first | exact Or.inl rfl | exact Or.inr rfl)) (pss_cons (ps_set (i := 5) sc_least_rows.nd rfl (by first | exact Or.inl rfl | exact Or.inr rfl) (pe_callB (cr_min rfl) (by rfl) T.b_min (by decide +kernel) (pa_cons (pe_lc (own := [("place", 6)]) rfl sc_least_rows.nd (pi_range1 (by rfl) T.b_range (pa_cons (pe_ix ix_seq (pv 0) pe_int (fun _ _ => rfl)) pa_nil)) (blkOk_by (N := ["code", "is_total", "found", "some", "lot", "least", "place"]) (sc := defScope s_least_rows) (by decide +kernel)) (fun _ _ _ _ _ => (pg_name (i := 6) sc_least_rows.nd rfl (by first | exact Or.inl rfl | exact Or.inr rfl))) (fun _ _ _ _ _ => (pts_one (pt_cmpR (op_eqZ hr.units) (pe_op op_and (pe_op op_shr (pv 4) (pv 6)) pe_int) pe_int (nomark _)))) (fun _ _ _ _ _ => (pe_ix ix_seq (pv 2) (pe_op op_xor (pv 4) (pe_op op_shl pe_int (pv 6))) (fun _ _ => rfl)))) pa_nil)))
      (pss_one (ps_expr (pe_bm PySem.F.plainAttrs_list PySem.F.slot_list_append PySem.F.type_list_append mt_append (pv 2) (pa_cons (pe_ifExp (pt_truth (pv 1) (fun _ => rfl)) (pe_op op_addZ (pv 5) (pe_ix ix_seq (pv 3) (pv 4) (fun _ _ => rfl))) (pe_callB (call_max2 rfl) (by rfl) T.b_max (by decide +kernel) (pa_cons (pv 5) (pa_cons (pe_ix ix_seq (pv 3) (pv 4) (fun _ _ => rfl)) pa_nil)))) pa_nil))))))
      (pss_one (ps_ret (pv 2)))))))
    (fun S => (ds_seq (ds_asg 2 (de_lst (da_cons de_int da_nil)))
      (ds_seq (ds_asg 3 (de_call (da_cons (de_var 0) da_nil)))
      (ds_seq (ds_for (Wg := [4]) (Wb := [5, 2]) (F := [4, 5]) (di_rng2 (da_cons de_int (da_cons (de_cb cd_len (da_cons (de_var 3) da_nil)) da_nil))) (dg_name 4) (ds_seq (ds_asg 5 (de_cb cd_minL (da_cons (de_lc (di_rng1 (da_cons (de_opA oa_ix (de_var 0) de_int) da_nil)) (dg_name 6) (dt_val (de_op od_eq (de_op od_I0 (de_op od_IC (de_var 4) (de_var 6)) de_int) de_int)) (de_solid (de_opA oa_ix (de_var 2) (de_op od_I0 (de_var 4) (de_op od_IC de_int (de_var 6))))) (by decide)) da_nil)))
      (ds_append 2 (de_if (dt_tru (de_var 1)) (de_op od_add (de_var 5) (de_opA oa_ix (de_var 3) (de_var 4))) (de_cb cd_max2 (da_cons (de_var 5) (da_cons (de_opA oa_ix (de_var 3) (de_var 4)) da_nil)))))) (by decide))
      (ds_retV 2))))) h (fun S ds R hs => pl_least_rows ds R hs)
def spec_told_order : List D → (D → Prop) → Prop := fun ds R => ∃ (n : Nat) (X : D) (w : Nat → Int) (tot : Bool), ds = [.tuple [.int ((n : Nat) : Int), X], .list ((List.range (2 ^ n)).map fun x => .int (bestN n w tot x))] ∧ n ≤ 16 ∧ R (.tuple ((toldO n w tot (2 ^ n - 1)).reverse.map natD))
theorem len_told_order : ∀ ds R, spec_told_order ds R → ds.length = 2 := by
  rintro ds R ⟨n, X, w, tot, rfl, _⟩
  rfl
def m_told_order : DMS :=
  (sSeq (sPar 2 3 (dCons (dLst dNil) (dCons (dBin (f2I fun i j => .int (i - j)) (dBin (f2IC CPow fun i j => .int (i * 2 ^ j.toNat)) (dC (.int 1)) (dBin fIx (dVar 0) (dC (.int 0)))) (dC (.int 1))) dNil)))
  (sSeq (sWhile (dTest (dBin (fEq true) (dVar 3) (dC (.int 0)))) (sSeq (sAsg 4 (dComp (dRng1 (dCons (dBin fIx (dVar 0) (dC (.int 0))) dNil)) (dgName 5) (dTest (dBin (fEq false) (dBin (f2I fun i j => .int (Builtin.bitAnd i j)) (dBin (f2IC (fun _ j => 0 ≤ j) fun i j => .int (i / 2 ^ j.toNat)) (dVar 3) (dVar 5)) (dC (.int 1))) (dC (.int 1)))) (dSolid (dTup (dCons (dBin fIx (dVar 1) (dBin (f2I fun i j => .int (Builtin.bitXor i j)) (dVar 3) (dBin (f2IC CPow fun i j => .int (i * 2 ^ j.toNat)) (dC (.int 1)) (dVar 5)))) (dCons (dUn (f1I fun i => .int (-i)) (dVar 5)) dNil)))) [5]))
  (sSeq (sAsg 5 (dUn (f1I fun i => .int (-i)) (dBin fIx (dCall fMinD (dCons (dVar 4) dNil)) (dC (.int 1)))))
  (sSeq (sAppend 2 (dSolid (dVar 5)))
  (sAugI 3 (fun i j => Builtin.bitXor i j) (dBin (f2IC CPow fun i j => .int (i * 2 ^ j.toNat)) (dC (.int 1)) (dVar 5)))))) [4, 5])
  (sRet (dCall fTuple (dCons (dRev (dVar 2)) dNil)))))
theorem pl_told_order : ∀ ds R, spec_told_order ds R → m_told_order (startE ["code", "least", "found", "lot", "some", "place"] ds) (retE R) := by
  rintro ds R ⟨n, X, w, tot, rfl, hn, h⟩
  unfold m_told_order
  have pw : (2 : Nat) ^ n ≤ 2 ^ 16 := Nat.pow_le_pow_right (by decide) hn
  have p0 : 0 < 2 ^ n := Nat.two_pow_pos n
  have e : (1 : Int) * 2 ^ ((n : Nat) : Int).toNat = ((2 ^ n : Nat) : Int) := by rw [Int.toNat_natCast, Int.one_mul]; norm_cast
  have at_ : ∀ y, y < 2 ^ n → atI ((List.range (2 ^ n)).map fun x => (.int (bestN n w tot x) : D)) ((y : Nat) : Int) = some (.int (bestN n w tot y)) := fun y hy => atI_ok (j := y) (by rw [List.getElem?_map, List.getElem?_range hy]; rfl) rfl
  walk_at "h"
  rw [e, show ((2 ^ n : Nat) : Int) - 1 = ((2 ^ n - 1 : Nat) : Int) by omega]
  refine ⟨⟨by omega, by omega, by decide⟩, ?_⟩
  walk_at "s"
  refine ⟨fun m ρ => ∃ L : List Nat, m < 2 ^ n ∧ L ++ toldO n w tot m = toldO n w tot (2 ^ n - 1) ∧ ρ = [.val (.tuple [.int ((n : Nat) : Int), X]), .val (.list ((List.range (2 ^ n)).map fun x => .int (bestN n w tot x))), .own (.list (L.map natD)), .own (natD m), .unk, .unk], ⟨_, [], by omega, rfl, rfl⟩, ?_⟩
  rintro m ρ ⟨L, hm, eL, rfl⟩
  walk_at "h"
  refine fEq_int ?_
  simp only [if_true]
  by_cases c0 : m = 0
  · subst c0
    rw [toldO_zero, List.append_nil] at eL
    rw [show ((((0 : Nat) : Nat) : Int) == 0) = true from rfl, Bool.not_true, cond_false]
    walk_at "s"
    rw [eL, ← List.map_reverse]
    exact ⟨solids_nats _, solids_nats _, h⟩
  · have cf : (((m : Nat) : Int) == 0) = false := by rw [beq_eq_false_iff_ne]; omega
    rw [cf]
    walk_at "h"
    rw [Int.toNat_natCast, rangeD_nats]
    refine ⟨⟨by omega, by omega⟩, by rw [List.length_map, List.length_range]; omega, compD_filter (fun p => pD (bestN n w tot (m - 2 ^ p), -((p : Nat) : Int))) (fun p => Nat.testBit m p) (fun p hp k k0 h1 h0 => ?_) ?_⟩
    · have hp := List.mem_range.mp hp
      walk_at "h"
      refine ⟨by omega, fEq_int ?_⟩
      simp only [Bool.false_eq_true, if_false]
      rw [Int.toNat_natCast, bit_and1]
      cases g : Nat.testBit m p
      · exact h0 g
      · have lt := (pts_sub (mem_pts.mpr ⟨hp, g⟩)).1
        rw [cond_true, show (1 : Int) * 2 ^ p = ((2 ^ p : Nat) : Int) by rw [Int.one_mul]; norm_cast, xor_nat, (xor_sub g).1]
        refine ⟨⟨by omega, by omega, by decide⟩, _, at_ _ (by omega), ?_⟩
        exact ⟨by simp [solid], h1 g⟩
    have ep : ((List.range n).filter fun p => Nat.testBit m p).map (fun p => pD (bestN n w tot (m - 2 ^ p), -((p : Nat) : Int))) = ((ptsN n m).map fun p => (bestN n w tot (m - 2 ^ p), -((p : Nat) : Int))).map pD := by
      rw [List.map_map]; rfl
    rw [ep]
    have ne := pts_any (n := n) (x := m) (by omega) hm
    have key : ∀ q : Int × Int, q ∈ ((ptsN n m).map fun p => (bestN n w tot (m - 2 ^ p), -((p : Nat) : Int))) → (∀ y ∈ ((ptsN n m).map fun p => (bestN n w tot (m - 2 ^ p), -((p : Nat) : Int))), lexI y q = false) → -q.2 = ((lastW n w tot m : Nat) : Int) := fun q hq hy => by
      obtain ⟨p, hp, rfl⟩ := List.mem_map.mp hq
      have : p = lastW n w tot m := lastW_is (by omega) hm hp (fun r hr => by
        have := hy _ (List.mem_map.mpr ⟨r, hr, rfl⟩)
        rw [← Bool.not_eq_true, lexI_iff] at this
        dsimp only at this
        omega) fun r hr er => by
        have := hy _ (List.mem_map.mpr ⟨r, hr, rfl⟩)
        rw [← Bool.not_eq_true, lexI_iff] at this
        dsimp only at this
        omega
      dsimp only
      omega
    have lp := pts_len n m
    generalize hG : ((ptsN n m).map fun p => (bestN n w tot (m - 2 ^ p), -((p : Nat) : Int))) = ps at *
    have lps : ps.length ≤ n := by rw [← hG, List.length_map]; exact lp
    have nps : ps ≠ [] := fun z => ne (List.map_eq_nil_iff.mp (hG.trans z))
    match ps, nps with
    | a :: l, _ =>
      obtain ⟨m1, m2⟩ := minP_ok l a
      have k1 := key _ m1 m2
      obtain ⟨t1, t2, t3, t4⟩ := lastW_ok (w := w) (tot := tot) (show 0 < m by omega) hm
      have tb := (mem_pts.mp t1).2
      have tl := (mem_pts.mp t1).1
      have lt := (pts_sub t1).1
      walk_at "s"
      obtain ⟨o1, o2, o3, o4⟩ := pairs_ok a l
      refine ⟨o1, o2, o3, o4, ?_⟩
      rw [minD_pairs]
      generalize minP a l = mp at *
      show ∃ d, _
      refine ⟨.int mp.2, rfl, ?_⟩
      dsimp only
      rw [k1]
      walk_at "s"
      have lL : L.length ≤ n := by
        have ok := toldO_ok (w := w) (tot := tot) (2 ^ n - 1) (show 2 ^ n - 1 < 2 ^ n by omega)
        have := pigeon n _ ok.1 fun q hq => pts_lt q ((ok.2 q).mp hq)
        rw [← eL, List.length_append] at this
        omega
      refine ⟨by rw [List.length_map]; omega, ?_⟩
      walk_at "s"
      rw [Int.toNat_natCast, Int.one_mul, show (2 : Int) ^ (lastW n w tot m) = ((2 ^ lastW n w tot m : Nat) : Int) by norm_cast, xor_nat, (xor_sub tb).1]
      refine ⟨⟨by omega, by omega, by decide⟩, _, lt, L ++ [lastW n w tot m], by omega, ?_, ?_⟩
      · rw [List.append_assoc, ← eL, toldO_step (by omega) hm]
        rfl
      · rw [List.map_append]
        rfl
theorem at_told_order (T : Tx K mg) : FnAt P w K mg base "told_order" 1 2 (spD K spec_told_order) := by
  obtain ⟨f, fd, hm, F⟩ := T.f_told_order
  refine fnAt_of hm F rfl (F.binds (ps := ["code", "least"]) fun _ _ _ _ _ _ us hl => match us, hl with | [_, _], _ => rfl) (fnG_of F sc_told_order (spD_len len_told_order) fun cdv A outer s H vs Q E hr hg h => ?_)
  exact body_of (m := fun _ => m_told_order) ["code", "least", "found", "lot", "some", "place"]
    ((pss_cons (ps_asg (pe_tupF (pa_cons (pe_lst pa_nil) (pa_cons (pe_op op_sub (pe_op op_shl pe_int (pe_ix ix_seq (pv 0) pe_int (fun _ _ => rfl))) pe_int) pa_nil))) (pg_tup rfl (pgs_cons (pg_name (i := 2) sc_told_order.nd rfl (by first | exact Or.inl rfl | exact Or.inr rfl)) (pgs_cons (pg_name (i := 3) sc_told_order.nd rfl (by first | exact Or.inl rfl | exact Or.inr rfl)) pgs_nil))))
      (pss_cons (ps_while PassesOwn.never (pt_cmpR (op_neZ hr.units) (pv 3) pe_int (nomark _)) (pss_cons (ps_setLc (i := 4) (own := [("place", 5)]) rfl sc_told_order.nd rfl rfl (sw_true rfl rfl rfl (by decide +kernel)) (pi_range1 (by rfl) T.b_range (pa_cons (pe_ix ix_seq (pv 0) pe_int (fun _ _ => rfl)) pa_nil)) (blkOk_by (N := ["code", "least", "found", "lot", "some", "place"]) (sc := defScope s_told_order) (by decide +kernel)) (fun _ _ _ _ _ => (pg_name (i := 5) sc_told_order.nd rfl (by first | exact Or.inl rfl | exact Or.inr rfl))) (fun _ _ _ _ _ => (pts_one (pt_cmpR (op_eqZ hr.units) (pe_op op_and (pe_op op_shr (pv 3) (pv 5)) pe_int) pe_int (nomark _)))) (fun _ _ _ _ _ => (pe_tupF (pa_cons (pe_ix ix_seq (pv 1) (pe_op op_xor (pv 3) (pe_op op_shl pe_int (pv 5))) (fun _ _ => rfl)) (pa_cons (pe_un un_neg (pv 5)) pa_nil)))))
      (pss_cons (ps_set (i := 5) sc_told_order.nd rfl (by first | exact Or.inl rfl | exact Or.inr rfl) (pe_un un_neg (pe_ix ix_seq (pe_callB (cr_minD rfl hr.units) (by rfl) T.b_min (by decide +kernel) (pa_cons (pv 4) pa_nil)) pe_int (fun _ _ => rfl))))
      (pss_cons (ps_expr (pe_bm PySem.F.plainAttrs_list PySem.F.slot_list_append PySem.F.type_list_append mt_append (pv 2) (pa_cons (pv 5) pa_nil)))
      (pss_one (ps_aug (i := 3) sc_told_order.nd rfl (by first | exact Or.inl rfl | exact Or.inr rfl) (pe_op op_shl pe_int (pv 5)) ip_xor))))))
      (pss_one (ps_ret (pe_callTy call_tupF (by rfl) T.b_tuple (by decide +kernel) (pa_cons (pe_revZ (pv 2)) pa_nil)))))))
    (fun S => (ds_seq (ds_parG 2 3 (da_cons (de_lst da_nil) (da_cons (de_op od_I0 (de_op od_IC de_int (de_opA oa_ix (de_var 0) de_int)) de_int) da_nil)))
      (ds_seq (ds_while (F := [4, 5]) (dt_val (de_op od_eq (de_var 3) de_int)) (ds_seq (ds_asg 4 (de_lc (di_rng1 (da_cons (de_opA oa_ix (de_var 0) de_int) da_nil)) (dg_name 5) (dt_val (de_op od_eq (de_op od_I0 (de_op od_IC (de_var 3) (de_var 5)) de_int) de_int)) (de_solid (de_tup (da_cons (de_opA oa_ix (de_var 1) (de_op od_I0 (de_var 3) (de_op od_IC de_int (de_var 5)))) (da_cons (de_un ud_I (de_var 5)) da_nil)))) (by decide)))
      (ds_seq (ds_asg 5 (de_un ud_I (de_opA oa_ix (de_cb cd_minD (da_cons (de_var 4) da_nil)) de_int)))
      (ds_seq (ds_append 2 (de_solid (de_var 5)))
      (ds_augI 3 (de_op od_IC de_int (de_var 5)))))))
      (ds_ret (de_cb cd_tuple (da_cons (de_rev (de_var 2)) da_nil)))))) h (fun S ds R hs => pl_told_order ds R hs)
def spec_least_widest : List D → (D → Prop) → Prop := fun ds R => ∃ (n : Nat) (B : List (List Bool)), ds = [.tuple [.int ((n : Nat) : Int), .tuple (rowsD B)]] ∧ Len n B ∧ Ind n B ∧ 1 ≤ n ∧ n ≤ 16 ∧ R (.int (bestN n (fun x => wdP n B (ptsN n x)) false (2 ^ n - 1)))
theorem len_least_widest : ∀ ds R, spec_least_widest ds R → ds.length = 1 := by
  rintro ds R ⟨n, B, rfl, _⟩
  rfl
def m_least_widest : DMS :=
  (sRet (dBin fIx (dCall spec_least_rows (dCons (dVar 0) (dCons (dC (.bool false)) dNil))) (dUn (f1I fun i => .int (-i)) (dC (.int 1)))))
theorem neg_l : (dUn (f1I fun i => .int (-i)) (dC (.int 1)) : DM) = dC (.int (-1)) := rfl
theorem pl_least_widest : ∀ ds R, spec_least_widest ds R → m_least_widest (startE ["code"] ds) (retE R) := by
  rintro ds R ⟨n, B, rfl, hB, iB, n1, hn, h⟩
  unfold m_least_widest
  simp only [neg_l]
  have p0 : 0 < 2 ^ n := Nat.two_pow_pos n
  walk_at "h"
  refine ⟨n, B, false, rfl, hB, iB, n1, hn, .int (bestN n (fun x => wdP n B (ptsN n x)) false (2 ^ n - 1)), ?_, ?_⟩
  · unfold atI ixN
    rw [if_neg (by decide), List.length_map, List.length_range, if_pos (by omega)]
    have : ((-1 : Int) + ((2 ^ n : Nat) : Int)).toNat = 2 ^ n - 1 := by omega
    show (List.map _ _)[((-1 : Int) + ((2 ^ n : Nat) : Int)).toNat]? = _
    rw [this, List.getElem?_map, List.getElem?_range (by omega)]
    rfl
  · exact h
theorem at_least_widest (T : Tx K mg) : FnAt P w K mg base "least_widest" 4 1 (spD K spec_least_widest) := by
  obtain ⟨f, fd, hm, F⟩ := T.f_least_widest
  refine fnAt_of hm F rfl (F.binds (ps := ["code"]) fun _ _ _ _ _ _ us hl => match us, hl with | [_], _ => rfl) (fnG_of F sc_least_widest (spD_len len_least_widest) fun cdv A outer s H vs Q E hr hg h => ?_)
  exact body_of (m := fun _ => m_least_widest) ["code"]
    ((pss_one (ps_ret (pe_ix ix_seq (pe_callG (at_least_rows T) (hr.mono (by decide)) hg (by rfl) (pa_cons (pv 0) (pa_cons pe_bl pa_nil))) (pe_un un_neg pe_int) (fun _ _ => rfl)))))
    (fun S => (ds_ret (de_opA oa_ix (de_call (da_cons (de_var 0) (da_cons de_bl da_nil))) (de_un ud_I de_int)))) h (fun S ds R hs => pl_least_widest ds R hs)
def spec_least_total : List D → (D → Prop) → Prop := fun ds R => ∃ (n : Nat) (B : List (List Bool)), ds = [.tuple [.int ((n : Nat) : Int), .tuple (rowsD B)]] ∧ Len n B ∧ Ind n B ∧ 1 ≤ n ∧ n ≤ 16 ∧ R (.int (bestN n (fun x => wdP n B (ptsN n x)) true (2 ^ n - 1)))
theorem len_least_total : ∀ ds R, spec_least_total ds R → ds.length = 1 := by
  rintro ds R ⟨n, B, rfl, _⟩
  rfl
def m_least_total : DMS :=
  (sRet (dBin fIx (dCall spec_least_rows (dCons (dVar 0) (dCons (dC (.bool true)) dNil))) (dUn (f1I fun i => .int (-i)) (dC (.int 1)))))
theorem neg_lt : (dUn (f1I fun i => .int (-i)) (dC (.int 1)) : DM) = dC (.int (-1)) := rfl
theorem pl_least_total : ∀ ds R, spec_least_total ds R → m_least_total (startE ["code"] ds) (retE R) := by
  rintro ds R ⟨n, B, rfl, hB, iB, n1, hn, h⟩
  unfold m_least_total
  simp only [neg_lt]
  have p0 : 0 < 2 ^ n := Nat.two_pow_pos n
  walk_at "h"
  refine ⟨n, B, true, rfl, hB, iB, n1, hn, .int (bestN n (fun x => wdP n B (ptsN n x)) true (2 ^ n - 1)), ?_, ?_⟩
  · unfold atI ixN
    rw [if_neg (by decide), List.length_map, List.length_range, if_pos (by omega)]
    have : ((-1 : Int) + ((2 ^ n : Nat) : Int)).toNat = 2 ^ n - 1 := by omega
    show (List.map _ _)[((-1 : Int) + ((2 ^ n : Nat) : Int)).toNat]? = _
    rw [this, List.getElem?_map, List.getElem?_range (by omega)]
    rfl
  · exact h
theorem at_least_total (T : Tx K mg) : FnAt P w K mg base "least_total" 4 1 (spD K spec_least_total) := by
  obtain ⟨f, fd, hm, F⟩ := T.f_least_total
  refine fnAt_of hm F rfl (F.binds (ps := ["code"]) fun _ _ _ _ _ _ us hl => match us, hl with | [_], _ => rfl) (fnG_of F sc_least_total (spD_len len_least_total) fun cdv A outer s H vs Q E hr hg h => ?_)
  exact body_of (m := fun _ => m_least_total) ["code"]
    ((pss_one (ps_ret (pe_ix ix_seq (pe_callG (at_least_rows T) (hr.mono (by decide)) hg (by rfl) (pa_cons (pv 0) (pa_cons pe_bl pa_nil))) (pe_un un_neg pe_int) (fun _ _ => rfl)))))
    (fun S => (ds_ret (de_opA oa_ix (de_call (da_cons (de_var 0) (da_cons de_bl da_nil))) (de_un ud_I de_int)))) h (fun S ds R hs => pl_least_total ds R hs)
def spec_best_order : List D → (D → Prop) → Prop := fun ds R => ∃ (n : Nat) (B : List (List Bool)), ds = [.tuple [.int ((n : Nat) : Int), .tuple (rowsD B)]] ∧ Len n B ∧ Ind n B ∧ 1 ≤ n ∧ n ≤ 16 ∧ R (.tuple ((toldO n (fun x => wdP n B (ptsN n x)) false (2 ^ n - 1)).reverse.map natD))
theorem len_best_order : ∀ ds R, spec_best_order ds R → ds.length = 1 := by
  rintro ds R ⟨n, B, rfl, _⟩
  rfl
def m_best_order : DMS :=
  (sRet (dCall spec_told_order (dCons (dVar 0) (dCons (dCall spec_least_rows (dCons (dVar 0) (dCons (dC (.bool false)) dNil))) dNil))))
theorem pl_best_order : ∀ ds R, spec_best_order ds R → m_best_order (startE ["code"] ds) (retE R) := by
  rintro ds R ⟨n, B, rfl, hB, iB, n1, hn, h⟩
  unfold m_best_order
  walk_at "h"
  refine ⟨n, B, false, rfl, hB, iB, n1, hn, ?_⟩
  exact ⟨n, _, _, false, rfl, hn, h⟩
theorem at_best_order (T : Tx K mg) : FnAt P w K mg base "best_order" 4 1 (spD K spec_best_order) := by
  obtain ⟨f, fd, hm, F⟩ := T.f_best_order
  refine fnAt_of hm F rfl (F.binds (ps := ["code"]) fun _ _ _ _ _ _ us hl => match us, hl with | [_], _ => rfl) (fnG_of F sc_best_order (spD_len len_best_order) fun cdv A outer s H vs Q E hr hg h => ?_)
  exact body_of (m := fun _ => m_best_order) ["code"]
    ((pss_one (ps_ret (pe_callG (at_told_order T) (hr.mono (by decide)) hg (by rfl) (pa_cons (pv 0) (pa_cons (pe_callG (at_least_rows T) (hr.mono (by decide)) hg (by rfl) (pa_cons (pv 0) (pa_cons pe_bl pa_nil))) pa_nil))))))
    (fun S => (ds_ret (de_call (da_cons (de_var 0) (da_cons (de_call (da_cons (de_var 0) (da_cons de_bl da_nil))) da_nil))))) h (fun S ds R hs => pl_best_order ds R hs)
def spec_total_order : List D → (D → Prop) → Prop := fun ds R => ∃ (n : Nat) (B : List (List Bool)), ds = [.tuple [.int ((n : Nat) : Int), .tuple (rowsD B)]] ∧ Len n B ∧ Ind n B ∧ 1 ≤ n ∧ n ≤ 16 ∧ R (.tuple ((toldO n (fun x => wdP n B (ptsN n x)) true (2 ^ n - 1)).reverse.map natD))
theorem len_total_order : ∀ ds R, spec_total_order ds R → ds.length = 1 := by
  rintro ds R ⟨n, B, rfl, _⟩
  rfl
def m_total_order : DMS :=
  (sRet (dCall spec_told_order (dCons (dVar 0) (dCons (dCall spec_least_rows (dCons (dVar 0) (dCons (dC (.bool true)) dNil))) dNil))))
theorem pl_total_order : ∀ ds R, spec_total_order ds R → m_total_order (startE ["code"] ds) (retE R) := by
  rintro ds R ⟨n, B, rfl, hB, iB, n1, hn, h⟩
  unfold m_total_order
  walk_at "h"
  refine ⟨n, B, true, rfl, hB, iB, n1, hn, ?_⟩
  exact ⟨n, _, _, true, rfl, hn, h⟩
theorem at_total_order (T : Tx K mg) : FnAt P w K mg base "total_order" 4 1 (spD K spec_total_order) := by
  obtain ⟨f, fd, hm, F⟩ := T.f_total_order
  refine fnAt_of hm F rfl (F.binds (ps := ["code"]) fun _ _ _ _ _ _ us hl => match us, hl with | [_], _ => rfl) (fnG_of F sc_total_order (spD_len len_total_order) fun cdv A outer s H vs Q E hr hg h => ?_)
  exact body_of (m := fun _ => m_total_order) ["code"]
    ((pss_one (ps_ret (pe_callG (at_told_order T) (hr.mono (by decide)) hg (by rfl) (pa_cons (pv 0) (pa_cons (pe_callG (at_least_rows T) (hr.mono (by decide)) hg (by rfl) (pa_cons (pv 0) (pa_cons pe_bl pa_nil))) pa_nil))))))
    (fun S => (ds_ret (de_call (da_cons (de_var 0) (da_cons (de_call (da_cons (de_var 0) (da_cons de_bl da_nil))) da_nil))))) h (fun S ds R hs => pl_total_order ds R hs)
def spec_sum_of : List D → (D → Prop) → Prop := fun ds R => ∃ a b : List Bool, ds = [rowD a, rowD b] ∧ a.length = b.length ∧ a.length ≤ 100000 ∧ R (rowD (xr a b))
theorem len_sum_of : ∀ ds R, spec_sum_of ds R → ds.length = 2 := by
  rintro ds R ⟨a, b, rfl, _⟩
  rfl
def m_sum_of : DMS :=
  (sRet (dCall fTuple (dCons (dComp (dEnum (dCons (dVar 0) dNil)) (dgTup 2 (dgCons (dgName 2) (dgCons (dgName 3) dgNil))) dYes (dCall fInt (dCons (dBin (fEq true) (dVar 3) (dBin fIx (dVar 1) (dVar 2))) dNil)) [2, 3]) dNil)))
theorem pl_sum_of : ∀ ds R, spec_sum_of ds R → m_sum_of (startE ["one", "other", "k", "mark"] ds) (retE R) := by
  rintro ds R ⟨a, b, rfl, hl, hn, h⟩
  unfold m_sum_of
  walk_at "z"
  rw [row_ints, enumD_map]
  refine ⟨by simpa using Nat.le_trans hn (by decide), compD_map (fun p => .int (bI (p.1 ^^ gt b p.2))) (fun p hp k k0 hk => ?_) ⟨solids_of fun p _ => solid_int _, ?_⟩⟩
  · obtain ⟨x, i⟩ := p
    have hi := List.mem_zipIdx_iff_getElem?.mp hp
    have hb : i < b.length := by rw [← hl]; exact (List.getElem?_eq_some_iff.mp hi).1
    walk_at "z"
    refine ⟨_, atI_ok (at_rowD hb) rfl, fEq_bI ?_⟩
    walk_at "z"
    have e : (!(x == gt b i)) = (x ^^ gt b i) := by cases x <;> cases gt b i <;> rfl
    rw [e]
    exact hk
  · rw [xr_enum hl]
    exact h
theorem at_sum_of (T : Tx K mg) : FnAt P w K mg base "sum_of" 1 2 (spD K spec_sum_of) := by
  obtain ⟨f, fd, hm, F⟩ := T.f_sum_of
  refine fnAt_of hm F rfl (F.binds (ps := ["one", "other"]) fun _ _ _ _ _ _ us hl => match us, hl with | [_, _], _ => rfl) (fnG_of F sc_sum_of (spD_len len_sum_of) fun cdv A outer s H vs Q E hr hg h => ?_)
  exact body_of (m := fun _ => m_sum_of) ["one", "other", "k", "mark"]
    ((pss_one (ps_ret (pe_callTy call_tupF (by rfl) T.b_tuple (by decide +kernel) (pa_cons (pe_lc (own := [("k", 2), ("mark", 3)]) rfl sc_sum_of.nd (pi_enumS (by rfl) T.b_enumerate (pa_cons (pv 0) pa_nil)) (blkOk_by (N := ["one", "other", "k", "mark"]) (sc := defScope s_sum_of) (by decide +kernel)) (fun _ _ _ _ _ => (pg_tup rfl (pgs_cons (pg_name (i := 2) sc_sum_of.nd rfl (by first | exact Or.inl rfl | exact Or.inr rfl)) (pgs_cons (pg_name (i := 3) sc_sum_of.nd rfl (by first | exact Or.inl rfl | exact Or.inr rfl)) pgs_nil)))) (fun _ _ _ _ _ => pts_nil) (fun _ _ _ _ _ => (pe_callTy call_int1 (by rfl) T.b_int (by decide +kernel) (pa_cons (pe_cmpR (op_neZ hr.units) (pv 3) (pe_ix ix_seq (pv 1) (pv 2) (fun _ _ => rfl)) (nomark _)) pa_nil)))) pa_nil)))))
    (fun S => (ds_ret (de_cb cd_tuple (da_cons (de_lc (di_enum (da_cons (de_var 0) da_nil)) (dg_tup (dgs_cons (dg_name 2) (dgs_cons (dg_name 3) dgs_nil))) dt_yes (de_cb cd_int (da_cons (de_op od_eq (de_var 3) (de_opA oa_ix (de_var 1) (de_var 2))) da_nil)) (by decide)) da_nil)))) h (fun S ds R hs => pl_sum_of ds R hs)
def spec_first_one : List D → (D → Prop) → Prop := fun ds R => ∃ r : List Bool, ds = [rowD r] ∧ true ∈ r ∧ R (.int (lead r : Nat))
theorem len_first_one : ∀ ds R, spec_first_one ds R → ds.length = 1 := by
  rintro ds R ⟨r, rfl, _⟩
  rfl
def m_first_one : DMS :=
  (sRet (dIndex (dVar 0) (dCons (dC (.int 1)) dNil)))
theorem pl_first_one : ∀ ds R, spec_first_one ds R → m_first_one (startE ["row"] ds) (retE R) := by
  rintro ds R ⟨r, rfl, hm, h⟩
  unfold m_first_one
  walk_at "z"
  refine ⟨1, rowI r, rfl, rfl, one_mem hm, ?_⟩
  rw [idx_one]
  exact h
theorem at_first_one (T : Tx K mg) : FnAt P w K mg base "first_one" 1 1 (spD K spec_first_one) := by
  obtain ⟨f, fd, hm, F⟩ := T.f_first_one
  refine fnAt_of hm F rfl (F.binds (ps := ["row"]) fun _ _ _ _ _ _ us hl => match us, hl with | [_], _ => rfl) (fnG_of F sc_first_one (spD_len len_first_one) fun cdv A outer s H vs Q E hr hg h => ?_)
  exact body_of (m := fun _ => m_first_one) ["row"]
    ((pss_one (ps_ret (pe_indexZ (pv 0) (pa_cons pe_int pa_nil)))))
    (fun S => (ds_ret (de_index (de_var 0) (da_cons de_int da_nil)))) h (fun S ds R hs => pl_first_one ds R hs)
def spec_told_rows : List D → (D → Prop) → Prop := fun ds R => ∃ (n : Nat) (B : List (List Bool)), (ds = [.list (rowsD B)] ∨ ds = [.tuple (rowsD B)]) ∧ Len (n + 1) B ∧ n ≤ 1000 ∧ B.length ≤ 1000 ∧ ∀ S, Rref (n + 1) B S → R (.tuple (rowsD S))
theorem len_told_rows : ∀ ds R, spec_told_rows ds R → ds.length = 1 := by
  rintro ds R ⟨n, B, rfl | rfl, _⟩ <;> rfl
def m_told_rows : DMS :=
  (sSeq (sAsg 1 (dLst dNil))
  (sSeq (sFor (dItems (dVar 0)) (dgName 2) (sSeq (sAsg 3 (dSolid (dVar 2)))
  (sSeq (sFor (dItems (dVar 1)) (dgName 4) (sAsg 3 (dSolid (dIf (dTest (dBin (fEq false) (dBin fIx (dVar 3) (dCall spec_first_one (dCons (dVar 4) dNil))) (dC (.int 1)))) (dCall spec_sum_of (dCons (dVar 3) (dCons (dVar 4) dNil))) (dVar 3)))) [4, 3] [])
  (sIf (dTest (dBin (fIn false) (dC (.int 1)) (dVar 3))) (sSeq (sAsg 5 (dCall spec_first_one (dCons (dVar 3) dNil)))
  (sAsg 1 (dBin fAdd (dComp (dItems (dVar 1)) (dgName 4) dYes (dSolid (dIf (dTest (dBin (fEq false) (dBin fIx (dVar 4) (dVar 5)) (dC (.int 1)))) (dCall spec_sum_of (dCons (dVar 4) (dCons (dVar 3) dNil))) (dVar 4))) [4]) (dLst (dCons (dVar 3) dNil))))) sNext))) [2, 3, 4, 3, 5, 1] [2, 3, 4, 5])
  (sRet (dCall fTuple (dCons (dCall (fSorted true) (dCons (dVar 1) dNil)) dNil)))))
theorem sort_rref {n : Nat} {rows B : List (List Bool)} (hL : Len n rows) (hB : B = toldP rows) {R : D → Prop} (h : ∀ S, Rref n rows S → R (.tuple (rowsD S))) : R (.tuple (sortD true (rowsD B))) := by
  obtain ⟨r, sp⟩ := told_red hL
  rw [← hB] at r sp
  obtain ⟨p, asc⟩ := sort_asc r
  rw [sortD_map]
  exact h _ (Rref.of_perm r sp p asc)
theorem pl_told_rows : ∀ ds R, spec_told_rows ds R → m_told_rows (startE ["rows", "found", "row", "here", "one", "place"] ds) (retE R) := by
  rintro ds R ⟨n, B, hds, hL, hn, hB, h⟩
  suffices key : ∀ d0 : D, items d0 = some (rowsD B) → m_told_rows (startE ["rows", "found", "row", "here", "one", "place"] [d0]) (retE R) by
    rcases hds with rfl | rfl
    · exact key _ rfl
    · exact key _ rfl
  intro d0 hi
  unfold m_told_rows
  walk_at "z"
  unfold items at hi
  simp only [hi]
  refine forD_fold rowD stepP (fun T ρ => ρ = [.val d0, .own (.list (rowsD T)), .unk, .unk, .unk, .unk] ∧ Red (n + 1) T) B [] _ ⟨rfl, red_nil⟩ ?_ ?_
  · rintro r hr T ρ Nx Bk ⟨rfl, red⟩ hN
    have lr := hL r hr
    walk_at "z"
    refine forD_fold rowD (fun h b => if gt h (lead b) then xr h b else h) (fun k ρ => ∃ s4, ρ = [.val d0, .val (.list (rowsD T)), .val (rowD r), .own (rowD k), s4, .unk] ∧ k.length = n + 1) T r _ ⟨_, rfl, lr⟩ ?_ ?_
    · rintro b hb k ρ Nx1 Bk1 ⟨s4, rfl, lk⟩ hN1
      have lb := red.len b hb
      walk_at "z"
      refine ⟨b, rfl, red.ne b hb, ?_⟩
      refine fIx_rowD (by rw [lk, ← lb]; exact List.idxOf_lt_length_iff.mpr (red.ne b hb)) (fEq_one ?_)
      walk_at "z"
      cases g : gt k (lead b)
      · walk_at "z"
        refine hN1 _ ⟨.val (rowD b), ?_, ?_⟩
        · walk_at "z"
          simp [g]
        · simp [g, lk]
      · walk_at "z"
        refine ⟨k, b, rfl, by rw [lk, lb], by omega, ?_⟩
        walk_at "z"
        refine hN1 _ ⟨.val (rowD b), ?_, ?_⟩
        · walk_at "z"
          simp [g]
        · simp [g, xr_len (by rw [lk, lb] : k.length = b.length), lk]
    · rintro ρ ⟨s4, rfl, lk⟩
      have ek : List.foldl (fun h b => if gt h (lead b) = true then xr h b else h) r T = red1 T r := rfl
      rw [ek] at lk ⊢
      walk_at "z"
      refine fIn_one ?_
      have red2 := (step_red red lr).1
      cases hc : (red1 T r).contains true
      · walk_at "z"
        refine hN _ ⟨?_, red2⟩
        have e : stepP T r = T := by unfold stepP; rw [hc]; rfl
        rw [e]
        walk_at "z"
      · have hm : true ∈ red1 T r := List.contains_iff_mem.mp hc
        walk_at "z"
        refine ⟨_, rfl, hm, by have := red.count; rw [List.length_map]; omega, ?_⟩
        refine compD_map (fun b => rowD (if gt b (lead (red1 T r)) then xr b (red1 T r) else b)) (fun b hb k k0 hk => ?_) ⟨solids_of fun b _ => solid_rowD _, by have := red.count; rw [List.length_map]; omega, ?_⟩
        · have lb := red.len b hb
          walk_at "z"
          refine fIx_rowD (by rw [lb, ← lk]; exact List.idxOf_lt_length_iff.mpr hm) (fEq_one ?_)
          walk_at "z"
          cases g : gt b (lead (red1 T r))
          · walk_at "z"
            simpa [g] using hk
          · walk_at "z"
            refine ⟨b, _, rfl, by rw [lk, lb], by omega, ?_⟩
            walk_at "z"
            simpa [g] using hk
        · refine hN _ ⟨?_, red2⟩
          have e : stepP T r = T.map (fun b => if gt b (lead (red1 T r)) then xr b (red1 T r) else b) ++ [red1 T r] := by unfold stepP; rw [hc]; rfl
          rw [e]
          walk_at "z"
          simp [List.map_map, Function.comp_def]
  · rintro ρ ⟨rfl, red⟩
    have hT := red.count
    walk_at "z"
    refine ⟨solids_rowsD _, sortOk_rowsD red.len (by omega), by rw [sortD_map]; exact solids_rowsD _, sort_rref hL rfl h⟩
theorem at_told_rows (T : Tx K mg) : FnAt P w K mg base "told_rows" 2 1 (spD K spec_told_rows) := by
  obtain ⟨f, fd, hm, F⟩ := T.f_told_rows
  refine fnAt_of hm F rfl (F.binds (ps := ["rows"]) fun _ _ _ _ _ _ us hl => match us, hl with | [_], _ => rfl) (fnG_of F sc_told_rows (spD_len len_told_rows) fun cdv A outer s H vs Q E hr hg h => ?_)
  exact body_of (m := fun _ => m_told_rows) ["rows", "found", "row", "here", "one", "place"]
    ((pss_cons (ps_set (i := 1) sc_told_rows.nd rfl (by first | exact Or.inl rfl | exact Or.inr rfl) (pe_lst pa_nil))
      (pss_cons (ps_for PassesOwn.never rfl (pi_seq (pv 0)) (pg_name (i := 2) sc_told_rows.nd rfl (by first | exact Or.inl rfl | exact Or.inr rfl)) (pss_cons (ps_set (i := 3) sc_told_rows.nd rfl (by first | exact Or.inl rfl | exact Or.inr rfl) (pv 2))
      (pss_cons (ps_for PassesOwn.never rfl (pi_seq (pv 1)) (pg_name (i := 4) sc_told_rows.nd rfl (by first | exact Or.inl rfl | exact Or.inr rfl)) (pss_one (ps_set (i := 3) sc_told_rows.nd rfl (by first | exact Or.inl rfl | exact Or.inr rfl) (pe_ifExp (pt_cmpR (op_eqZ hr.units) (pe_ix ix_seq (pv 3) (pe_callG (at_first_one T) (hr.mono (by decide)) hg (by rfl) (pa_cons (pv 4) pa_nil)) (fun _ _ => rfl)) pe_int (nomark _)) (pe_callG (at_sum_of T) (hr.mono (by decide)) hg (by rfl) (pa_cons (pv 3) (pa_cons (pv 4) pa_nil))) (pv 3)))))
      (pss_one (ps_if (pt_cmpR (op_inZ hr.units) pe_int (pv 3) (by with_unfolding_all rfl)) (pss_cons (ps_set (i := 5) sc_told_rows.nd rfl (by first | exact Or.inl rfl | exact Or.inr rfl) (pe_callG (at_first_one T) (hr.mono (by decide)) hg (by rfl) (pa_cons (pv 3) pa_nil)))
      (pss_one (ps_set (i := 1) sc_told_rows.nd rfl (by first | exact Or.inl rfl | exact Or.inr rfl) (pe_op op_addZ (pe_lc (own := [("one", 4)]) rfl sc_told_rows.nd (pi_seq (pv 1)) (blkOk_by (N := ["rows", "found", "row", "here", "one", "place"]) (sc := defScope s_told_rows) (by decide +kernel)) (fun _ _ _ _ _ => (pg_name (i := 4) sc_told_rows.nd rfl (by first | exact Or.inl rfl | exact Or.inr rfl))) (fun _ _ _ _ _ => pts_nil) (fun _ _ _ _ _ => (pe_ifExp (pt_cmpR (op_eqZ hr.units) (pe_ix ix_seq (pv 4) (pv 5) (fun _ _ => rfl)) pe_int (nomark _)) (pe_callG (at_sum_of T) (hr.mono (by decide)) hg (by rfl) (pa_cons (pv 4) (pa_cons (pv 3) pa_nil))) (pv 4)))) (pe_lst (pa_cons (pv 3) pa_nil)))))) pss_nil)))))
      (pss_one (ps_ret (pe_callTy call_tupF (by rfl) T.b_tuple (by decide +kernel) (pa_cons (pe_callBK (cr_sortZR hr.units) (by rfl) T.b_sorted (by decide +kernel) (pa_cons (pv 1) pa_nil) (pk_cons pe_bl pk_nil)) pa_nil)))))))
    (fun S => (ds_seq (ds_asg 1 (de_lst da_nil))
      (ds_seq (ds_for (Wg := [2]) (Wb := [3, 4, 3, 5, 1]) (F := [2, 3, 4, 5]) (di_seq (de_var 0)) (dg_name 2) (ds_seq (ds_asg 3 (de_solid (de_var 2)))
      (ds_seq (ds_for (Wg := [4]) (Wb := [3]) (F := []) (di_seq (de_var 1)) (dg_name 4) (ds_asg 3 (de_solid (de_if (dt_val (de_op od_eq (de_opA oa_ix (de_var 3) (de_call (da_cons (de_var 4) da_nil))) de_int)) (de_call (da_cons (de_var 3) (da_cons (de_var 4) da_nil))) (de_var 3)))) (by decide))
      (ds_if (dt_val (de_op od_in de_int (de_var 3))) (ds_seq (ds_asg 5 (de_call (da_cons (de_var 3) da_nil)))
      (ds_asg 1 (de_op od_add (de_lc (di_seq (de_var 1)) (dg_name 4) dt_yes (de_solid (de_if (dt_val (de_op od_eq (de_opA oa_ix (de_var 4) (de_var 5)) de_int)) (de_call (da_cons (de_var 4) (da_cons (de_var 3) da_nil))) (de_var 4))) (by decide)) (de_lst (da_cons (de_var 3) da_nil))))) ds_next))) (by decide))
      (ds_ret (de_cb cd_tuple (da_cons (de_sortR (da_cons (de_var 1) da_nil) (fun _ _ _ h => h)) da_nil)))))) h (fun S ds R hs => pl_told_rows ds R hs)
def spec_marks_at : List D → (D → Prop) → Prop := fun ds R => ∃ (v : List Bool) (P : List Nat), ds = [rowD v, .tuple (P.map natD)] ∧ (∀ p ∈ P, p < v.length) ∧ P.length ≤ 100000 ∧ R (rowD (atP P v))
theorem len_marks_at : ∀ ds R, spec_marks_at ds R → ds.length = 2 := by
  rintro ds R ⟨v, P, rfl, _⟩
  rfl
def m_marks_at : DMS :=
  (sRet (dCall fTuple (dCons (dComp (dItems (dVar 1)) (dgName 2) dYes (dSolid (dBin fIx (dVar 0) (dVar 2))) [2]) dNil)))
theorem pl_marks_at : ∀ ds R, spec_marks_at ds R → m_marks_at (startE ["row", "places", "place"] ds) (retE R) := by
  rintro ds R ⟨v, P, rfl, hP, hl, h⟩
  unfold m_marks_at
  walk_at "y"
  refine ⟨by rw [List.length_map]; omega, compD_map (fun p => .int (bI (gt v p))) (fun p hp k k0 hk => ?_) ?_⟩
  · walk_at "y"
    exact fIx_rowD (hP p hp) ⟨solid_int _, hk⟩
  · rw [atP_data]
    exact ⟨solids_ints _, h⟩
theorem at_marks_at (T : Tx K mg) : FnAt P w K mg base "marks_at" 1 2 (spD K spec_marks_at) := by
  obtain ⟨f, fd, hm, F⟩ := T.f_marks_at
  refine fnAt_of hm F rfl (F.binds (ps := ["row", "places"]) fun _ _ _ _ _ _ us hl => match us, hl with | [_, _], _ => rfl) (fnG_of F sc_marks_at (spD_len len_marks_at) fun cdv A outer s H vs Q E hr hg h => ?_)
  exact body_of (m := fun _ => m_marks_at) ["row", "places", "place"]
    ((pss_one (ps_ret (pe_callTy call_tupF (by rfl) T.b_tuple (by decide +kernel) (pa_cons (pe_lc (own := [("place", 2)]) rfl sc_marks_at.nd (pi_seq (pv 1)) (blkOk_by (N := ["row", "places", "place"]) (sc := defScope s_marks_at) (by decide +kernel)) (fun _ _ _ _ _ => (pg_name (i := 2) sc_marks_at.nd rfl (by first | exact Or.inl rfl | exact Or.inr rfl))) (fun _ _ _ _ _ => pts_nil) (fun _ _ _ _ _ => (pe_ix ix_seq (pv 0) (pv 2) (fun _ _ => rfl)))) pa_nil)))))
    (fun S => (ds_ret (de_cb cd_tuple (da_cons (de_lc (di_seq (de_var 1)) (dg_name 2) dt_yes (de_solid (de_opA oa_ix (de_var 0) (de_var 2))) (by decide)) da_nil)))) h (fun S ds R hs => pl_marks_at ds R hs)
def spec_seen_at : List D → (D → Prop) → Prop := fun ds R => ∃ (n k : Nat) (B : List (List Bool)) (P : List Nat), ds = [.tuple [.int ((n + 1 : Nat) : Int), .tuple (rowsD B)], .tuple (P.map natD)] ∧ Len (n + 1) B ∧ (∀ p ∈ P, p < n + 1) ∧ P.length = k + 1 ∧ k ≤ 900 ∧ B.length ≤ 900 ∧ ∀ Q, Rref P.length (B.map (atP P)) Q → R (.tuple [.int ((P.length : Nat) : Int), .tuple (rowsD Q)])
theorem len_seen_at : ∀ ds R, spec_seen_at ds R → ds.length = 2 := by
  rintro ds R ⟨n, k, B, P, rfl, _⟩
  rfl
def m_seen_at : DMS :=
  (sRet (dTup (dCons (dCall fLen (dCons (dVar 1) dNil)) (dCons (dCall spec_told_rows (dCons (dComp (dItems (dBin fIx (dVar 0) (dC (.int 1)))) (dgName 2) dYes (dCall spec_marks_at (dCons (dVar 2) (dCons (dVar 1) dNil))) [2]) dNil)) dNil))))
theorem pl_seen_at : ∀ ds R, spec_seen_at ds R → m_seen_at (startE ["code", "places", "row"] ds) (retE R) := by
  rintro ds R ⟨n, k, B, P, rfl, hL, hP, hk, hn, hB, h⟩
  unfold m_seen_at
  have lM := (lin_atP (n + 1) P).lens hL
  walk_at "y"
  refine ⟨by rw [List.length_map]; omega, compD_map (fun r => rowD (atP P r)) (fun r hr k k0 hk => ?_) ?_⟩
  · walk_at "y"
    exact ⟨r, P, rfl, fun p hp => by rw [hL r hr]; exact hP p hp, by omega, hk⟩
  · have e : (B.map fun r => rowD (atP P r)) = rowsD (B.map (atP P)) := by simp [List.map_map, Function.comp_def]
    rw [e, List.length_map, hk]
    rw [hk] at lM
    refine ⟨k, B.map (atP P), .inl rfl, lM, by omega, by rw [List.length_map]; omega, fun Q hQ => ?_⟩
    have := h Q (by rw [hk]; exact hQ)
    rw [hk] at this
    walk_at "y"
    exact this
theorem at_seen_at (T : Tx K mg) : FnAt P w K mg base "seen_at" 3 2 (spD K spec_seen_at) := by
  obtain ⟨f, fd, hm, F⟩ := T.f_seen_at
  refine fnAt_of hm F rfl (F.binds (ps := ["code", "places"]) fun _ _ _ _ _ _ us hl => match us, hl with | [_, _], _ => rfl) (fnG_of F sc_seen_at (spD_len len_seen_at) fun cdv A outer s H vs Q E hr hg h => ?_)
  exact body_of (m := fun _ => m_seen_at) ["code", "places", "row"]
    ((pss_one (ps_ret (pe_tupF (pa_cons (pe_callB call_len (by rfl) T.b_len PySem.boot_len (pa_cons (pv 1) pa_nil)) (pa_cons (pe_callG (at_told_rows T) (hr.mono (by decide)) hg (by rfl) (pa_cons (pe_lc (own := [("row", 2)]) rfl sc_seen_at.nd (pi_seq (pe_ix ix_seq (pv 0) pe_int (fun _ _ => rfl))) (blkOk_by (N := ["code", "places", "row"]) (sc := defScope s_seen_at) (by decide +kernel)) (fun _ _ _ _ _ => (pg_name (i := 2) sc_seen_at.nd rfl (by first | exact Or.inl rfl | exact Or.inr rfl))) (fun _ _ _ _ _ => pts_nil) (fun _ _ _ _ _ => (pe_callG (at_marks_at T) (hr.mono (by decide)) hg (by rfl) (pa_cons (pv 2) (pa_cons (pv 1) pa_nil))))) pa_nil)) pa_nil))))))
    (fun S => (ds_ret (de_tup (da_cons (de_cb cd_len (da_cons (de_var 1) da_nil)) (da_cons (de_call (da_cons (de_lc (di_seq (de_opA oa_ix (de_var 0) de_int)) (dg_name 2) dt_yes (de_call (da_cons (de_var 2) (da_cons (de_var 1) da_nil))) (by decide)) da_nil)) da_nil))))) h (fun S ds R hs => pl_seen_at ds R hs)
def spec_rank_at : List D → (D → Prop) → Prop := fun ds R => ∃ (n : Nat) (B : List (List Bool)) (P : List Nat), ds = [.tuple [.int ((n + 1 : Nat) : Int), .tuple (rowsD B)], .tuple (P.map natD)] ∧ Len (n + 1) B ∧ (∀ p ∈ P, p < n + 1) ∧ P.length ≤ 900 ∧ B.length ≤ 900 ∧ ∀ Q, Rref P.length (B.map (atP P)) Q → R (.int ((Q.length : Nat) : Int))
theorem len_rank_at : ∀ ds R, spec_rank_at ds R → ds.length = 2 := by
  rintro ds R ⟨n, B, P, rfl, _⟩
  rfl
def m_rank_at : DMS :=
  (sRet (dIf (dTru (dVar 1)) (dCall fLen (dCons (dBin fIx (dCall spec_seen_at (dCons (dVar 0) (dCons (dVar 1) dNil))) (dC (.int 1))) dNil)) (dC (.int 0))))
theorem pl_rank_at : ∀ ds R, spec_rank_at ds R → m_rank_at (startE ["code", "places"] ds) (retE R) := by
  rintro ds R ⟨n, B, P, rfl, hL, hP, hl, hB, h⟩
  unfold m_rank_at
  walk_at "y"
  obtain ⟨Q, hQ, _⟩ := rref_ex ((lin_atP (n + 1) P).lens hL)
  cases P with
  | nil =>
    have c := hQ.red.count
    have := h Q hQ
    have e : Q.length = 0 := by simpa using c
    rw [e] at this
    exact this
  | cons p P =>
    walk_at "y"
    refine ⟨n, P.length, B, p :: P, rfl, hL, hP, rfl, by simp at hl; omega, hB, fun Q' hQ' => ?_⟩
    walk_at "y"
    rw [List.length_map]
    exact h Q' hQ'
theorem at_rank_at (T : Tx K mg) : FnAt P w K mg base "rank_at" 4 2 (spD K spec_rank_at) := by
  obtain ⟨f, fd, hm, F⟩ := T.f_rank_at
  refine fnAt_of hm F rfl (F.binds (ps := ["code", "places"]) fun _ _ _ _ _ _ us hl => match us, hl with | [_, _], _ => rfl) (fnG_of F sc_rank_at (spD_len len_rank_at) fun cdv A outer s H vs Q E hr hg h => ?_)
  exact body_of (m := fun _ => m_rank_at) ["code", "places"]
    ((pss_one (ps_ret (pe_ifExp (pt_truth (pv 1) (fun _ => rfl)) (pe_callB call_len (by rfl) T.b_len PySem.boot_len (pa_cons (pe_ix ix_seq (pe_callG (at_seen_at T) (hr.mono (by decide)) hg (by rfl) (pa_cons (pv 0) (pa_cons (pv 1) pa_nil))) pe_int (fun _ _ => rfl)) pa_nil)) pe_int))))
    (fun S => (ds_ret (de_if (dt_tru (de_var 1)) (de_cb cd_len (da_cons (de_opA oa_ix (de_call (da_cons (de_var 0) (da_cons (de_var 1) da_nil))) de_int) da_nil)) de_int))) h (fun S ds R hs => pl_rank_at ds R hs)
def spec_others_of : List D → (D → Prop) → Prop := fun ds R => ∃ (n : Nat) (P : List Nat), ds = [.int ((n : Nat) : Int), .tuple (P.map natD)] ∧ n ≤ 10000 ∧ R (.tuple ((outP n P).map natD))
theorem len_others_of : ∀ ds R, spec_others_of ds R → ds.length = 2 := by
  rintro ds R ⟨n, P, rfl, _⟩
  rfl
def m_others_of : DMS :=
  (sRet (dCall fTuple (dCons (dComp (dRng1 (dCons (dVar 0) dNil)) (dgName 2) (dTest (dBin (fIn true) (dVar 2) (dVar 1))) (dSolid (dVar 2)) [2]) dNil)))
theorem pl_others_of : ∀ ds R, spec_others_of ds R → m_others_of (startE ["n", "places", "place"] ds) (retE R) := by
  rintro ds R ⟨n, P, rfl, hn, h⟩
  unfold m_others_of
  walk_at "h"
  rw [Int.toNat_natCast, rangeD_nats]
  refine ⟨⟨by omega, by omega⟩, by rw [List.length_map, List.length_range]; omega, compD_filter natD (fun p => !P.contains p) (fun p hp k k0 h1 h0 => ?_) ?_⟩
  · walk_at "h"
    refine fIn_natsT ?_
    simp only [if_true]
    cases c : !P.contains p
    · exact h0 c
    · exact h1 c
  · exact ⟨solids_nats _, h⟩
theorem at_others_of (T : Tx K mg) : FnAt P w K mg base "others_of" 1 2 (spD K spec_others_of) := by
  obtain ⟨f, fd, hm, F⟩ := T.f_others_of
  refine fnAt_of hm F rfl (F.binds (ps := ["n", "places"]) fun _ _ _ _ _ _ us hl => match us, hl with | [_, _], _ => rfl) (fnG_of F sc_others_of (spD_len len_others_of) fun cdv A outer s H vs Q E hr hg h => ?_)
  exact body_of (m := fun _ => m_others_of) ["n", "places", "place"]
    ((pss_one (ps_ret (pe_callTy call_tupF (by rfl) T.b_tuple (by decide +kernel) (pa_cons (pe_lc (own := [("place", 2)]) rfl sc_others_of.nd (pi_range1 (by rfl) T.b_range (pa_cons (pv 0) pa_nil)) (blkOk_by (N := ["n", "places", "place"]) (sc := defScope s_others_of) (by decide +kernel)) (fun _ _ _ _ _ => (pg_name (i := 2) sc_others_of.nd rfl (by first | exact Or.inl rfl | exact Or.inr rfl))) (fun _ _ _ _ _ => (pts_one (pt_cmpR (op_notInZ hr.units) (pv 2) (pv 1) (by with_unfolding_all rfl)))) (fun _ _ _ _ _ => (pv 2))) pa_nil)))))
    (fun S => (ds_ret (de_cb cd_tuple (da_cons (de_lc (di_rng1 (da_cons (de_var 0) da_nil)) (dg_name 2) (dt_val (de_op od_in (de_var 2) (de_var 1))) (de_solid (de_var 2)) (by decide)) da_nil)))) h (fun S ds R hs => pl_others_of ds R hs)
def spec_width : List D → (D → Prop) → Prop := fun ds R => ∃ (n : Nat) (B : List (List Bool)) (P : List Nat), ds = [.tuple [.int ((n + 1 : Nat) : Int), .tuple (rowsD B)], .tuple (P.map natD)] ∧ Len (n + 1) B ∧ (∀ p ∈ P, p < n + 1) ∧ n ≤ 800 ∧ P.length ≤ 900 ∧ B.length ≤ 900 ∧ R (.int (wdP (n + 1) B P))
theorem len_width : ∀ ds R, spec_width ds R → ds.length = 2 := by
  rintro ds R ⟨n, B, P, rfl, _⟩
  rfl
def m_width : DMS :=
  (sRet (dBin (f2I fun i j => .int (i - j)) (dBin fAdd (dCall spec_rank_at (dCons (dVar 0) (dCons (dVar 1) dNil))) (dCall spec_rank_at (dCons (dVar 0) (dCons (dCall spec_others_of (dCons (dBin fIx (dVar 0) (dC (.int 0))) (dCons (dVar 1) dNil))) dNil)))) (dCall fLen (dCons (dBin fIx (dVar 0) (dC (.int 1))) dNil))))
theorem pl_width : ∀ ds R, spec_width ds R → m_width (startE ["code", "places"] ds) (retE R) := by
  rintro ds R ⟨n, B, P, rfl, hL, hP, hn, hl, hB, h⟩
  unfold m_width
  have ol : (outP (n + 1) P).length ≤ n + 1 := by
    have := List.length_filter_le (fun q => !P.contains q) (List.range (n + 1))
    rw [List.length_range] at this
    exact this
  walk_at "y"
  refine ⟨n, B, P, rfl, hL, hP, hl, hB, fun Q hQ => ?_⟩
  walk_at "y"
  refine ⟨n + 1, P, rfl, by omega, n, B, outP (n + 1) P, rfl, hL, fun p hp => (mem_outP.mp hp).1, by omega, hB, fun Q' hQ' => ?_⟩
  walk_at "y"
  rw [List.length_map, rkP_eq hL hQ, rkP_eq hL hQ']
  exact h
theorem at_width (T : Tx K mg) : FnAt P w K mg base "width" 5 2 (spD K spec_width) := by
  obtain ⟨f, fd, hm, F⟩ := T.f_width
  refine fnAt_of hm F rfl (F.binds (ps := ["code", "places"]) fun _ _ _ _ _ _ us hl => match us, hl with | [_, _], _ => rfl) (fnG_of F sc_width (spD_len len_width) fun cdv A outer s H vs Q E hr hg h => ?_)
  exact body_of (m := fun _ => m_width) ["code", "places"]
    ((pss_one (ps_ret (pe_op op_sub (pe_op op_addZ (pe_callG (at_rank_at T) (hr.mono (by decide)) hg (by rfl) (pa_cons (pv 0) (pa_cons (pv 1) pa_nil))) (pe_callG (at_rank_at T) (hr.mono (by decide)) hg (by rfl) (pa_cons (pv 0) (pa_cons (pe_callG (at_others_of T) (hr.mono (by decide)) hg (by rfl) (pa_cons (pe_ix ix_seq (pv 0) pe_int (fun _ _ => rfl)) (pa_cons (pv 1) pa_nil))) pa_nil)))) (pe_callB call_len (by rfl) T.b_len PySem.boot_len (pa_cons (pe_ix ix_seq (pv 0) pe_int (fun _ _ => rfl)) pa_nil))))))
    (fun S => (ds_ret (de_op od_I0 (de_op od_add (de_call (da_cons (de_var 0) (da_cons (de_var 1) da_nil))) (de_call (da_cons (de_var 0) (da_cons (de_call (da_cons (de_opA oa_ix (de_var 0) de_int) (da_cons (de_var 1) da_nil))) da_nil)))) (de_cb cd_len (da_cons (de_opA oa_ix (de_var 0) de_int) da_nil))))) h (fun S ds R hs => pl_width ds R hs)
def spec_widths : List D → (D → Prop) → Prop := fun ds R => ∃ (n : Nat) (B : List (List Bool)) (o : List Nat), ds = [.tuple [.int ((n + 1 : Nat) : Int), .tuple (rowsD B)], .tuple (o.map natD)] ∧ Len (n + 1) B ∧ Ind (n + 1) B ∧ o.Nodup ∧ (∀ p ∈ o, p < n + 1) ∧ n ≤ 800 ∧ B.length ≤ 900 ∧ R (.tuple ((wds (n + 1) B o).map .int))
theorem len_widths : ∀ ds R, spec_widths ds R → ds.length = 2 := by
  rintro ds R ⟨n, B, o, rfl, _⟩
  rfl
def m_widths : DMS :=
  (sRet (dCall fTuple (dCons (dComp (dRng1 (dCons (dBin fAdd (dBin fIx (dVar 0) (dC (.int 0))) (dC (.int 1))) dNil)) (dgName 2) dYes (dCall spec_width (dCons (dVar 0) (dCons (dCall fTuple (dCons (dCall (fSorted false) (dCons (dSlice (dVar 1) dNo (dPart (dVar 2))) dNil)) dNil)) dNil))) [2]) dNil)))
theorem pl_widths : ∀ ds R, spec_widths ds R → m_widths (startE ["code", "order", "i"] ds) (retE R) := by
  rintro ds R ⟨n, B, o, rfl, hL, iB, nd, ho, hn, hB, h⟩
  unfold m_widths
  walk_at "y"
  have e0 : (((n + 1 : Nat) : Int) + 1).toNat = n + 1 + 1 := by omega
  rw [e0, rangeD_nats]
  have ol := pigeon (n + 1) o nd ho
  refine ⟨⟨by omega, by omega⟩, by rw [List.length_map, List.length_range]; omega, compD_map (fun i => .int (wdP (n + 1) B (o.take i))) (fun i hi k k0 hk => ?_) ⟨solids_of fun p _ => solid_int _, ?_⟩⟩
  · have tn : (o.take i).Nodup := List.Nodup.sublist (List.take_sublist _ _) nd
    have tp : ∀ p ∈ o.take i, p < n + 1 := fun p hp => ho p (List.mem_of_mem_take hp)
    have pa : ∀ p ∈ ascP (n + 1) (o.take i), p < n + 1 := fun p hp => tp p ((mem_ascP tp).mp hp)
    have tl : (o.take i).length ≤ o.length := (List.take_sublist _ _).length_le
    walk_at "y"
    rw [cutL_take, ← List.map_take]
    refine ⟨solids_nats _, solids_nats _, sortOk_nats (by rw [List.length_take]; omega), ?_⟩
    rw [sort_ascP tn tp]
    refine ⟨solids_nats _, ?_⟩
    refine ⟨n, B, ascP (n + 1) (o.take i), rfl, hL, pa, hn, by have := ascP_len (n + 1) (o.take i); omega, hB, ?_⟩
    rw [wd_same hL iB (P := ascP (n + 1) (o.take i)) (Q := o.take i) fun p => mem_ascP tp]
    exact hk
  · have e : ((List.range (n + 1 + 1)).map fun i => (.int (wdP (n + 1) B (o.take i)) : D)) = (wds (n + 1) B o).map .int := by
      unfold wds
      rw [List.map_map]
      rfl
    rw [e]
    exact h
theorem at_widths (T : Tx K mg) : FnAt P w K mg base "widths" 6 2 (spD K spec_widths) := by
  obtain ⟨f, fd, hm, F⟩ := T.f_widths
  refine fnAt_of hm F rfl (F.binds (ps := ["code", "order"]) fun _ _ _ _ _ _ us hl => match us, hl with | [_, _], _ => rfl) (fnG_of F sc_widths (spD_len len_widths) fun cdv A outer s H vs Q E hr hg h => ?_)
  exact body_of (m := fun _ => m_widths) ["code", "order", "i"]
    ((pss_one (ps_ret (pe_callTy call_tupF (by rfl) T.b_tuple (by decide +kernel) (pa_cons (pe_lc (own := [("i", 2)]) rfl sc_widths.nd (pi_range1 (by rfl) T.b_range (pa_cons (pe_op op_addZ (pe_ix ix_seq (pv 0) pe_int (fun _ _ => rfl)) pe_int) pa_nil)) (blkOk_by (N := ["code", "order", "i"]) (sc := defScope s_widths) (by decide +kernel)) (fun _ _ _ _ _ => (pg_name (i := 2) sc_widths.nd rfl (by first | exact Or.inl rfl | exact Or.inr rfl))) (fun _ _ _ _ _ => pts_nil) (fun _ _ _ _ _ => (pe_callG (at_width T) (hr.mono (by decide)) hg (by rfl) (pa_cons (pv 0) (pa_cons (pe_callTy call_tupF (by rfl) T.b_tuple (by decide +kernel) (pa_cons (pe_callB (cr_sortZ hr.units) (by rfl) T.b_sorted (by decide +kernel) (pa_cons (pe_slice sl_cut (pv 1) po_none (po_some (pv 2))) pa_nil)) pa_nil)) pa_nil))))) pa_nil)))))
    (fun S => (ds_ret (de_cb cd_tuple (da_cons (de_lc (di_rng1 (da_cons (de_op od_add (de_opA oa_ix (de_var 0) de_int) de_int) da_nil)) (dg_name 2) dt_yes (de_call (da_cons (de_var 0) (da_cons (de_cb cd_tuple (da_cons (de_cb cd_sorted (da_cons (de_slice (de_var 1) do_no (do_part (de_var 2))) da_nil)) da_nil)) da_nil))) (by decide)) da_nil)))) h (fun S ds R hs => pl_widths ds R hs)
def spec_widest : List D → (D → Prop) → Prop := fun ds R => ∃ (n : Nat) (B : List (List Bool)) (o : List Nat), ds = [.tuple [.int ((n + 1 : Nat) : Int), .tuple (rowsD B)], .tuple (o.map natD)] ∧ Len (n + 1) B ∧ Ind (n + 1) B ∧ o.Nodup ∧ (∀ p ∈ o, p < n + 1) ∧ n ≤ 800 ∧ B.length ≤ 900 ∧ fMaxA [.tuple ((wds (n + 1) B o).map .int)] R
theorem len_widest : ∀ ds R, spec_widest ds R → ds.length = 2 := by
  rintro ds R ⟨n, B, o, rfl, _⟩
  rfl
def m_widest : DMS :=
  (sRet (dCall fMaxA (dCons (dCall spec_widths (dCons (dVar 0) (dCons (dVar 1) dNil))) dNil)))
theorem pl_widest : ∀ ds R, spec_widest ds R → m_widest (startE ["code", "order"] ds) (retE R) := by
  rintro ds R ⟨n, B, o, rfl, hL, iB, nd, ho, hn, hB, h⟩
  unfold m_widest
  walk_at "y"
  refine ⟨n, B, o, rfl, hL, iB, nd, ho, hn, hB, ?_⟩
  exact h
theorem at_widest (T : Tx K mg) : FnAt P w K mg base "widest" 7 2 (spD K spec_widest) := by
  obtain ⟨f, fd, hm, F⟩ := T.f_widest
  refine fnAt_of hm F rfl (F.binds (ps := ["code", "order"]) fun _ _ _ _ _ _ us hl => match us, hl with | [_, _], _ => rfl) (fnG_of F sc_widest (spD_len len_widest) fun cdv A outer s H vs Q E hr hg h => ?_)
  exact body_of (m := fun _ => m_widest) ["code", "order"]
    ((pss_one (ps_ret (pe_callB (cr_maxA rfl hr.units) (by rfl) T.b_max (by decide +kernel) (pa_cons (pe_callG (at_widths T) (hr.mono (by decide)) hg (by rfl) (pa_cons (pv 0) (pa_cons (pv 1) pa_nil))) pa_nil)))))
    (fun S => (ds_ret (de_cb cd_maxA (da_cons (de_call (da_cons (de_var 0) (da_cons (de_var 1) da_nil))) da_nil)))) h (fun S ds R hs => pl_widest ds R hs)
def spec_total_width : List D → (D → Prop) → Prop := fun ds R => ∃ (n : Nat) (B : List (List Bool)) (o : List Nat), ds = [.tuple [.int ((n + 1 : Nat) : Int), .tuple (rowsD B)], .tuple (o.map natD)] ∧ Len (n + 1) B ∧ Ind (n + 1) B ∧ o.Nodup ∧ (∀ p ∈ o, p < n + 1) ∧ n ≤ 800 ∧ B.length ≤ 900 ∧ R (.int (wds (n + 1) B o).sum)
theorem len_total_width : ∀ ds R, spec_total_width ds R → ds.length = 2 := by
  rintro ds R ⟨n, B, o, rfl, _⟩
  rfl
def m_total_width : DMS :=
  (sRet (dCall fSumA (dCons (dCall spec_widths (dCons (dVar 0) (dCons (dVar 1) dNil))) dNil)))
theorem pl_total_width : ∀ ds R, spec_total_width ds R → m_total_width (startE ["code", "order"] ds) (retE R) := by
  rintro ds R ⟨n, B, o, rfl, hL, iB, nd, ho, hn, hB, h⟩
  unfold m_total_width
  walk_at "y"
  refine ⟨n, B, o, rfl, hL, iB, nd, ho, hn, hB, ?_⟩
  walk_at "y"
  exact ⟨_, rfl, h⟩
theorem at_total_width (T : Tx K mg) : FnAt P w K mg base "total_width" 7 2 (spD K spec_total_width) := by
  obtain ⟨f, fd, hm, F⟩ := T.f_total_width
  refine fnAt_of hm F rfl (F.binds (ps := ["code", "order"]) fun _ _ _ _ _ _ us hl => match us, hl with | [_, _], _ => rfl) (fnG_of F sc_total_width (spD_len len_total_width) fun cdv A outer s H vs Q E hr hg h => ?_)
  exact body_of (m := fun _ => m_total_width) ["code", "order"]
    ((pss_one (ps_ret (pe_callB (cr_sumA rfl) (by rfl) T.b_sum (by decide +kernel) (pa_cons (pe_callG (at_widths T) (hr.mono (by decide)) hg (by rfl) (pa_cons (pv 0) (pa_cons (pv 1) pa_nil))) pa_nil)))))
    (fun S => (ds_ret (de_cb cd_sumA (da_cons (de_call (da_cons (de_var 0) (da_cons (de_var 1) da_nil))) da_nil)))) h (fun S ds R hs => pl_total_width ds R hs)
theorem at__law_source (T : Tx K mg) : FnAt P w K mg base "_law_source" 1 1 (spSource K) := by
  obtain ⟨f, fd, hm, F⟩ := T.f__law_source
  refine fnAt_of hm F rfl (F.binds (ps := ["script"]) fun _ _ _ _ _ _ us hl => match us, hl with | [_], _ => rfl) (fnG_of F sc__law_source (fun vs H Q E h => by obtain ⟨a, ns, rfl, _⟩ := h; rfl) fun cdv A outer s H vs Q E hr hg h => ⟨tSource K, ?_, source_reading h⟩)
  exact (pss_cons (ps_set (i := 1) sc__law_source.nd rfl (.inl rfl) pe_int) (pss_cons (ps_for PassesOwn.never rfl (pi_list (pv 0)) (pg_name (i := 2) sc__law_source.nd rfl (.inl rfl))
    (pss_one (ps_set (i := 1) sc__law_source.nd rfl (.inl rfl) (pe_op op_mod (pe_callTy call_int1 (by rfl) T.b_int (by decide +kernel) (pa_cons (pe_op op_add (pe_op op_add (pe_op op_mul (pv 1) pe_int) (pe_op op_mul (pv 2) pe_int)) pe_int) pa_nil)) pe_int))))
    (pss_one (ps_ret (pe_disp (pps_cons pe_str (pe_revL (pe_lc (own := [("cell", 2)]) rfl sc__law_source.nd (pi_list (pv 0)) (blkOk_by (N := ["script", "mixed", "cell"]) (sc := defScope s__law_source) (by decide +kernel)) (fun _ _ _ _ _ => pg_name (i := 2) sc__law_source.nd rfl (.inl rfl)) (fun _ _ _ _ _ => pts_nil)
      (fun _ _ _ _ _ => pe_callB call_abs (by rfl) T.b_abs (by decide +kernel) (pa_cons (pv 2) pa_nil))))
      (pps_cons pe_str pe_int (pps_cons pe_str (pv 1) (pps_cons pe_str pe_int pps_nil)))) (by rfl) (by rfl) (fun z => by cases z) (by decide))))))
theorem at__law_pick (T : Tx K mg) : FnAt P w K mg base "_law_pick" 1 2 (spD K specPick) := by
  obtain ⟨f, fd, hm, F⟩ := T.f__law_pick
  refine fnAt_of hm F rfl (F.binds (ps := ["source", "many"]) fun _ _ _ _ _ _ us hl => match us, hl with | [_, _], _ => rfl) (fnG_of F sc__law_pick (spD_len fun ds R h => by obtain ⟨n, rfl, _⟩ := h; rfl) fun cdv A outer s H vs Q E hr hg h => ⟨tPick K, ?_, pick_reading h⟩)
  have hu := hu_of hr
  exact (pss_cons (ps_while PassesOwn.never (PW.pt (pw_and (pt_cmpR op_gt (pv 1) pe_int (nomark _)) (pw_and (pt_cmpR op_lt (pe_dget hu (pv 0) pe_str (fun _ _ => rfl)) pe_int (nomark _))
      (pw_and1 (pt_cmpR op_gt (pe_callB call_len (by rfl) T.b_len PySem.boot_len (pa_cons (pe_dget hu (pv 0) pe_str (fun _ _ => rfl)) pa_nil)) pe_int (nomark _))))))
      (pss_one (ps_dput hu (pv 0) pe_str (pe_bm0 PySem.F.plainAttrs_list PySem.F.slot_list_pop PySem.F.type_list_pop mt_pop (pe_dget hu (pv 0) pe_str (fun _ _ => rfl))) rfl)))
    (pss_cons (ps_set (i := 2) sc__law_pick.nd rfl (.inl rfl) (pe_dget hu (pv 0) pe_str (fun _ _ => rfl)))
    (pss_cons (ps_if (PW.pt (pw_or (pt_cmpR op_lt (pv 1) pe_int (nomark _)) (pw_or1 (pt_cmpR op_gt (pv 2) pe_int (nomark _)))))
      (pss_cons (ps_dput hu (pv 0) pe_str (pe_op op_fdiv (pv 2) (pe_callB (call_max2 rfl) (by rfl) T.b_max (by decide +kernel) (pa_cons pe_int (pa_cons (pv 1) pa_nil)))) rfl)
        (pss_one (ps_ret (pe_op op_mod (pe_callTy call_int1 (by rfl) T.b_int (by decide +kernel) (pa_cons (pv 2) pa_nil)) (pe_callB (call_max2 rfl) (by rfl) T.b_max (by decide +kernel) (pa_cons pe_int (pa_cons (pv 1) pa_nil)))))))
      pss_nil)
    (pss_cons (ps_dput hu (pv 0) pe_str (pe_op op_add (pe_dget hu (pv 0) pe_str (fun _ _ => rfl)) pe_int) rfl)
    (pss_cons (ps_set (i := 3) sc__law_pick.nd rfl (.inl rfl) (pe_op op_mod (pe_callTy call_int1 (by rfl) T.b_int (by decide +kernel) (pa_cons (pe_op op_add (pe_dget hu (pv 0) pe_str (fun _ _ => rfl)) (pe_op op_mul (pe_dget hu (pv 0) pe_str (fun _ _ => rfl)) pe_int)) pa_nil)) pe_int))
    (pss_cons (ps_set (i := 3) sc__law_pick.nd rfl (.inl rfl) (pe_op op_mod (pe_callTy call_int1 (by rfl) T.b_int (by decide +kernel) (pa_cons (pe_op op_add (pe_op op_mul (pv 3) (pv 3)) (pe_op op_mul (pe_dget hu (pv 0) pe_str (fun _ _ => rfl)) pe_int)) pa_nil)) pe_int))
    (pss_cons (ps_dput hu (pv 0) pe_str (pv 3) rfl)
    (pss_one (ps_ret (pe_op op_mod (pe_callTy call_int1 (by rfl) T.b_int (by decide +kernel) (pa_cons (pe_op op_fdiv (pv 3) pe_int) pa_nil)) (pv 1)))))))))))
abbrev spec__law_pick := specPick
def spec__law_of : List D → (D → Prop) → Prop := fun ds R => ∃ xs : List D, (ds = [srcD, .list xs] ∨ ds = [srcD, .tuple xs]) ∧ solids xs = true ∧ xs ≠ [] ∧ xs.length ≤ 1000000 ∧ ∀ x ∈ xs, R x
theorem len__law_of : ∀ ds R, spec__law_of ds R → ds.length = 2 := by
  rintro ds R ⟨xs, rfl | rfl, _⟩ <;> rfl
def m__law_of : DMS :=
  (sRet (dSolid (dBin fIx (dVar 1) (dCall spec__law_pick (dCons (dVar 0) (dCons (dCall fLen (dCons (dVar 1) dNil)) dNil))))))
theorem pl__law_of : ∀ ds R, spec__law_of ds R → m__law_of (startE ["source", "some"] ds) (retE R) := by
  rintro ds R ⟨xs, hds, hs, hne, hl, h⟩
  have pos : 0 < xs.length := List.length_pos_iff.mpr hne
  unfold m__law_of
  rcases hds with rfl | rfl <;> walk_at "z" <;> refine ⟨xs.length, rfl, by omega, fun k k0 k1 => ?_⟩
  all_goals
    walk_at "z"
    obtain ⟨x, hx, e⟩ := at_mem (xs := xs) k0 (by omega)
    exact ⟨x, e, solid_mem hs x hx, h x hx⟩
theorem at__law_of (T : Tx K mg) : FnAt P w K mg base "_law_of" 2 2 (spD K spec__law_of) := by
  obtain ⟨f, fd, hm, F⟩ := T.f__law_of
  refine fnAt_of hm F rfl (F.binds (ps := ["source", "some"]) fun _ _ _ _ _ _ us hl => match us, hl with | [_, _], _ => rfl) (fnG_of F sc__law_of (spD_len len__law_of) fun cdv A outer s H vs Q E hr hg h => ?_)
  exact body_of (m := fun _ => m__law_of) ["source", "some"]
    ((pss_one (ps_ret (pe_ix ix_seq (pv 1) (pe_callG (at__law_pick T) (hr.mono (by decide)) hg (by rfl) (pa_cons (pv 0) (pa_cons (pe_callB call_len (by rfl) T.b_len PySem.boot_len (pa_cons (pv 1) pa_nil)) pa_nil))) (fun _ _ => rfl)))))
    (fun S => (ds_ret (de_solid (de_opA oa_ix (de_var 1) (de_call (da_cons (de_var 0) (da_cons (de_cb cd_len (da_cons (de_var 1) da_nil)) da_nil))))))) h (fun S ds R hs => pl__law_of ds R hs)
theorem at__law_mixed (T : Tx K mg) : FnAt P w K mg base "_law_mixed" 2 2 (spD K specMixed) := by
  obtain ⟨f, fd, hm, F⟩ := T.f__law_mixed
  refine fnAt_of hm F rfl (F.binds (ps := ["source", "things"]) fun _ _ _ _ _ _ us hl => match us, hl with | [_, _], _ => rfl) (fnG_of F sc__law_mixed (spD_len fun ds R h => by obtain ⟨xs, rfl | rfl, _⟩ := h <;> rfl) fun cdv A outer s H vs Q E hr hg h => ⟨tMixed K E0, ?_, mixed_reading h⟩)
  exact (pss_cons (ps_set (i := 2) sc__law_mixed.nd rfl (by first | exact Or.inl rfl | exact Or.inr rfl) (pe_callTy call_list_of (by rfl) T.b_list (by decide +kernel) (pa_cons (pv 1) pa_nil)))
    (pss_one (ps_ret (pe_lc (own := [("lap", 3)]) rfl sc__law_mixed.nd (pi_range1 (by rfl) T.b_range (pa_cons (pe_callB call_len (by rfl) T.b_len PySem.boot_len (pa_cons (pv 2) pa_nil)) pa_nil))
      (blkOk_by (N := ["source", "things", "rest", "lap"]) (sc := defScope s__law_mixed) (by decide +kernel)) (fun _ _ _ _ _ => (pg_name (i := 3) sc__law_mixed.nd rfl (by first | exact Or.inl rfl | exact Or.inr rfl))) (fun _ _ _ _ _ => pts_nil)
      (fun _ _ _ _ _ => pe_bm PySem.F.plainAttrs_list PySem.F.slot_list_pop PySem.F.type_list_pop mt_popAt (pv 2) (pa_cons (pe_callG (at__law_pick T) (hr.mono (by decide)) hg (by rfl) (pa_cons (pv 0) (pa_cons (pe_callB call_len (by rfl) T.b_len PySem.boot_len (pa_cons (pv 2) pa_nil)) pa_nil))) pa_nil))))))
abbrev spec__law_mixed := specMixed
def spec__law_number : List D → (D → Prop) → Prop := fun ds R => ∃ v : List Bool, ds = [rowD v] ∧ v.length ≤ 10000 ∧ R (nbD v)
theorem len__law_number : ∀ ds R, spec__law_number ds R → ds.length = 1 := by
  rintro ds R ⟨v, rfl, _⟩
  rfl
def m__law_number : DMS :=
  (sRet (dCall fSumA (dCons (dComp (dEnum (dCons (dVar 0) dNil)) (dgTup 2 (dgCons (dgName 1) (dgCons (dgName 2) dgNil))) dYes (dBin (f2IC CPow fun i j => .int (i * 2 ^ j.toNat)) (dVar 2) (dVar 1)) [1, 2]) dNil)))
theorem pl__law_number : ∀ ds R, spec__law_number ds R → m__law_number (startE ["row", "place", "mark"] ds) (retE R) := by
  rintro ds R ⟨v, rfl, hv, h⟩
  unfold m__law_number
  walk_at "y"
  rw [row_ints, enumD_map]
  refine ⟨by simpa using Nat.le_trans hv (by decide), compD_map (fun p => .int (bI p.1 * 2 ^ p.2)) (fun p hp k k0 hk => ?_) ⟨v.zipIdx.map fun p => bI p.1 * 2 ^ p.2, by rw [List.map_map]; rfl, ?_⟩⟩
  · obtain ⟨x, i⟩ := p
    have hi := List.mem_zipIdx_iff_getElem?.mp hp
    have hb : i < v.length := (List.getElem?_eq_some_iff.mp hi).1
    walk_at "z"
    refine ⟨⟨by omega, by omega, by cases x <;> decide⟩, ?_⟩
    rw [Int.toNat_natCast]
    exact hk
  · have e := num_sum v 0
    rw [e]
    have e2 : ((numB v : Nat) : Int) * 2 ^ 0 = (numB v : Int) := by simp
    rw [e2]
    exact h
theorem at__law_number (T : Tx K mg) : FnAt P w K mg base "_law_number" 1 1 (spD K spec__law_number) := by
  obtain ⟨f, fd, hm, F⟩ := T.f__law_number
  refine fnAt_of hm F rfl (F.binds (ps := ["row"]) fun _ _ _ _ _ _ us hl => match us, hl with | [_], _ => rfl) (fnG_of F sc__law_number (spD_len len__law_number) fun cdv A outer s H vs Q E hr hg h => ?_)
  exact body_of (m := fun _ => m__law_number) ["row", "place", "mark"]
    ((pss_one (ps_ret (pe_callB (cr_sumA rfl) (by rfl) T.b_sum (by decide +kernel) (pa_cons (pe_lc (own := [("place", 1), ("mark", 2)]) rfl sc__law_number.nd (pi_enumS (by rfl) T.b_enumerate (pa_cons (pv 0) pa_nil)) (blkOk_by (N := ["row", "place", "mark"]) (sc := defScope s__law_number) (by decide +kernel)) (fun _ _ _ _ _ => (pg_tup rfl (pgs_cons (pg_name (i := 1) sc__law_number.nd rfl (by first | exact Or.inl rfl | exact Or.inr rfl)) (pgs_cons (pg_name (i := 2) sc__law_number.nd rfl (by first | exact Or.inl rfl | exact Or.inr rfl)) pgs_nil)))) (fun _ _ _ _ _ => pts_nil) (fun _ _ _ _ _ => (pe_op op_shl (pv 2) (pv 1)))) pa_nil)))))
    (fun S => (ds_ret (de_cb cd_sumA (da_cons (de_lc (di_enum (da_cons (de_var 0) da_nil)) (dg_tup (dgs_cons (dg_name 1) (dgs_cons (dg_name 2) dgs_nil))) dt_yes (de_op od_IC (de_var 2) (de_var 1)) (by decide)) da_nil)))) h (fun S ds R hs => pl__law_number ds R hs)
def spec__law_solved : List D → (D → Prop) → Prop := fun ds R => ∃ (n : Nat) (L : List (List Bool)), ds = [.list (L.map nbD)] ∧ Len n L ∧ n ≤ 10000 ∧ R (.list ((solve L).map nbD))
theorem len__law_solved : ∀ ds R, spec__law_solved ds R → ds.length = 1 := by
  rintro ds R ⟨n, L, rfl, _⟩
  rfl
def m__law_solved : DMS :=
  (sSeq (sAsg 1 (dLst dNil))
  (sSeq (sFor (dItems (dVar 0)) (dgName 2) (sSeq (sFor (dItems (dVar 1)) (dgName 3) (sAsg 2 (dCall (f2L fun i j => if j < i then j else i) (dCons (dVar 2) (dCons (dBin (f2I fun i j => .int (Builtin.bitXor i j)) (dVar 2) (dVar 3)) dNil)))) [3, 2] [3])
  (sIf (dTest (dBin (fEq true) (dVar 2) (dC (.int 0)))) (sAppend 1 (dSolid (dVar 2))) sNext)) [2, 3, 2, 1] [2, 3])
  (sRetV 1)))
theorem pl__law_solved : ∀ ds R, spec__law_solved ds R → m__law_solved (startE ["numbers", "heads", "here", "head"] ds) (retE R) := by
  rintro ds R ⟨n, L, rfl, hL, hl, h⟩
  unfold m__law_solved
  walk_at "h"
  walk_at "s"
  refine forD_fold nbD stepS (fun acc ρ => Heads n acc ∧ Ind n acc ∧ ρ = [Sl.val (.list (L.map nbD)), Sl.own (.list (acc.map nbD)), Sl.unk, Sl.unk]) L [] _ ⟨heads_nil, ind_nil, rfl⟩ ?_ ?_
  · rintro v hv acc ρ Nx Bk ⟨hH, hI, rfl⟩ nx
    obtain ⟨nH, nI⟩ := stepS_ok hH hI (hL v hv)
    have lv := hL v hv
    walk_at "h"
    refine forD_fold nbD stepM (fun x ρ => x.length = n ∧ (ρ = [Sl.val (.list (L.map nbD)), Sl.val (.list (acc.map nbD)), Sl.val (nbD x), Sl.unk] ∨ ρ = [Sl.val (.list (L.map nbD)), Sl.val (.list (acc.map nbD)), Sl.own (nbD x), Sl.unk])) acc v _ ⟨lv, .inl rfl⟩ ?_ ?_
    · rintro g hg x ρ Nx2 Bk2 ⟨lx, hρ⟩ nx2
      have e : stepM x g = if numB (xr x g) < numB x then xr x g else x := rfl
      have l1 : (stepM x g).length = n := by
        rw [e]
        split
        · rw [xr_len (by rw [lx, hH.len g hg]), lx]
        · exact lx
      have key : (if ((numB (xr x g) : Nat) : Int) < ((numB x : Nat) : Int) then ((numB (xr x g) : Nat) : Int) else ((numB x : Nat) : Int)) = ((numB (stepM x g) : Nat) : Int) := by
        rw [e]
        by_cases c : numB (xr x g) < numB x
        · rw [if_pos c, if_pos (by omega)]
        · rw [if_neg c, if_neg (by omega)]
      rcases hρ with rfl | rfl
      · walk_at "h"
        rw [xor_numB (by rw [lx, hH.len g hg]), key]
        exact nx2 _ ⟨l1, .inr rfl⟩
      · walk_at "h"
        rw [xor_numB (by rw [lx, hH.len g hg]), key]
        exact nx2 _ ⟨l1, .inr rfl⟩
    · have al := ind_count hH.len hI
      have es : stepS acc v = if numB (acc.foldl stepM v) ≠ 0 then acc ++ [acc.foldl stepM v] else acc := rfl
      rintro ρ ⟨lx, hρ⟩
      have app : (acc ++ [acc.foldl stepM v]).map nbD = acc.map nbD ++ [nbD (acc.foldl stepM v)] := by rw [List.map_append]; rfl
      rcases hρ with rfl | rfl
      all_goals
        walk_at "h"
        walk_at "s"
        refine fEq_int ?_
        simp only [if_true]
        by_cases c : numB (acc.foldl stepM v) = 0
        · have c2 : (!(((numB (acc.foldl stepM v) : Nat) : Int) == 0)) = false := by rw [c]; rfl
          rw [c2]
          walk_at "h"
          refine nx _ ⟨nH, nI, ?_⟩
          rw [es, if_neg (by omega)]
          rfl
        · have c2 : (!(((numB (acc.foldl stepM v) : Nat) : Int) == 0)) = true := by
            have : (((numB (acc.foldl stepM v) : Nat) : Int) == 0) = false := by simpa using c
            rw [this]; rfl
          rw [c2]
          walk_at "h"
          refine ⟨by rw [List.length_map]; omega, nx _ ⟨nH, nI, ?_⟩⟩
          rw [es, if_pos c, app]
          rfl
  · rintro ρ ⟨hH, hI, rfl⟩
    walk_at "h"
    exact h
theorem at__law_solved (T : Tx K mg) : FnAt P w K mg base "_law_solved" 1 1 (spD K spec__law_solved) := by
  obtain ⟨f, fd, hm, F⟩ := T.f__law_solved
  refine fnAt_of hm F rfl (F.binds (ps := ["numbers"]) fun _ _ _ _ _ _ us hl => match us, hl with | [_], _ => rfl) (fnG_of F sc__law_solved (spD_len len__law_solved) fun cdv A outer s H vs Q E hr hg h => ?_)
  exact body_of (m := fun _ => m__law_solved) ["numbers", "heads", "here", "head"]
    ((pss_cons (ps_set (i := 1) sc__law_solved.nd rfl (by first | exact Or.inl rfl | exact Or.inr rfl) (pe_lst pa_nil))
      (pss_cons (ps_for PassesOwn.never rfl (pi_seq (pv 0)) (pg_name (i := 2) sc__law_solved.nd rfl (by first | exact Or.inl rfl | exact Or.inr rfl)) (pss_cons (ps_for PassesOwn.never rfl (pi_seq (pv 1)) (pg_name (i := 3) sc__law_solved.nd rfl (by first | exact Or.inl rfl | exact Or.inr rfl)) (pss_one (ps_set (i := 2) sc__law_solved.nd rfl (by first | exact Or.inl rfl | exact Or.inr rfl) (pe_callB (call_min2 rfl) (by rfl) T.b_min (by decide +kernel) (pa_cons (pv 2) (pa_cons (pe_op op_xor (pv 2) (pv 3)) pa_nil))))))
      (pss_one (ps_if (pt_cmpR (op_neZ hr.units) (pv 2) pe_int (nomark _)) (pss_one (ps_expr (pe_bm PySem.F.plainAttrs_list PySem.F.slot_list_append PySem.F.type_list_append mt_append (pv 1) (pa_cons (pv 2) pa_nil)))) pss_nil))))
      (pss_one (ps_ret (pv 1))))))
    (fun S => (ds_seq (ds_asg 1 (de_lst da_nil))
      (ds_seq (ds_for (Wg := [2]) (Wb := [3, 2, 1]) (F := [2, 3]) (di_seq (de_var 0)) (dg_name 2) (ds_seq (ds_for (Wg := [3]) (Wb := [2]) (F := [3]) (di_seq (de_var 1)) (dg_name 3) (ds_asg 2 (de_cb cd_min2 (da_cons (de_var 2) (da_cons (de_op od_I0 (de_var 2) (de_var 3)) da_nil)))) (by decide))
      (ds_if (dt_val (de_op od_eq (de_var 2) de_int)) (ds_append 1 (de_solid (de_var 2))) ds_next)) (by decide))
      (ds_retV 1)))) h (fun S ds R hs => pl__law_solved ds R hs)
def spec__law_code : List D → (D → Prop) → Prop := fun ds R => ∃ n most : Nat, ds = [srcD, .int ((n + 1 : Nat) : Int), .int ((most : Nat) : Int)] ∧ n ≤ 800 ∧ most ≤ 800 ∧ ∀ B, Len (n + 1) B → Ind (n + 1) B → B.length ≤ most → R (.tuple [.int ((n + 1 : Nat) : Int), .tuple (rowsD B)])
theorem len__law_code : ∀ ds R, spec__law_code ds R → ds.length = 3 := by
  rintro ds R ⟨n, most, rfl, _⟩
  rfl
def m__law_code : DMS :=
  (sSeq (sPar 3 4 (dCons (dCall spec__law_pick (dCons (dVar 0) (dCons (dC (.int 4)) dNil))) (dCons (dLst dNil) dNil)))
  (sSeq (sAsg 5 (dBin fAdd (dC (.int 2)) (dCall spec__law_pick (dCons (dVar 0) (dCons (dC (.int 3)) dNil)))))
  (sSeq (sFor (dRng1 (dCons (dCall spec__law_pick (dCons (dVar 0) (dCons (dBin fAdd (dVar 2) (dC (.int 1))) dNil))) dNil)) (dgName 6) (sSeq (sAsg 7 (dCall fTuple (dCons (dComp (dRng1 (dCons (dVar 1) dNil)) (dgName 8) dYes (dCall fInt (dCons (dBin (fEq false) (dCall spec__law_pick (dCons (dVar 0) (dCons (dVar 5) dNil))) (dC (.int 0))) dNil)) [8]) dNil)))
  (sSeq (sIf (dTest (dBin (fEq false) (dVar 3) (dC (.int 1)))) (sSeq (sAsg 9 (dCall spec__law_pick (dCons (dVar 0) (dCons (dVar 1) dNil))))
  (sSeq (sAsg 10 (dBin fAdd (dVar 9) (dCall spec__law_pick (dCons (dVar 0) (dCons (dBin (f2I fun i j => .int (i - j)) (dVar 1) (dVar 9)) dNil)))))
  (sAsg 7 (dCall fTuple (dCons (dComp (dRng1 (dCons (dVar 1) dNil)) (dgName 8) dYes (dCall fInt (dCons (dAndV (dChain (f2I fun i j => .bool (decide (i ≤ j))) (f2I fun i j => .bool (decide (i ≤ j))) (dVar 9) (dVar 8) (dVar 10)) (dBin (f2I fun i j => .bool (decide (j < i))) (dCall spec__law_pick (dCons (dVar 0) (dCons (dC (.int 3)) dNil))) (dC (.int 0)))) dNil)) [8]) dNil))))) sNext)
  (sIf (dTest (dBin (f2I fun i j => .bool (decide (j < i))) (dCall fLen (dCons (dCall spec__law_solved (dCons (dComp (dItems (dBin fAdd (dVar 4) (dLst (dCons (dVar 7) dNil)))) (dgName 11) dYes (dCall spec__law_number (dCons (dVar 11) dNil)) [11]) dNil)) dNil)) (dCall fLen (dCons (dVar 4) dNil)))) (sAppend 4 (dSolid (dVar 7))) sNext))) [6, 7, 9, 10, 7, 4] [6, 9, 10])
  (sSeq (sIf (dTest (dBin (fEq false) (dVar 3) (dC (.int 2)))) (sSeq (sAsg 12 (dCall spec__law_mixed (dCons (dVar 0) (dCons (dListRg (dVar 1)) dNil))))
  (sAsg 4 (dComp (dItems (dVar 4)) (dgName 7) dYes (dCall fTuple (dCons (dComp (dRng1 (dCons (dVar 1) dNil)) (dgName 8) dYes (dSolid (dBin fIx (dVar 7) (dBin fIx (dVar 12) (dVar 8)))) [8]) dNil)) [7]))) sNext)
  (sRet (dSolid (dTup (dCons (dVar 1) (dCons (dCall fTuple (dCons (dVar 4) dNil)) dNil)))))))))
theorem pl__law_code : ∀ ds R, spec__law_code ds R → m__law_code (startE ["source", "n", "most", "way", "found", "share", "lap", "row", "place", "a", "b", "one", "names"] ds) (retE R) := by
  rintro ds R ⟨n, most, rfl, hn, hm, h⟩
  unfold m__law_code
  have toRows : ∀ (F : List (List Bool)) (r : List Bool), rowsD F ++ [rowD r] = rowsD (F ++ [r]) := fun F r => by simp
  walk_at "h"
  refine ⟨4, rfl, by omega, fun way w0 w1 => ?_⟩
  walk_at "s"
  refine ⟨3, rfl, by omega, fun sh s0 s1 => ?_⟩
  walk_at "s"
  refine ⟨((most : Nat) : Int) + 1, rfl, by omega, fun many m0 m1 => ?_⟩
  walk_at "h"
  refine ⟨by omega, ?_⟩
  refine forD_inv (fun i ρ => ∃ F s7, F.length ≤ i ∧ ρ = [.val srcD, .val (.int ((n + 1 : Nat) : Int)), .val (.int ((most : Nat) : Int)), .val (.int way), .own (.list (rowsD F)), .val (.int (2 + sh)), .unk, s7, .unk, .unk, .unk, .unk, .unk] ∧ Len (n + 1) F ∧ Ind (n + 1) F) _ 0 _ ⟨[], .unk, by simp, rfl, fun b hb => (by cases hb), ind_nil⟩ ?_ ?_
  · rintro i x ρ Nx hx ⟨F, s7, lF, rfl, hF, iF⟩ hN
    have hi : i < many.toNat := by
      have := (List.getElem?_eq_some_iff.mp hx).1
      rw [rangeD_len] at this
      exact this
    walk_at "h"
    refine ⟨⟨by omega, by omega⟩, by rw [rangeD_len]; omega, compD_draw (enc := fun b : Bool => .int (bI b)) (A := fun _ => True) (fun y _ k k0 hk => ?_) fun rs hrs _ => ?_⟩
    · walk_at "h"
      refine ⟨2 + sh, rfl, by omega, fun a a0 a1 => fEq_int ?_⟩
      walk_at "h"
      exact hk _ trivial
    rw [rangeD_len] at hrs
    rw [← row_ints]
    refine ⟨solids_ints _, ?_⟩
    walk_at "s"
    apply joinK (Q := fun ρ => ∃ (r : List Bool) (s9 s10 : Sl), r.length = n + 1 ∧ ρ = [.val srcD, .val (.int ((n + 1 : Nat) : Int)), .val (.int ((most : Nat) : Int)), .val (.int way), .own (.list (rowsD F)), .val (.int (2 + sh)), .val x, .own (rowD r), .unk, s9, s10, .unk, .unk])
    case main =>
      intro key
      refine fEq_int ?_
      simp only [Bool.false_eq_true, if_false]
      cases (way == 1)
      · walk_at "h"
        exact key _ ⟨rs, _, _, hrs, rfl⟩
      · walk_at "h"
        refine ⟨((n + 1 : Nat) : Int), rfl, by omega, fun a a0 a1 => ?_⟩
        walk_at "s"
        refine ⟨((n + 1 : Nat) : Int) - a, rfl, by omega, fun b b0 b1 => ?_⟩
        walk_at "s"
        rw [Int.toNat_natCast, rangeD_nats]
        refine ⟨⟨by omega, by omega⟩, by rw [List.length_map, List.length_range]; omega, compD_draw (enc := fun b : Bool => .int (bI b)) (A := fun _ => True) (fun y hy k k0 hk => ?_) fun rs2 hrs2 _ => ?_⟩
        · obtain ⟨p, _, rfl⟩ := List.mem_map.mp hy
          walk_at "h"
          cases decide (a ≤ ((p : Nat) : Int))
          · exact hk false trivial
          · walk_at "h"
            cases decide (((p : Nat) : Int) ≤ a + b)
            · exact hk false trivial
            · walk_at "h"
              refine ⟨3, rfl, by omega, fun c c0 c1 => ?_⟩
              exact hk (decide (0 < c)) trivial
        rw [List.length_map, List.length_range] at hrs2
        rw [← row_ints]
        refine ⟨solids_ints _, ?_⟩
        exact key _ ⟨rs2, _, _, hrs2, rfl⟩
    case key =>
      rintro ρ ⟨r, s9, s10, lr, rfl⟩
      walk_at "s"
      have lF2 : (rowsD F).length = F.length := List.length_map ..
      have hFr : Len (n + 1) (F ++ [r]) := len_app hF fun b hb => by rw [List.mem_singleton.mp hb]; exact lr
      refine ⟨solids_rowsD F, by omega, by rw [List.length_append, lF2]; simp; omega, ?_⟩
      rw [toRows]
      refine compD_map (fun v => nbD v) (fun v hv k k0 hk => ?_) ?_
      · walk_at "h"
        exact ⟨v, rfl, by rw [hFr v hv]; omega, hk⟩
      refine ⟨n + 1, F ++ [r], rfl, hFr, by omega, ?_⟩
      walk_at "h"
      rw [lF2, List.length_map, solve_len hFr]
      cases c : decide (((F.length : Nat) : Int) < ((rkN (F ++ [r]) : Nat) : Int))
      · walk_at "h"
        exact hN _ ⟨F, _, by omega, rfl, hF, iF⟩
      · have c2 : F.length < rkN (F ++ [r]) := by have := of_decide_eq_true c; omega
        have c3 := rk_le (F ++ [r])
        rw [List.length_append, List.length_singleton] at c3
        walk_at "h"
        refine ⟨by omega, hN _ ⟨F ++ [r], .own (rowD r), by rw [List.length_append, List.length_singleton]; omega, rfl, hFr, (ind_rk hFr).mpr (by rw [List.length_append, List.length_singleton]; omega)⟩⟩
  · rintro ρ ⟨F, s7, lF, rfl, hF, iF⟩
    rw [rangeD_len] at lF
    walk_at "h"
    walk_at "s"
    refine fEq_int ?_
    simp only [Bool.false_eq_true, if_false]
    cases (way == 2)
    · walk_at "h"
      walk_at "s"
      exact ⟨solids_rowsD F, solids_rowsD F, h F hF iF (by omega)⟩
    · walk_at "h"
      rw [Int.toNat_natCast, rangeD_nats]
      refine ⟨⟨by omega, by omega⟩, _, .inl rfl, solids_nats _, by rw [List.length_map, List.length_range]; omega, fun ys hys => ?_⟩
      obtain ⟨P, hp, rfl⟩ := perm_map hys rfl
      have lp := hp.length_eq
      rw [List.length_range] at lp
      have inP : ∀ p ∈ P, p < n + 1 := fun p hq => List.mem_range.mp (hp.mem_iff.mp hq)
      have lM : Len (n + 1) (F.map (atP P)) := by have := (lin_atP (n + 1) P).lens hF; rw [lp] at this; exact this
      have iM : Ind (n + 1) (F.map (atP P)) := by have := ind_at hF iF (P := P) fun p hq => hp.mem_iff.mpr (List.mem_range.mpr hq); rw [lp] at this; exact this
      walk_at "s"
      refine ⟨by rw [List.length_map]; omega, compD_map (fun v => rowD (atP P v)) (fun v hv k k0 hk => ?_) ?_⟩
      · walk_at "h"
        rw [Int.toNat_natCast, rangeD_nats]
        refine ⟨⟨by omega, by omega⟩, by rw [List.length_map, List.length_range]; omega, compD_map (fun q => .int (bI (gt v (P.getD q 0)))) (fun q hq k2 k20 hk2 => ?_) ?_⟩
        · have hq2 : q < P.length := by rw [lp]; exact List.mem_range.mp hq
          have hg : P.getD q 0 = P[q] := by simp [hq2]
          walk_at "h"
          refine ⟨natD P[q], atI_ok (j := q) (by rw [List.getElem?_map, List.getElem?_eq_getElem hq2]; rfl) rfl, fIx_rowD (by rw [hF v hv]; exact inP _ (List.getElem_mem hq2)) ⟨solid_int _, ?_⟩⟩
          rw [← hg]
          exact hk2
        · rw [← lp, range_map (fun p => (.int (bI (gt v p)) : D)) 0 P, atP_data]
          exact ⟨solids_ints _, hk⟩
      have e : (F.map fun v => rowD (atP P v)) = rowsD (F.map (atP P)) := by simp [List.map_map, Function.comp_def]
      rw [e]
      walk_at "s"
      exact ⟨solids_rowsD _, solids_rowsD _, h _ lM iM (by rw [List.length_map]; omega)⟩
theorem at__law_code (T : Tx K mg) : FnAt P w K mg base "_law_code" 3 3 (spD K spec__law_code) := by
  obtain ⟨f, fd, hm, F⟩ := T.f__law_code
  refine fnAt_of hm F rfl (F.binds (ps := ["source", "n", "most"]) fun _ _ _ _ _ _ us hl => match us, hl with | [_, _, _], _ => rfl) (fnG_of F sc__law_code (spD_len len__law_code) fun cdv A outer s H vs Q E hr hg h => ?_)
  exact body_of (m := fun _ => m__law_code) ["source", "n", "most", "way", "found", "share", "lap", "row", "place", "a", "b", "one", "names"]
    ((pss_cons (ps_par (i := 3) (j := 4) rfl sc__law_code.nd rfl rfl (by decide) rfl rfl (pa_cons (pe_callG (at__law_pick T) (hr.mono (by decide)) hg (by rfl) (pa_cons (pv 0) (pa_cons pe_int pa_nil))) (pa_cons (pe_lst pa_nil) pa_nil)) (by rfl))
      (pss_cons (ps_set (i := 5) sc__law_code.nd rfl (by first | exact Or.inl rfl | exact Or.inr rfl) (pe_op op_addZ pe_int (pe_callG (at__law_pick T) (hr.mono (by decide)) hg (by rfl) (pa_cons (pv 0) (pa_cons pe_int pa_nil)))))
      (pss_cons (ps_for PassesOwn.never rfl (pi_range1 (by rfl) T.b_range (pa_cons (pe_callG (at__law_pick T) (hr.mono (by decide)) hg (by rfl) (pa_cons (pv 0) (pa_cons (pe_op op_addZ (pv 2) pe_int) pa_nil))) pa_nil)) (pg_name (i := 6) sc__law_code.nd rfl (by first | exact Or.inl rfl | exact Or.inr rfl)) (pss_cons (ps_set (i := 7) sc__law_code.nd rfl (by first | exact Or.inl rfl | exact Or.inr rfl) (pe_callTy call_tupF (by rfl) T.b_tuple (by decide +kernel) (pa_cons (pe_lc (own := [("place", 8)]) rfl sc__law_code.nd (pi_range1 (by rfl) T.b_range (pa_cons (pv 1) pa_nil)) (blkOk_by (N := ["source", "n", "most", "way", "found", "share", "lap", "row", "place", "a", "b", "one", "names"]) (sc := defScope s__law_code) (by decide +kernel)) (fun _ _ _ _ _ => (pg_name (i := 8) sc__law_code.nd rfl (by first | exact Or.inl rfl | exact Or.inr rfl))) (fun _ _ _ _ _ => pts_nil) (fun _ _ _ _ _ => (pe_callTy call_int1 (by rfl) T.b_int (by decide +kernel) (pa_cons (pe_cmpR (op_eqZ hr.units) (pe_callG (at__law_pick T) (hr.mono (by decide)) hg (by rfl) (pa_cons (pv 0) (pa_cons (pv 5) pa_nil))) pe_int (nomark _)) pa_nil)))) pa_nil)))
      (pss_cons (ps_if (pt_cmpR (op_eqZ hr.units) (pv 3) pe_int (nomark _)) (pss_cons (ps_set (i := 9) sc__law_code.nd rfl (by first | exact Or.inl rfl | exact Or.inr rfl) (pe_callG (at__law_pick T) (hr.mono (by decide)) hg (by rfl) (pa_cons (pv 0) (pa_cons (pv 1) pa_nil))))
      (pss_cons (ps_set (i := 10) sc__law_code.nd rfl (by first | exact Or.inl rfl | exact Or.inr rfl) (pe_op op_addZ (pv 9) (pe_callG (at__law_pick T) (hr.mono (by decide)) hg (by rfl) (pa_cons (pv 0) (pa_cons (pe_op op_sub (pv 1) (pv 9)) pa_nil)))))
      (pss_one (ps_set (i := 7) sc__law_code.nd rfl (by first | exact Or.inl rfl | exact Or.inr rfl) (pe_callTy call_tupF (by rfl) T.b_tuple (by decide +kernel) (pa_cons (pe_lc (own := [("place", 8)]) rfl sc__law_code.nd (pi_range1 (by rfl) T.b_range (pa_cons (pv 1) pa_nil)) (blkOk_by (N := ["source", "n", "most", "way", "found", "share", "lap", "row", "place", "a", "b", "one", "names"]) (sc := defScope s__law_code) (by decide +kernel)) (fun _ _ _ _ _ => (pg_name (i := 8) sc__law_code.nd rfl (by first | exact Or.inl rfl | exact Or.inr rfl))) (fun _ _ _ _ _ => pts_nil) (fun _ _ _ _ _ => (pe_callTy call_int1 (by rfl) T.b_int (by decide +kernel) (pa_cons (pe_and (pe_chain op_le op_le (pv 9) (pv 8) (pv 10)) (pe_one (pe_cmpR op_gt (pe_callG (at__law_pick T) (hr.mono (by decide)) hg (by rfl) (pa_cons (pv 0) (pa_cons pe_int pa_nil))) pe_int (nomark _)))) pa_nil)))) pa_nil)))))) pss_nil)
      (pss_one (ps_if (pt_cmpR op_gt (pe_callB call_len (by rfl) T.b_len PySem.boot_len (pa_cons (pe_callG (at__law_solved T) (hr.mono (by decide)) hg (by rfl) (pa_cons (pe_lc (own := [("one", 11)]) rfl sc__law_code.nd (pi_seq (pe_op op_addZ (pv 4) (pe_lst (pa_cons (pv 7) pa_nil)))) (blkOk_by (N := ["source", "n", "most", "way", "found", "share", "lap", "row", "place", "a", "b", "one", "names"]) (sc := defScope s__law_code) (by decide +kernel)) (fun _ _ _ _ _ => (pg_name (i := 11) sc__law_code.nd rfl (by first | exact Or.inl rfl | exact Or.inr rfl))) (fun _ _ _ _ _ => pts_nil) (fun _ _ _ _ _ => (pe_callG (at__law_number T) (hr.mono (by decide)) hg (by rfl) (pa_cons (pv 11) pa_nil)))) pa_nil)) pa_nil)) (pe_callB call_len (by rfl) T.b_len PySem.boot_len (pa_cons (pv 4) pa_nil)) (nomark _)) (pss_one (ps_expr (pe_bm PySem.F.plainAttrs_list PySem.F.slot_list_append PySem.F.type_list_append mt_append (pv 4) (pa_cons (pv 7) pa_nil)))) pss_nil)))))
      (pss_cons (ps_if (pt_cmpR (op_eqZ hr.units) (pv 3) pe_int (nomark _)) (pss_cons (ps_set (i := 12) sc__law_code.nd rfl (by first | exact Or.inl rfl | exact Or.inr rfl) (pe_callG (at__law_mixed T) (hr.mono (by decide)) hg (by rfl) (pa_cons (pv 0) (pa_cons (pe_listRg rfl (by rfl) T.b_list (prg_1 (by rfl) T.b_range (pv 1))) pa_nil))))
      (pss_one (ps_setLc (i := 4) (own := [("row", 7)]) rfl sc__law_code.nd rfl rfl (sw_true rfl rfl rfl (by decide +kernel)) (pi_seq (pv 4)) (blkOk_by (N := ["source", "n", "most", "way", "found", "share", "lap", "row", "place", "a", "b", "one", "names"]) (sc := defScope s__law_code) (by decide +kernel)) (fun _ _ _ _ _ => (pg_name (i := 7) sc__law_code.nd rfl (by first | exact Or.inl rfl | exact Or.inr rfl))) (fun _ _ _ _ _ => pts_nil) (fun _ _ _ _ _ => (pe_callTy call_tupF (by rfl) T.b_tuple (by decide +kernel) (pa_cons (pe_lc (own := [("place", 8)]) rfl sc__law_code.nd (pi_range1 (by rfl) T.b_range (pa_cons (pv 1) pa_nil)) (blkOk_by (by rfl)) (fun _ _ _ _ _ => (pg_name (i := 8) sc__law_code.nd rfl (by first | exact Or.inl rfl | exact Or.inr rfl))) (fun _ _ _ _ _ => pts_nil) (fun _ _ _ _ _ => (pe_ix ix_seq (pv 7) (pe_ix ix_seq (pv 12) (pv 8) (fun _ _ => rfl)) (fun _ _ => rfl)))) pa_nil)))))) pss_nil)
      (pss_one (ps_ret (pe_tupF (pa_cons (pv 1) (pa_cons (pe_callTy call_tupF (by rfl) T.b_tuple (by decide +kernel) (pa_cons (pv 4) pa_nil)) pa_nil))))))))))
    (fun S => (ds_seq (ds_par 3 4 (da_cons (de_call (da_cons (de_var 0) (da_cons de_int da_nil))) (da_cons (de_lst da_nil) da_nil)))
      (ds_seq (ds_asg 5 (de_op od_add de_int (de_call (da_cons (de_var 0) (da_cons de_int da_nil)))))
      (ds_seq (ds_for (Wg := [6]) (Wb := [7, 9, 10, 7, 4]) (F := [6, 9, 10]) (di_rng1 (da_cons (de_call (da_cons (de_var 0) (da_cons (de_op od_add (de_var 2) de_int) da_nil))) da_nil)) (dg_name 6) (ds_seq (ds_asg 7 (de_cb cd_tuple (da_cons (de_lc (di_rng1 (da_cons (de_var 1) da_nil)) (dg_name 8) dt_yes (de_cb cd_int (da_cons (de_op od_eq (de_call (da_cons (de_var 0) (da_cons (de_var 5) da_nil))) de_int) da_nil)) (by decide)) da_nil)))
      (ds_seq (ds_if (dt_val (de_op od_eq (de_var 3) de_int)) (ds_seq (ds_asg 9 (de_call (da_cons (de_var 0) (da_cons (de_var 1) da_nil))))
      (ds_seq (ds_asg 10 (de_op od_add (de_var 9) (de_call (da_cons (de_var 0) (da_cons (de_op od_I0 (de_var 1) (de_var 9)) da_nil)))))
      (ds_asg 7 (de_cb cd_tuple (da_cons (de_lc (di_rng1 (da_cons (de_var 1) da_nil)) (dg_name 8) dt_yes (de_cb cd_int (da_cons (de_andV (de_chain od_B0 od_B0 (de_var 9) (de_var 8) (de_var 10)) (de_op od_B0 (de_call (da_cons (de_var 0) (da_cons de_int da_nil))) de_int)) da_nil)) (by decide)) da_nil))))) ds_next)
      (ds_if (dt_val (de_op od_B0 (de_cb cd_len (da_cons (de_call (da_cons (de_lc (di_seq (de_op od_add (de_var 4) (de_lst (da_cons (de_var 7) da_nil)))) (dg_name 11) dt_yes (de_call (da_cons (de_var 11) da_nil)) (by decide)) da_nil)) da_nil)) (de_cb cd_len (da_cons (de_var 4) da_nil)))) (ds_append 4 (de_solid (de_var 7))) ds_next))) (by decide))
      (ds_seq (ds_if (dt_val (de_op od_eq (de_var 3) de_int)) (ds_seq (ds_asg 12 (de_call (da_cons (de_var 0) (da_cons (de_listRg (de_var 1)) da_nil))))
      (ds_asg 4 (de_lc (di_seq (de_var 4)) (dg_name 7) dt_yes (de_cb cd_tuple (da_cons (de_lc (di_rng1 (da_cons (de_var 1) da_nil)) (dg_name 8) dt_yes (de_solid (de_opA oa_ix (de_var 7) (de_opA oa_ix (de_var 12) (de_var 8)))) (by decide)) da_nil)) (by decide)))) ds_next)
      (ds_ret (de_solid (de_tup (da_cons (de_var 1) (da_cons (de_cb cd_tuple (da_cons (de_var 4) da_nil)) da_nil)))))))))) h (fun S ds R hs => pl__law_code ds R hs)
def spec__law_rank : List D → (D → Prop) → Prop := fun ds R => ∃ (n : Nat) (X : D) (B : List (List Bool)) (P : List Nat), ds = [.tuple [X, .tuple (rowsD B)], .tuple (P.map natD)] ∧ Len n B ∧ P.Nodup ∧ (∀ p ∈ P, p < n) ∧ n ≤ 900 ∧ B.length ≤ 900 ∧ R (.int ((rkP B P : Nat) : Int))
theorem len__law_rank : ∀ ds R, spec__law_rank ds R → ds.length = 2 := by
  rintro ds R ⟨n, X, B, P, rfl, _⟩
  rfl
def m__law_rank : DMS :=
  (sSeq (sAsg 2 (dCall fSumA (dCons (dComp (dItems (dVar 1)) (dgName 3) dYes (dBin (f2IC CPow fun i j => .int (i * 2 ^ j.toNat)) (dC (.int 1)) (dVar 3)) [3]) dNil)))
  (sRet (dCall fLen (dCons (dCall spec__law_solved (dCons (dComp (dItems (dBin fIx (dVar 0) (dC (.int 1)))) (dgName 4) dYes (dBin (f2I fun i j => .int (Builtin.bitAnd i j)) (dCall spec__law_number (dCons (dVar 4) dNil)) (dVar 2)) [4]) dNil)) dNil))))
theorem pl__law_rank : ∀ ds R, spec__law_rank ds R → m__law_rank (startE ["code", "lot", "mask", "place", "row"] ds) (retE R) := by
  rintro ds R ⟨n, X, B, P, rfl, hL, nd, hP, hn, hB, h⟩
  unfold m__law_rank
  have pl := pigeon n P nd hP
  walk_at "y"
  refine ⟨by rw [List.length_map]; omega, compD_map (fun p => .int ((2 : Int) ^ p)) (fun p hp k k0 hk => ?_) ⟨P.map fun p => (2 : Int) ^ p, by rw [List.map_map]; rfl, by rw [List.length_map]; omega, ?_⟩⟩
  · have := hP p hp
    walk_at "y"
    refine ⟨⟨by omega, by omega, by decide⟩, ?_⟩
    rw [Int.toNat_natCast, Int.one_mul]
    exact hk
  rw [mask_sum nd hP]
  refine compD_map (fun v => nbD (maskP n P v)) (fun v hv k k0 hk => ?_) ?_
  · walk_at "y"
    refine ⟨v, rfl, by rw [hL v hv]; omega, ?_⟩
    walk_at "y"
    rw [and_numB (by rw [hL v hv, mkRow_len]), meet_mask (hL v hv)]
    exact hk
  have lM := (lin_mask n P).lens hL
  have e : (B.map fun v => nbD (maskP n P v)) = (B.map (maskP n P)).map nbD := by rw [List.map_map]; rfl
  rw [e]
  refine ⟨n, B.map (maskP n P), rfl, lM, by omega, ?_⟩
  walk_at "y"
  rw [List.length_map, solve_len lM, rkP_mask hL hP]
  exact h
theorem at__law_rank (T : Tx K mg) : FnAt P w K mg base "_law_rank" 2 2 (spD K spec__law_rank) := by
  obtain ⟨f, fd, hm, F⟩ := T.f__law_rank
  refine fnAt_of hm F rfl (F.binds (ps := ["code", "lot"]) fun _ _ _ _ _ _ us hl => match us, hl with | [_, _], _ => rfl) (fnG_of F sc__law_rank (spD_len len__law_rank) fun cdv A outer s H vs Q E hr hg h => ?_)
  exact body_of (m := fun _ => m__law_rank) ["code", "lot", "mask", "place", "row"]
    ((pss_cons (ps_set (i := 2) sc__law_rank.nd rfl (by first | exact Or.inl rfl | exact Or.inr rfl) (pe_callB (cr_sumA rfl) (by rfl) T.b_sum (by decide +kernel) (pa_cons (pe_lc (own := [("place", 3)]) rfl sc__law_rank.nd (pi_seq (pv 1)) (blkOk_by (N := ["code", "lot", "mask", "place", "row"]) (sc := defScope s__law_rank) (by decide +kernel)) (fun _ _ _ _ _ => (pg_name (i := 3) sc__law_rank.nd rfl (by first | exact Or.inl rfl | exact Or.inr rfl))) (fun _ _ _ _ _ => pts_nil) (fun _ _ _ _ _ => (pe_op op_shl pe_int (pv 3)))) pa_nil)))
      (pss_one (ps_ret (pe_callB call_len (by rfl) T.b_len PySem.boot_len (pa_cons (pe_callG (at__law_solved T) (hr.mono (by decide)) hg (by rfl) (pa_cons (pe_lc (own := [("row", 4)]) rfl sc__law_rank.nd (pi_seq (pe_ix ix_seq (pv 0) pe_int (fun _ _ => rfl))) (blkOk_by (N := ["code", "lot", "mask", "place", "row"]) (sc := defScope s__law_rank) (by decide +kernel)) (fun _ _ _ _ _ => (pg_name (i := 4) sc__law_rank.nd rfl (by first | exact Or.inl rfl | exact Or.inr rfl))) (fun _ _ _ _ _ => pts_nil) (fun _ _ _ _ _ => (pe_op op_and (pe_callG (at__law_number T) (hr.mono (by decide)) hg (by rfl) (pa_cons (pv 4) pa_nil)) (pv 2)))) pa_nil)) pa_nil))))))
    (fun S => (ds_seq (ds_asg 2 (de_cb cd_sumA (da_cons (de_lc (di_seq (de_var 1)) (dg_name 3) dt_yes (de_op od_IC de_int (de_var 3)) (by decide)) da_nil)))
      (ds_ret (de_cb cd_len (da_cons (de_call (da_cons (de_lc (di_seq (de_opA oa_ix (de_var 0) de_int)) (dg_name 4) dt_yes (de_op od_I0 (de_call (da_cons (de_var 4) da_nil)) (de_var 2)) (by decide)) da_nil)) da_nil))))) h (fun S ds R hs => pl__law_rank ds R hs)
def spec__law_others : List D → (D → Prop) → Prop := fun ds R => ∃ (n : Nat) (X : D) (P : List Nat), ds = [.tuple [.int ((n : Nat) : Int), X], .tuple (P.map natD)] ∧ n ≤ 10000 ∧ R (.tuple ((outP n P).map natD))
theorem len__law_others : ∀ ds R, spec__law_others ds R → ds.length = 2 := by
  rintro ds R ⟨n, X, P, rfl, _⟩
  rfl
def m__law_others : DMS :=
  (sRet (dCall fTuple (dCons (dComp (dRng1 (dCons (dBin fIx (dVar 0) (dC (.int 0))) dNil)) (dgName 2) (dTest (dBin (fIn true) (dVar 2) (dVar 1))) (dSolid (dVar 2)) [2]) dNil)))
theorem pl__law_others : ∀ ds R, spec__law_others ds R → m__law_others (startE ["code", "lot", "place"] ds) (retE R) := by
  rintro ds R ⟨n, X, P, rfl, hn, h⟩
  unfold m__law_others
  walk_at "y"
  rw [Int.toNat_natCast, rangeD_nats]
  refine ⟨⟨by omega, by omega⟩, by rw [List.length_map, List.length_range]; omega, compD_filter natD (fun p => !P.contains p) (fun p hp k k0 h1 h0 => ?_) ?_⟩
  · walk_at "h"
    refine fIn_natsT ?_
    simp only [if_true]
    cases c : !P.contains p
    · exact h0 c
    · exact h1 c
  · exact ⟨solids_nats _, h⟩
theorem at__law_others (T : Tx K mg) : FnAt P w K mg base "_law_others" 1 2 (spD K spec__law_others) := by
  obtain ⟨f, fd, hm, F⟩ := T.f__law_others
  refine fnAt_of hm F rfl (F.binds (ps := ["code", "lot"]) fun _ _ _ _ _ _ us hl => match us, hl with | [_, _], _ => rfl) (fnG_of F sc__law_others (spD_len len__law_others) fun cdv A outer s H vs Q E hr hg h => ?_)
  exact body_of (m := fun _ => m__law_others) ["code", "lot", "place"]
    ((pss_one (ps_ret (pe_callTy call_tupF (by rfl) T.b_tuple (by decide +kernel) (pa_cons (pe_lc (own := [("place", 2)]) rfl sc__law_others.nd (pi_range1 (by rfl) T.b_range (pa_cons (pe_ix ix_seq (pv 0) pe_int (fun _ _ => rfl)) pa_nil)) (blkOk_by (N := ["code", "lot", "place"]) (sc := defScope s__law_others) (by decide +kernel)) (fun _ _ _ _ _ => (pg_name (i := 2) sc__law_others.nd rfl (by first | exact Or.inl rfl | exact Or.inr rfl))) (fun _ _ _ _ _ => (pts_one (pt_cmpR (op_notInZ hr.units) (pv 2) (pv 1) (by with_unfolding_all rfl)))) (fun _ _ _ _ _ => (pv 2))) pa_nil)))))
    (fun S => (ds_ret (de_cb cd_tuple (da_cons (de_lc (di_rng1 (da_cons (de_opA oa_ix (de_var 0) de_int) da_nil)) (dg_name 2) (dt_val (de_op od_in (de_var 2) (de_var 1))) (de_solid (de_var 2)) (by decide)) da_nil)))) h (fun S ds R hs => pl__law_others ds R hs)
def spec__law_width : List D → (D → Prop) → Prop := fun ds R => ∃ (n : Nat) (B : List (List Bool)) (P : List Nat), ds = [.tuple [.int ((n + 1 : Nat) : Int), .tuple (rowsD B)], .tuple (P.map natD)] ∧ Len (n + 1) B ∧ P.Nodup ∧ (∀ p ∈ P, p < n + 1) ∧ n ≤ 800 ∧ B.length ≤ 900 ∧ R (.int (wdP (n + 1) B P))
theorem len__law_width : ∀ ds R, spec__law_width ds R → ds.length = 2 := by
  rintro ds R ⟨n, B, P, rfl, _⟩
  rfl
def m__law_width : DMS :=
  (sRet (dBin (f2I fun i j => .int (i - j)) (dBin fAdd (dCall spec__law_rank (dCons (dVar 0) (dCons (dVar 1) dNil))) (dCall spec__law_rank (dCons (dVar 0) (dCons (dCall spec__law_others (dCons (dVar 0) (dCons (dVar 1) dNil))) dNil)))) (dCall fLen (dCons (dBin fIx (dVar 0) (dC (.int 1))) dNil))))
theorem pl__law_width : ∀ ds R, spec__law_width ds R → m__law_width (startE ["code", "lot"] ds) (retE R) := by
  rintro ds R ⟨n, B, P, rfl, hL, nd, hP, hn, hB, h⟩
  unfold m__law_width
  walk_at "y"
  refine ⟨n + 1, _, B, P, rfl, hL, nd, hP, by omega, hB, ?_⟩
  walk_at "y"
  refine ⟨n + 1, _, P, rfl, by omega, n + 1, _, B, outP (n + 1) P, rfl, hL, out_nodup _ _, fun p hp => (mem_outP.mp hp).1, by omega, hB, ?_⟩
  walk_at "y"
  rw [List.length_map]
  exact h
theorem at__law_width (T : Tx K mg) : FnAt P w K mg base "_law_width" 3 2 (spD K spec__law_width) := by
  obtain ⟨f, fd, hm, F⟩ := T.f__law_width
  refine fnAt_of hm F rfl (F.binds (ps := ["code", "lot"]) fun _ _ _ _ _ _ us hl => match us, hl with | [_, _], _ => rfl) (fnG_of F sc__law_width (spD_len len__law_width) fun cdv A outer s H vs Q E hr hg h => ?_)
  exact body_of (m := fun _ => m__law_width) ["code", "lot"]
    ((pss_one (ps_ret (pe_op op_sub (pe_op op_addZ (pe_callG (at__law_rank T) (hr.mono (by decide)) hg (by rfl) (pa_cons (pv 0) (pa_cons (pv 1) pa_nil))) (pe_callG (at__law_rank T) (hr.mono (by decide)) hg (by rfl) (pa_cons (pv 0) (pa_cons (pe_callG (at__law_others T) (hr.mono (by decide)) hg (by rfl) (pa_cons (pv 0) (pa_cons (pv 1) pa_nil))) pa_nil)))) (pe_callB call_len (by rfl) T.b_len PySem.boot_len (pa_cons (pe_ix ix_seq (pv 0) pe_int (fun _ _ => rfl)) pa_nil))))))
    (fun S => (ds_ret (de_op od_I0 (de_op od_add (de_call (da_cons (de_var 0) (da_cons (de_var 1) da_nil))) (de_call (da_cons (de_var 0) (da_cons (de_call (da_cons (de_var 0) (da_cons (de_var 1) da_nil))) da_nil)))) (de_cb cd_len (da_cons (de_opA oa_ix (de_var 0) de_int) da_nil))))) h (fun S ds R hs => pl__law_width ds R hs)
/-- the worths of lots as a dict -/
def worD (n : Nat) (w : Nat → Int) (tot : Bool) (k : Nat) : List (D × D) := tD natD PyData.int ((List.range k).map fun x => (x, bestN n w tot x))
theorem worD_at {n : Nat} {w : Nat → Int} {tot : Bool} {k x : Nat} (h : x < k) : kFind (worD n w tot k) (natD x) = some (.int (bestN n w tot x)) := by
  unfold worD
  have nd : (((List.range k).map fun x => (x, bestN n w tot x)).map (·.1)).Nodup := by
    rw [List.map_map]
    exact (List.map_id (List.range k)).symm ▸ List.nodup_range
  rw [kFind_tD natD_inj, aFind_of_mem nd (List.mem_map.mpr ⟨x, List.mem_range.mpr h, rfl⟩)]
  rfl
theorem worD_put {n : Nat} {w : Nat → Int} {tot : Bool} {k : Nat} : kPut (worD n w tot k) (natD k) (.int (bestN n w tot k)) = worD n w tot (k + 1) := by
  unfold worD
  rw [kPut_tD natD_inj]
  have : (aFind ((List.range k).map fun x => (x, bestN n w tot x)) k).isSome = false := by
    rw [← Bool.not_eq_true, aFind_mem, List.map_map, List.mem_map]
    rintro ⟨a, ha, e⟩
    have := List.mem_range.mp ha
    have : a = k := e
    omega
  unfold aPut
  rw [this, if_neg Bool.false_ne_true, List.range_succ, List.map_append]
  rfl
theorem worD_plain (n : Nat) (w : Nat → Int) (tot : Bool) (k : Nat) : plainK (worD n w tot k) := plainK_tD keyOk_nat _
theorem worD_homog (n : Nat) (w : Nat → Int) (tot : Bool) (k x : Nat) : Homog (worD n w tot k) (natD x) := homog_tD (t := false) (fun _ => rfl) _ _
def spec__law_best : List D → (D → Prop) → Prop := fun ds R => ∃ (n : Nat) (B : List (List Bool)) (tot : Bool), ds = [.tuple [.int ((n + 1 : Nat) : Int), .tuple (rowsD B)], .bool tot] ∧ Len (n + 1) B ∧ Ind (n + 1) B ∧ n ≤ 15 ∧ R (.dict (worD (n + 1) (fun x => wdP (n + 1) B (ptsN (n + 1) x)) tot (2 ^ (n + 1))))
theorem len__law_best : ∀ ds R, spec__law_best ds R → ds.length = 2 := by
  rintro ds R ⟨n, B, tot, rfl, _⟩
  rfl
def m__law_best : DMS :=
  (sSeq (sPar 2 3 (dCons (dSolid (dBin fIx (dVar 0) (dC (.int 0)))) (dCons (dDisp [((dC (.int 0)), (dC (.int 0)))]) dNil)))
  (sSeq (sFor (dRng2 (dCons (dC (.int 1)) (dCons (dBin (f2IC CPow fun i j => .int (i * 2 ^ j.toNat)) (dC (.int 1)) (dVar 2)) dNil))) (dgName 4) (sSeq (sAsg 5 (dComp (dRng1 (dCons (dVar 2) dNil)) (dgName 6) (dTru (dBin (f2I fun i j => .int (Builtin.bitAnd i j)) (dBin (f2IC (fun _ j => 0 ≤ j) fun i j => .int (i / 2 ^ j.toNat)) (dVar 4) (dVar 6)) (dC (.int 1)))) (dSolid (dVar 6)) [6]))
  (sSeq (sAsg 7 (dCall spec__law_width (dCons (dVar 0) (dCons (dCall fTuple (dCons (dVar 5) dNil)) dNil))))
  (sSeq (sAsg 8 (dCall fMinL (dCons (dComp (dItems (dVar 5)) (dgName 6) dYes (dSolid (dKGet (dVar 3) (dBin (f2I fun i j => .int (i - j)) (dVar 4) (dBin (f2IC CPow fun i j => .int (i * 2 ^ j.toNat)) (dC (.int 1)) (dVar 6))))) [6]) dNil)))
  (sKPut 3 (dVar 4) (dIf (dTru (dVar 1)) (dBin fAdd (dVar 8) (dVar 7)) (dCall (f2L fun i j => if j > i then j else i) (dCons (dVar 8) (dCons (dVar 7) dNil)))))))) [4, 5, 7, 8, 3] [4, 5, 7, 8])
  (sRetV 3)))
theorem pl__law_best : ∀ ds R, spec__law_best ds R → m__law_best (startE ["code", "is_sum", "n", "worth", "number", "places", "place", "here", "late"] ds) (retE R) := by
  rintro ds R ⟨n0, B, tot, rfl, hB, iB, hn, h⟩
  unfold m__law_best
  have lB := ind_count hB iB
  have n1 : 1 ≤ n0 + 1 := by omega
  have pw : (2 : Nat) ^ (n0 + 1) ≤ 2 ^ 16 := Nat.pow_le_pow_right (by decide) (by omega)
  have p0 : 0 < 2 ^ (n0 + 1) := Nat.two_pow_pos (n0 + 1)
  have e : (1 : Int) * 2 ^ (((n0 + 1 : Nat) : Nat) : Int).toNat = ((2 ^ (n0 + 1) : Nat) : Int) := by rw [Int.toNat_natCast, Int.one_mul]; norm_cast
  generalize hw : (fun x => wdP (n0 + 1) B (ptsN (n0 + 1) x)) = w at *
  walk_at "h"
  refine ⟨⟨.inl 0, rfl⟩, [.inl 0], rfl, by simp, ?_⟩
  walk_at "s"
  rw [e]
  refine ⟨⟨by omega, by omega, by decide⟩, ⟨by omega, by omega, by omega, by omega⟩, ?_⟩
  refine forD_nx (fun i ρ => ρ = [.val (.tuple [.int ((n0 + 1 : Nat) : Int), .tuple (rowsD B)]), .val (.bool tot), .val (.int ((n0 + 1 : Nat) : Int)), .own (.dict (worD (n0 + 1) w tot (i + 1))), .unk, .unk, .unk, .unk, .unk]) _ 0 _ rfl ?_ ?_
  · rintro i x ρ E hx rfl hN
    rw [Nat.zero_add] at hN ⊢
    have eN : (((2 ^ (n0 + 1) : Nat) : Int) - 1).toNat = 2 ^ (n0 + 1) - 1 := by omega
    have hi : i < 2 ^ (n0 + 1) - 1 := by
      have := (List.getElem?_eq_some_iff.mp hx).1
      rw [rangeD_len, eN] at this
      exact this
    obtain rfl : natD (i + 1) = x := by
      unfold rangeD at hx
      rw [List.getElem?_map, List.getElem?_range (by omega)] at hx
      have := Option.some.inj hx
      rw [← this]
      show PyData.int _ = PyData.int _
      congr 1
      omega
    walk_at "h"
    rw [Int.toNat_natCast, rangeD_nats]
    refine ⟨⟨by omega, by omega⟩, by rw [List.length_map, List.length_range]; omega, compD_filter natD (fun p => Nat.testBit (i + 1) p) (fun p hp k k0 h1 h0 => ?_) ?_⟩
    · have hp := List.mem_range.mp hp
      walk_at "h"
      refine ⟨by omega, ?_⟩
      rw [Int.toNat_natCast, bit_and]
      cases g : Nat.testBit (i + 1) p
      · exact h0 g
      · exact h1 g
    have ep : ((List.range (n0 + 1)).filter fun p => Nat.testBit (i + 1) p) = ptsN (n0 + 1) (i + 1) := rfl
    rw [ep]
    have lp := pts_len (n0 + 1) (i + 1)
    walk_at "s"
    refine ⟨solids_nats _, n0, B, _, rfl, hB, pts_nodup _ _, pts_lt, by omega, by omega, ?_⟩
    walk_at "s"
    refine ⟨by rw [List.length_map]; omega, compD_map (fun p => .int (bestN (n0 + 1) w tot (i + 1 - 2 ^ p))) (fun p hp k k0 hk => ?_) ?_⟩
    · have lt := (pts_sub hp).1
      have hb := (mem_pts.mp hp).2
      have ge : 2 ^ p ≤ i + 1 := Nat.ge_two_pow_of_testBit hb
      have hp := (mem_pts.mp hp).1
      walk_at "h"
      rw [Int.toNat_natCast, Int.one_mul, show ((i + 1 : Nat) : Int) - 2 ^ p = ((i + 1 - 2 ^ p : Nat) : Int) by rw [show ((2 : Int) ^ p) = ((2 ^ p : Nat) : Int) by norm_cast]; omega]
      refine ⟨worD (n0 + 1) w tot (i + 1), .inl ⟨rfl, worD_plain _ _ _ _⟩, ⟨by omega, by omega, by decide⟩, keyOk_nat _, worD_homog _ _ _ _ _, _, worD_at lt, ?_⟩
      exact ⟨solid_int _, hk⟩
    refine ⟨(ptsN (n0 + 1) (i + 1)).map fun p => bestN (n0 + 1) w tot (i + 1 - 2 ^ p), by rw [List.map_map]; rfl, ?_, fun m h1 h2 => ?_⟩
    · rw [List.length_map]
      exact List.length_pos_iff.mpr (pts_any (by omega) (by omega))
    have em := minI_is h1 h2
    have eb := bestN_step (n0 + 1) w tot (x := i + 1) (by omega)
    rw [← em] at eb
    have ew : wdP (n0 + 1) B (ptsN (n0 + 1) (i + 1)) = w (i + 1) := congrFun hw (i + 1)
    rw [ew]
    have wl : (worD (n0 + 1) w tot (i + 1)).length < 10000000 := by
      unfold worD
      rw [tD_len, List.length_map, List.length_range]
      omega
    walk_at "s"
    have ex : ∀ (t : Bool) (z : Int), z = bestN (n0 + 1) w t (i + 1) → kPut (worD (n0 + 1) w t (i + 1)) (natD (i + 1)) (.int z) = worD (n0 + 1) w t (i + 1 + 1) := fun t z hz => by
      rw [hz]
      exact worD_put
    cases tot
    · refine ⟨_, rfl, worD_plain _ _ _ _, keyOk_nat _, worD_homog _ _ _ _ _, wl, ?_⟩
      rw [ex]
      · exact hN _ rfl
      · rw [eb]
        unfold joinT
        simp only [Bool.false_eq_true, if_false]
        split <;> omega
    · refine ⟨_, rfl, worD_plain _ _ _ _, keyOk_nat _, worD_homog _ _ _ _ _, wl, ?_⟩
      rw [ex]
      · exact hN _ rfl
      · rw [eb]
        rfl
  · rintro ρ rfl
    rw [rangeD_len, show (((2 ^ (n0 + 1) : Nat) : Int) - 1).toNat = 2 ^ (n0 + 1) - 1 by omega, show 0 + (2 ^ (n0 + 1) - 1) + 1 = 2 ^ (n0 + 1) by omega]
    walk_at "h"
    walk_at "s"
    exact h
theorem at__law_best (T : Tx K mg) : FnAt P w K mg base "_law_best" 4 2 (spD K spec__law_best) := by
  obtain ⟨f, fd, hm, F⟩ := T.f__law_best
  refine fnAt_of hm F rfl (F.binds (ps := ["code", "is_sum"]) fun _ _ _ _ _ _ us hl => match us, hl with | [_, _], _ => rfl) (fnG_of F sc__law_best (spD_len len__law_best) fun cdv A outer s H vs Q E hr hg h => ?_)
  exact body_of (m := fun _ => m__law_best) ["code", "is_sum", "n", "worth", "number", "places", "place", "here", "late"]
    ((pss_cons (ps_asg (pe_tupF (pa_cons (pe_ix ix_seq (pv 0) pe_int (fun _ _ => rfl)) (pa_cons (pe_disp (pps_cons pe_int pe_int pps_nil) (by rfl) (by rfl) (fun z => by cases z) (by decide)) pa_nil))) (pg_tup rfl (pgs_cons (pg_name (i := 2) sc__law_best.nd rfl (by first | exact Or.inl rfl | exact Or.inr rfl)) (pgs_cons (pg_name (i := 3) sc__law_best.nd rfl (by first | exact Or.inl rfl | exact Or.inr rfl)) pgs_nil))))
      (pss_cons (ps_for PassesOwn.never rfl (pi_range2 (by rfl) T.b_range (pa_cons pe_int (pa_cons (pe_op op_shl pe_int (pv 2)) pa_nil))) (pg_name (i := 4) sc__law_best.nd rfl (by first | exact Or.inl rfl | exact Or.inr rfl)) (pss_cons (ps_setLc (i := 5) (own := [("place", 6)]) rfl sc__law_best.nd rfl rfl (sw_true rfl rfl rfl (by decide +kernel)) (pi_range1 (by rfl) T.b_range (pa_cons (pv 2) pa_nil)) (blkOk_by (N := ["code", "is_sum", "n", "worth", "number", "places", "place", "here", "late"]) (sc := defScope s__law_best) (by decide +kernel)) (fun _ _ _ _ _ => (pg_name (i := 6) sc__law_best.nd rfl (by first | exact Or.inl rfl | exact Or.inr rfl))) (fun _ _ _ _ _ => (pts_one (pt_truth (pe_op op_and (pe_op op_shr (pv 4) (pv 6)) pe_int) (fun _ => rfl)))) (fun _ _ _ _ _ => (pv 6)))
      (pss_cons (ps_set (i := 7) sc__law_best.nd rfl (by first | exact Or.inl rfl | exact Or.inr rfl) (pe_callG (at__law_width T) (hr.mono (by decide)) hg (by rfl) (pa_cons (pv 0) (pa_cons (pe_callTy call_tupF (by rfl) T.b_tuple (by decide +kernel) (pa_cons (pv 5) pa_nil)) pa_nil))))
      (pss_cons (ps_set (i := 8) sc__law_best.nd rfl (by first | exact Or.inl rfl | exact Or.inr rfl) (pe_callB (cr_min rfl) (by rfl) T.b_min (by decide +kernel) (pa_cons (pe_lc (own := [("place", 6)]) rfl sc__law_best.nd (pi_seq (pv 5)) (blkOk_by (N := ["code", "is_sum", "n", "worth", "number", "places", "place", "here", "late"]) (sc := defScope s__law_best) (by decide +kernel)) (fun _ _ _ _ _ => (pg_name (i := 6) sc__law_best.nd rfl (by first | exact Or.inl rfl | exact Or.inr rfl))) (fun _ _ _ _ _ => pts_nil) (fun _ _ _ _ _ => (pe_xget hr.units (pv 3) (pe_op op_sub (pv 4) (pe_op op_shl pe_int (pv 6))) (fun _ _ => rfl)))) pa_nil)))
      (pss_one (ps_xput hr.units (pv 3) (pv 4) (pe_ifExp (pt_truth (pv 1) (fun _ => rfl)) (pe_op op_addZ (pv 8) (pv 7)) (pe_callB (call_max2 rfl) (by rfl) T.b_max (by decide +kernel) (pa_cons (pv 8) (pa_cons (pv 7) pa_nil)))) (by rfl)))))))
      (pss_one (ps_ret (pv 3))))))
    (fun S => (ds_seq (ds_parG 2 3 (da_cons (de_solid (de_opA oa_ix (de_var 0) de_int)) (da_cons (de_disp (dps_cons de_int de_int dps_nil)) da_nil)))
      (ds_seq (ds_for (Wg := [4]) (Wb := [5, 7, 8, 3]) (F := [4, 5, 7, 8]) (di_rng2 (da_cons de_int (da_cons (de_op od_IC de_int (de_var 2)) da_nil))) (dg_name 4) (ds_seq (ds_asg 5 (de_lc (di_rng1 (da_cons (de_var 2) da_nil)) (dg_name 6) (dt_tru (de_op od_I0 (de_op od_IC (de_var 4) (de_var 6)) de_int)) (de_solid (de_var 6)) (by decide)))
      (ds_seq (ds_asg 7 (de_call (da_cons (de_var 0) (da_cons (de_cb cd_tuple (da_cons (de_var 5) da_nil)) da_nil))))
      (ds_seq (ds_asg 8 (de_cb cd_minL (da_cons (de_lc (di_seq (de_var 5)) (dg_name 6) dt_yes (de_solid (de_kget (de_var 3) (de_op od_I0 (de_var 4) (de_op od_IC de_int (de_var 6))))) (by decide)) da_nil)))
      (ds_kput 3 (de_if (dt_tru (de_var 1)) (de_op od_add (de_var 8) (de_var 7)) (de_cb cd_max2 (da_cons (de_var 8) (da_cons (de_var 7) da_nil)))) (de_var 4))))) (by decide))
      (ds_retV 3)))) h (fun S ds R hs => pl__law_best ds R hs)
def spec__law_told : List D → (D → Prop) → Prop := fun ds R => ∃ (n : Nat) (X : D) (w : Nat → Int) (tot : Bool), ds = [.tuple [.int ((n : Nat) : Int), X], .dict (worD n w tot (2 ^ n))] ∧ n ≤ 16 ∧ R (.tuple ((toldO n w tot (2 ^ n - 1)).reverse.map natD))
theorem len__law_told : ∀ ds R, spec__law_told ds R → ds.length = 2 := by
  rintro ds R ⟨n, X, w, tot, rfl, _⟩
  rfl
def m__law_told : DMS :=
  (sSeq (sPar 2 3 (dCons (dBin (f2I fun i j => .int (i - j)) (dBin (f2IC CPow fun i j => .int (i * 2 ^ j.toNat)) (dC (.int 1)) (dBin fIx (dVar 0) (dC (.int 0)))) (dC (.int 1))) (dCons (dLst dNil) dNil)))
  (sSeq (sWhile (dTest (dBin (f2I fun i j => .bool (decide (j < i))) (dVar 2) (dC (.int 0)))) (sSeq (sAsg 4 (dComp (dRng1 (dCons (dBin fIx (dVar 0) (dC (.int 0))) dNil)) (dgName 5) (dTru (dBin (f2I fun i j => .int (Builtin.bitAnd i j)) (dBin (f2IC (fun _ j => 0 ≤ j) fun i j => .int (i / 2 ^ j.toNat)) (dVar 2) (dVar 5)) (dC (.int 1)))) (dSolid (dVar 5)) [5]))
  (sSeq (sAsg 6 (dCall fMinL (dCons (dComp (dItems (dVar 4)) (dgName 5) dYes (dSolid (dKGet (dVar 1) (dBin (f2I fun i j => .int (i - j)) (dVar 2) (dBin (f2IC CPow fun i j => .int (i * 2 ^ j.toNat)) (dC (.int 1)) (dVar 5))))) [5]) dNil)))
  (sSeq (sAppend 3 (dBin fIx (dComp (dItems (dVar 4)) (dgName 5) (dTest (dBin (fEq false) (dKGet (dVar 1) (dBin (f2I fun i j => .int (i - j)) (dVar 2) (dBin (f2IC CPow fun i j => .int (i * 2 ^ j.toNat)) (dC (.int 1)) (dVar 5)))) (dVar 6))) (dSolid (dVar 5)) [5]) (dUn (f1I fun i => .int (-i)) (dC (.int 1)))))
  (sAsg 2 (dBin (f2I fun i j => .int (i - j)) (dVar 2) (dBin (f2IC CPow fun i j => .int (i * 2 ^ j.toNat)) (dC (.int 1)) (dBin fIx (dVar 3) (dUn (f1I fun i => .int (-i)) (dC (.int 1)))))))))) [4, 6])
  (sRet (dCall fTuple (dCons (dRev (dVar 3)) dNil)))))
theorem neg_t : (dUn (f1I fun i => .int (-i)) (dC (.int 1)) : DM) = dC (.int (-1)) := rfl
theorem lst_at {xs : List D} {x : D} : atI (xs ++ [x]) (-1) = some x := by
  unfold atI ixN
  rw [if_neg (by decide), List.length_append, List.length_singleton, if_pos (by omega)]
  have : ((-1 : Int) + ((xs.length + 1 : Nat) : Int)).toNat = xs.length := by omega
  show (xs ++ [x])[((-1 : Int) + ((xs.length + 1 : Nat) : Int)).toNat]? = _
  rw [this, List.getElem?_append_right (Nat.le_refl _), Nat.sub_self]
  rfl
theorem pl__law_told : ∀ ds R, spec__law_told ds R → m__law_told (startE ["code", "worth", "number", "found", "places", "place", "least"] ds) (retE R) := by
  rintro ds R ⟨n, X, w, tot, rfl, hn, h⟩
  unfold m__law_told
  simp only [neg_t]
  have pw : (2 : Nat) ^ n ≤ 2 ^ 16 := Nat.pow_le_pow_right (by decide) hn
  have p0 : 0 < 2 ^ n := Nat.two_pow_pos n
  have e : (1 : Int) * 2 ^ ((n : Nat) : Int).toNat = ((2 ^ n : Nat) : Int) := by rw [Int.toNat_natCast, Int.one_mul]; norm_cast
  walk_at "h"
  rw [e, show ((2 ^ n : Nat) : Int) - 1 = ((2 ^ n - 1 : Nat) : Int) by omega]
  refine ⟨⟨by omega, by omega, by decide⟩, ?_⟩
  walk_at "s"
  refine ⟨fun m ρ => ∃ L : List Nat, m < 2 ^ n ∧ L ++ toldO n w tot m = toldO n w tot (2 ^ n - 1) ∧ ρ = [.val (.tuple [.int ((n : Nat) : Int), X]), .val (.dict (worD n w tot (2 ^ n))), .own (natD m), .own (.list (L.map natD)), .unk, .unk, .unk], ⟨_, [], by omega, rfl, rfl⟩, ?_⟩
  rintro m ρ ⟨L, hm, eL, rfl⟩
  walk_at "h"
  by_cases c0 : m = 0
  · subst c0
    rw [toldO_zero, List.append_nil] at eL
    rw [show decide ((0 : Int) < ((0 : Nat) : Int)) = false from rfl, cond_false]
    walk_at "s"
    rw [eL, ← List.map_reverse]
    exact ⟨solids_nats _, solids_nats _, h⟩
  · rw [show decide ((0 : Int) < ((m : Nat) : Int)) = true from decide_eq_true (by omega), cond_true]
    rw [Int.toNat_natCast, rangeD_nats]
    refine ⟨⟨by omega, by omega⟩, by rw [List.length_map, List.length_range]; omega, compD_filter natD (fun p => Nat.testBit m p) (fun p hp k k0 h1 h0 => ?_) ?_⟩
    · have hp := List.mem_range.mp hp
      walk_at "h"
      refine ⟨by omega, ?_⟩
      rw [Int.toNat_natCast, bit_and]
      cases g : Nat.testBit m p
      · exact h0 g
      · exact h1 g
    have ep : ((List.range n).filter fun p => Nat.testBit m p) = ptsN n m := rfl
    rw [ep]
    have ne := pts_any (n := n) (x := m) (by omega) hm
    have lp := pts_len n m
    have fd : ∀ p ∈ ptsN n m, (1 : Int) * 2 ^ ((p : Nat) : Int).toNat = ((2 ^ p : Nat) : Int) ∧ ((m : Nat) : Int) - ((2 ^ p : Nat) : Int) = ((m - 2 ^ p : Nat) : Int) ∧ m - 2 ^ p < 2 ^ n ∧ p < n := fun p hp => by
      have lt := (pts_sub hp).1
      have ge : 2 ^ p ≤ m := Nat.ge_two_pow_of_testBit (mem_pts.mp hp).2
      exact ⟨by rw [Int.toNat_natCast, Int.one_mul]; norm_cast, by omega, by omega, (mem_pts.mp hp).1⟩
    obtain ⟨t1, t2, t3, t4⟩ := lastW_ok (w := w) (tot := tot) (show 0 < m by omega) hm
    walk_at "s"
    refine ⟨by rw [List.length_map]; omega, compD_map (fun p => .int (bestN n w tot (m - 2 ^ p))) (fun p hp k k0 hk => ?_) ?_⟩
    · obtain ⟨f1, f2, f3, f4⟩ := fd p hp
      walk_at "h"
      rw [f1, f2]
      exact ⟨worD n w tot (2 ^ n), .inl ⟨rfl, worD_plain _ _ _ _⟩, ⟨by omega, by omega, by decide⟩, keyOk_nat _, worD_homog _ _ _ _ _, _, worD_at f3, solid_int _, hk⟩
    refine ⟨(ptsN n m).map fun p => bestN n w tot (m - 2 ^ p), by rw [List.map_map]; rfl, by rw [List.length_map]; exact List.length_pos_iff.mpr ne, fun mn h1 h2 => ?_⟩
    have em : mn = leastB n w tot m := minI_is h1 h2
    rw [em]
    walk_at "s"
    refine ⟨by rw [List.length_map]; omega, compD_filter natD (fun p => bestN n w tot (m - 2 ^ p) == leastB n w tot m) (fun p hp k k0 h1 h0 => ?_) ?_⟩
    · obtain ⟨f1, f2, f3, f4⟩ := fd p hp
      walk_at "h"
      rw [f1, f2]
      refine ⟨worD n w tot (2 ^ n), .inl ⟨rfl, worD_plain _ _ _ _⟩, ⟨by omega, by omega, by decide⟩, keyOk_nat _, worD_homog _ _ _ _ _, _, worD_at f3, fEq_int ?_⟩
      simp only [Bool.false_eq_true, if_false]
      cases g : bestN n w tot (m - 2 ^ p) == leastB n w tot m
      · exact h0 g
      · exact h1 g
    obtain ⟨A, eA⟩ : ∃ A, (ptsN n m).filter (fun p => bestN n w tot (m - 2 ^ p) == leastB n w tot m) = A ++ [lastW n w tot m] := by
      have hin : lastW n w tot m ∈ (ptsN n m).filter fun p => bestN n w tot (m - 2 ^ p) == leastB n w tot m := List.mem_filter.mpr ⟨t1, by rw [beq_iff_eq]; exact t2⟩
      have nf := List.ne_nil_of_mem hin
      have el : lastW n w tot m = ((ptsN n m).filter fun p => bestN n w tot (m - 2 ^ p) == leastB n w tot m).getLast nf := by
        unfold lastW
        rw [List.getLast?_eq_some_getLast nf]
        rfl
      rw [el]
      exact ⟨_, (List.dropLast_concat_getLast nf).symm⟩
    rw [eA, List.map_append]
    refine ⟨_, lst_at, ?_⟩
    have lL : L.length ≤ n := by
      have ok := toldO_ok (w := w) (tot := tot) (2 ^ n - 1) (show 2 ^ n - 1 < 2 ^ n by omega)
      have := pigeon n _ ok.1 fun q hq => pts_lt q ((ok.2 q).mp hq)
      rw [← eL, List.length_append] at this
      omega
    refine ⟨by rw [List.length_map]; omega, ?_⟩
    walk_at "s"
    refine ⟨_, lst_at, ?_⟩
    obtain ⟨f1, f2, f3, f4⟩ := fd _ t1
    have lt := (pts_sub t1).1
    dsimp only
    rw [f1, f2]
    refine ⟨⟨by omega, by omega, by decide⟩, _, lt, L ++ [lastW n w tot m], by omega, ?_, ?_⟩
    · rw [List.append_assoc, ← eL, toldO_step (by omega) hm]
      rfl
    · rw [List.map_append]
      rfl
theorem at__law_told (T : Tx K mg) : FnAt P w K mg base "_law_told" 1 2 (spD K spec__law_told) := by
  obtain ⟨f, fd, hm, F⟩ := T.f__law_told
  refine fnAt_of hm F rfl (F.binds (ps := ["code", "worth"]) fun _ _ _ _ _ _ us hl => match us, hl with | [_, _], _ => rfl) (fnG_of F sc__law_told (spD_len len__law_told) fun cdv A outer s H vs Q E hr hg h => ?_)
  exact body_of (m := fun _ => m__law_told) ["code", "worth", "number", "found", "places", "place", "least"]
    ((pss_cons (ps_asg (pe_tupF (pa_cons (pe_op op_sub (pe_op op_shl pe_int (pe_ix ix_seq (pv 0) pe_int (fun _ _ => rfl))) pe_int) (pa_cons (pe_lst pa_nil) pa_nil))) (pg_tup rfl (pgs_cons (pg_name (i := 2) sc__law_told.nd rfl (by first | exact Or.inl rfl | exact Or.inr rfl)) (pgs_cons (pg_name (i := 3) sc__law_told.nd rfl (by first | exact Or.inl rfl | exact Or.inr rfl)) pgs_nil))))
      (pss_cons (ps_while PassesOwn.never (pt_cmpR op_gt (pv 2) pe_int (nomark _)) (pss_cons (ps_setLc (i := 4) (own := [("place", 5)]) rfl sc__law_told.nd rfl rfl (sw_true rfl rfl rfl (by decide +kernel)) (pi_range1 (by rfl) T.b_range (pa_cons (pe_ix ix_seq (pv 0) pe_int (fun _ _ => rfl)) pa_nil)) (blkOk_by (N := ["code", "worth", "number", "found", "places", "place", "least"]) (sc := defScope s__law_told) (by decide +kernel)) (fun _ _ _ _ _ => (pg_name (i := 5) sc__law_told.nd rfl (by first | exact Or.inl rfl | exact Or.inr rfl))) (fun _ _ _ _ _ => (pts_one (pt_truth (pe_op op_and (pe_op op_shr (pv 2) (pv 5)) pe_int) (fun _ => rfl)))) (fun _ _ _ _ _ => (pv 5)))
      (pss_cons (ps_set (i := 6) sc__law_told.nd rfl (by first | exact Or.inl rfl | exact Or.inr rfl) (pe_callB (cr_min rfl) (by rfl) T.b_min (by decide +kernel) (pa_cons (pe_lc (own := [("place", 5)]) rfl sc__law_told.nd (pi_seq (pv 4)) (blkOk_by (N := ["code", "worth", "number", "found", "places", "place", "least"]) (sc := defScope s__law_told) (by decide +kernel)) (fun _ _ _ _ _ => (pg_name (i := 5) sc__law_told.nd rfl (by first | exact Or.inl rfl | exact Or.inr rfl))) (fun _ _ _ _ _ => pts_nil) (fun _ _ _ _ _ => (pe_xget hr.units (pv 1) (pe_op op_sub (pv 2) (pe_op op_shl pe_int (pv 5))) (fun _ _ => rfl)))) pa_nil)))
      (pss_cons (ps_expr (pe_bm PySem.F.plainAttrs_list PySem.F.slot_list_append PySem.F.type_list_append mt_append (pv 3) (pa_cons (pe_ix ix_seq (pe_lc (own := [("place", 5)]) rfl sc__law_told.nd (pi_seq (pv 4)) (blkOk_by (N := ["code", "worth", "number", "found", "places", "place", "least"]) (sc := defScope s__law_told) (by decide +kernel)) (fun _ _ _ _ _ => (pg_name (i := 5) sc__law_told.nd rfl (by first | exact Or.inl rfl | exact Or.inr rfl))) (fun _ _ _ _ _ => (pts_one (pt_cmpR (op_eqZ hr.units) (pe_xget hr.units (pv 1) (pe_op op_sub (pv 2) (pe_op op_shl pe_int (pv 5))) (fun _ _ => rfl)) (pv 6) (nomark _)))) (fun _ _ _ _ _ => (pv 5))) (pe_un un_neg pe_int) (fun _ _ => rfl)) pa_nil)))
      (pss_one (ps_set (i := 2) sc__law_told.nd rfl (by first | exact Or.inl rfl | exact Or.inr rfl) (pe_op op_sub (pv 2) (pe_op op_shl pe_int (pe_ix ix_seq (pv 3) (pe_un un_neg pe_int) (fun _ _ => rfl))))))))))
      (pss_one (ps_ret (pe_callTy call_tupF (by rfl) T.b_tuple (by decide +kernel) (pa_cons (pe_revZ (pv 3)) pa_nil)))))))
    (fun S => (ds_seq (ds_parG 2 3 (da_cons (de_op od_I0 (de_op od_IC de_int (de_opA oa_ix (de_var 0) de_int)) de_int) (da_cons (de_lst da_nil) da_nil)))
      (ds_seq (ds_while (F := [4, 6]) (dt_val (de_op od_B0 (de_var 2) de_int)) (ds_seq (ds_asg 4 (de_lc (di_rng1 (da_cons (de_opA oa_ix (de_var 0) de_int) da_nil)) (dg_name 5) (dt_tru (de_op od_I0 (de_op od_IC (de_var 2) (de_var 5)) de_int)) (de_solid (de_var 5)) (by decide)))
      (ds_seq (ds_asg 6 (de_cb cd_minL (da_cons (de_lc (di_seq (de_var 4)) (dg_name 5) dt_yes (de_solid (de_kget (de_var 1) (de_op od_I0 (de_var 2) (de_op od_IC de_int (de_var 5))))) (by decide)) da_nil)))
      (ds_seq (ds_append 3 (de_opA oa_ix (de_lc (di_seq (de_var 4)) (dg_name 5) (dt_val (de_op od_eq (de_kget (de_var 1) (de_op od_I0 (de_var 2) (de_op od_IC de_int (de_var 5)))) (de_var 6))) (de_solid (de_var 5)) (by decide)) (de_un ud_I de_int)))
      (ds_asg 2 (de_op od_I0 (de_var 2) (de_op od_IC de_int (de_opA oa_ix (de_var 3) (de_un ud_I de_int)))))))))
      (ds_ret (de_cb cd_tuple (da_cons (de_rev (de_var 3)) da_nil)))))) h (fun S ds R hs => pl__law_told ds R hs)
def m_law : DMS :=
  (sSeq (sFor (dRng1 (dCons (dC (.int 3)) dNil)) (dgName 2) (sSeq (sAsg 3 (dBin fAdd (dC (.int 1)) (dCall spec__law_pick (dCons (dVar 1) (dCons (dBin fIx (dLst (dCons (dC (.int 4)) (dCons (dC (.int 6)) (dCons (dCall spec__law_of (dCons (dVar 1) (dCons (dLst (dCons (dC (.int 6)) (dCons (dC (.int 7)) (dCons (dC (.int 8)) dNil)))) dNil))) dNil)))) (dVar 2)) dNil)))))
  (sSeq (sAsg 4 (dCall spec__law_code (dCons (dVar 1) (dCons (dVar 3) (dCons (dC (.int 8)) dNil)))))
  (sSeq (sPar 5 6 (dCons (dCall fRepr (dCons (dVar 4) dNil)) (dCons (dLst (dCons (dCall spec_best_order (dCons (dVar 4) dNil)) (dCons (dCall spec_total_order (dCons (dVar 4) dNil)) dNil))) dNil)))
  (sSeq (sAsg 7 (dLst (dCons (dCall spec__law_told (dCons (dVar 4) (dCons (dCall spec__law_best (dCons (dVar 4) (dCons (dC (.bool false)) dNil))) dNil))) (dCons (dCall spec__law_told (dCons (dVar 4) (dCons (dCall spec__law_best (dCons (dVar 4) (dCons (dC (.bool true)) dNil))) dNil))) dNil))))
  (sSeq (sIf (dOr (dTest (dBin (fEq true) (dCall fRepr (dCons (dVar 6) dNil)) (dCall fRepr (dCons (dVar 7) dNil)))) (dTest (dBin (fEq true) (dCall fRepr (dCons (dVar 4) dNil)) (dVar 5)))) (sRet (dC (.bool false))) sNext)
  (sIf (dOr (dTest (dBin (fEq true) (dCall spec_widest (dCons (dVar 4) (dCons (dBin fIx (dVar 6) (dC (.int 0))) dNil))) (dCall spec_least_widest (dCons (dVar 4) dNil)))) (dTest (dBin (fEq true) (dCall spec_total_width (dCons (dVar 4) (dCons (dBin fIx (dVar 6) (dC (.int 1))) dNil))) (dCall spec_least_total (dCons (dVar 4) dNil))))) (sRet (dC (.bool false))) sNext)))))) [2, 3, 4, 5, 6, 7] [2, 3, 4, 5, 6, 7])
  (sRet (dBin (fEq false) (dCall spec_best_order (dCons (dTup (dCons (dC (.int 4)) (dCons (dTup (dCons (dTup (dCons (dC (.int 1)) (dCons (dC (.int 0)) (dCons (dC (.int 1)) (dCons (dC (.int 0)) dNil))))) (dCons (dTup (dCons (dC (.int 0)) (dCons (dC (.int 1)) (dCons (dC (.int 0)) (dCons (dC (.int 1)) dNil))))) dNil))) dNil))) dNil)) (dTup (dCons (dC (.int 0)) (dCons (dC (.int 2)) (dCons (dC (.int 1)) (dCons (dC (.int 3)) dNil))))))))
theorem size_at {i : Nat} {d : Int} (h : i < 3) (hd : d = 6 ∨ d = 7 ∨ d = 8) : ∃ most : Nat, atI [(.int 4 : D), .int 6, .int d] (i : Int) = some (.int (most : Nat)) ∧ 1 ≤ most ∧ most ≤ 8 := by
  match i, h with
  | 0, _ => exact ⟨4, rfl, by decide, by decide⟩
  | 1, _ => exact ⟨6, rfl, by decide, by decide⟩
  | 2, _ => exact ⟨d.toNat, by rcases hd with rfl | rfl | rfl <;> rfl, by omega, by omega⟩
theorem pl_law : m_law (startL 6) lawE := by
  unfold m_law
  walk_at "h"
  refine ⟨by omega, ?_⟩
  refine forD_nx (fun i ρ => ρ = [.unk, .val srcD, .unk, .unk, .unk, .unk, .unk, .unk]) _ 0 _ rfl ?_ ?_
  · rintro i x ρ E hx rfl hN
    obtain ⟨hi, rfl⟩ := range_at hx
    walk_at "h"
    refine ⟨[.int 6, .int 7, .int 8], .inl rfl, by decide, by decide, by decide, fun y hy => ?_⟩
    obtain ⟨d, rfl, hd⟩ : ∃ d : Int, y = .int d ∧ (d = 6 ∨ d = 7 ∨ d = 8) := by
      simp only [List.mem_cons, List.not_mem_nil, or_false] at hy
      rcases hy with rfl | rfl | rfl
      · exact ⟨6, rfl, .inl rfl⟩
      · exact ⟨7, rfl, .inr (.inl rfl)⟩
      · exact ⟨8, rfl, .inr (.inr rfl)⟩
    obtain ⟨most, em, m1, m2⟩ := size_at hi hd
    try walk_at "h"
    refine ⟨_, em, most, rfl, by omega, fun a a0 a1 => ?_⟩
    obtain ⟨n, rfl⟩ : ∃ n : Nat, a = (n : Int) := ⟨a.toNat, by omega⟩
    have en : (1 : Int) + n = ((n + 1 : Nat) : Int) := by omega
    have hn : n ≤ 7 := by omega
    walk_at "h"
    rw [en]
    walk_at "s"
    refine ⟨n, 8, rfl, by omega, by omega, fun B hB iB hl => ?_⟩
    clear em en hd
    have lBn := ind_count hB iB
    have okc : Ok 40 10000000 (.tuple [.int ((n + 1 : Nat) : Int), .tuple (rowsD B)]) := (Ok.tuple (k := 2) (w := 8 * (8 * 15 + 5) + 3) (n := 2) (fun d hd => by
      rcases List.mem_cons.mp hd with rfl | hd
      · exact (Ok.int (by omega)).mono (by decide) (by decide)
      · rw [List.mem_singleton.mp hd]
        exact ok_rowsD (fun r hr => by rw [hB r hr]; omega) (by omega)) (by simp)).mono (by decide) (by decide)
    have p0 : 0 < 2 ^ (n + 1) := Nat.two_pow_pos (n + 1)
    obtain ⟨o, ho⟩ : ∃ o : Bool → List Nat, ∀ tot, (toldO (n + 1) (fun x => wdP (n + 1) B (ptsN (n + 1) x)) tot (2 ^ (n + 1) - 1)).reverse = o tot := ⟨_, fun _ => rfl⟩
    have oc : ∀ tot, costL tot (wds (n + 1) B (o tot)) = bestN (n + 1) (fun x => wdP (n + 1) B (ptsN (n + 1) x)) tot (2 ^ (n + 1) - 1) ∧ (o tot).Nodup ∧ (∀ p ∈ o tot, p < n + 1) ∧ (o tot).length = n + 1 := fun tot => by
      obtain ⟨a, b⟩ := toldO_ok (n := n + 1) (w := fun x => wdP (n + 1) B (ptsN (n + 1) x)) (tot := tot) (2 ^ (n + 1) - 1) (by omega)
      have nd : (o tot).Nodup := by rw [← ho]; exact (List.reverse_perm _).nodup_iff.mpr a
      have mem : ∀ q, q ∈ o tot ↔ q ∈ List.range (n + 1) := fun q => by rw [← ho, List.mem_reverse, b, pts_fullN]
      have l : (o tot).length = n + 1 := by
        rw [((List.perm_ext_iff_of_nodup nd List.nodup_range).mpr mem).length_eq, List.length_range]
      refine ⟨?_, nd, fun p hp => List.mem_range.mp ((mem p).mp hp), l⟩
      rw [wds_pre l, ← ho]
      exact told_cost (wd_nil hB iB) (fun P Q h => wd_same hB iB h) tot _ (by omega)
    have oko : ∀ tot, Ok 1 (8 * 15 + 3) (.tuple ((o tot).map natD)) := fun tot => ok_nats (fun q hq => by have := (oc tot).2.2.1 q hq; omega) (by have := (oc tot).2.2.2; omega)
    have okl : Ok 40 10000000 (.list [.tuple ((o false).map natD), .tuple ((o true).map natD)]) := (Ok.list (k := 1) (w := 8 * 15 + 3) (n := 2) (fun d hd => by
      simp only [List.mem_cons, List.not_mem_nil, or_false] at hd
      rcases hd with rfl | rfl
      · exact oko false
      · exact oko true) (by simp)).mono (by decide) (by decide)
    walk_at "s"
    refine ⟨okc, n + 1, B, rfl, hB, iB, by omega, by omega, ?_⟩
    rw [ho]
    refine ⟨n + 1, B, rfl, hB, iB, by omega, by omega, ?_⟩
    rw [ho]
    walk_at "s"
    refine ⟨n, B, false, rfl, hB, iB, by omega, n + 1, _, _, false, rfl, by omega, ?_⟩
    rw [ho]
    refine ⟨n, B, true, rfl, hB, iB, by omega, n + 1, _, _, true, rfl, by omega, ?_⟩
    rw [ho]
    walk_at "s"
    refine ⟨okl, okl, fEq_eq ?_⟩
    walk_at "h"
    refine ⟨okc, fEq_eq ?_⟩
    walk_at "h"
    obtain ⟨c1, c2, c3, c4⟩ := oc false
    obtain ⟨d1, d2, d3, d4⟩ := oc true
    have z0 : (0 : Int) ∈ wds (n + 1) B (o false) := by
      rw [wds_pre c4, ← wd_nil hB iB]
      exact preW_zero _ _
    walk_at "s"
    refine ⟨n, B, _, rfl, hB, iB, c2, c3, by omega, by omega, _, rfl, List.length_pos_of_mem z0, fun m h1 h2 => ?_⟩
    rw [max_cost z0 h1 h2, c1]
    refine ⟨n + 1, B, rfl, hB, iB, by omega, by omega, fEq_int ?_⟩
    simp only [if_true, beq_self_eq_true, Bool.not_true, cond_false]
    refine ⟨n, B, _, rfl, hB, iB, d2, d3, by omega, by omega, ?_⟩
    have es : (wds (n + 1) B (o true)).sum = costL true (wds (n + 1) B (o true)) := by
      unfold costL
      rw [costL_sum]
      omega
    rw [es, d1]
    refine ⟨n + 1, B, rfl, hB, iB, by omega, by omega, fEq_int ?_⟩
    simp only [if_true, beq_self_eq_true, Bool.not_true, cond_false]
    exact hN _ rfl
  · rintro ρ rfl
    walk_at "h"
    walk_at "s"
    have iB : Ind 4 [[true, false, true, false], [false, true, false, true]] := (ind_rk (by unfold Len; decide)).mpr (by decide +kernel)
    refine ⟨4, [[true, false, true, false], [false, true, false, true]], rfl, by unfold Len; decide, iB, by decide, by decide, ?_⟩
    have e1 : (toldO 4 (fun x => wdP 4 [[true, false, true, false], [false, true, false, true]] (ptsN 4 x)) false (2 ^ 4 - 1)).reverse = [0, 2, 1, 3] := by
      have s1 : lastW 4 (fun x => wdP 4 [[true, false, true, false], [false, true, false, true]] (ptsN 4 x)) false 15 = 3 := by decide +kernel
      have s2 : lastW 4 (fun x => wdP 4 [[true, false, true, false], [false, true, false, true]] (ptsN 4 x)) false 7 = 1 := by decide +kernel
      have s3 : lastW 4 (fun x => wdP 4 [[true, false, true, false], [false, true, false, true]] (ptsN 4 x)) false 5 = 2 := by decide +kernel
      have s4 : lastW 4 (fun x => wdP 4 [[true, false, true, false], [false, true, false, true]] (ptsN 4 x)) false 1 = 0 := by decide +kernel
      rw [show 2 ^ 4 - 1 = 15 from rfl, toldO_step (by decide) (by decide), s1, show 15 - 2 ^ 3 = 7 from rfl, toldO_step (by decide) (by decide), s2, show 7 - 2 ^ 1 = 5 from rfl, toldO_step (by decide) (by decide), s3, show 5 - 2 ^ 2 = 1 from rfl, toldO_step (by decide) (by decide), s4, show 1 - 2 ^ 0 = 0 from rfl, toldO_zero]
      rfl
    rw [e1]
    refine fEq_natsT (M := [0, 2, 1, 3]) ?_
    simp
set_option maxHeartbeats 0 in
theorem fn_law (T : Tx K mg) {f : Addr} {fd : FuncData} (F : Fun K "law" "law" s_law f fd) : FnG P w K mg base 8 f fd ["script"] (spLaw K) := by
  refine fnG_of F sc_law (fun vs H Q E h => by obtain ⟨a, ns, rfl, _⟩ := h; rfl) fun cdv A outer s H vs Q E hr hg h => ?_
  exact law_of (K := K) (m := m_law) ["script", "source", "lap", "n", "code", "seen", "told", "due"] rfl
    (pss_cons (ps_set (i := 1) sc_law.nd rfl (by first | exact Or.inl rfl | exact Or.inr rfl) (pe_callG (at__law_source T) (hr.mono (by decide)) hg (by rfl) (pa_cons (pv 0) pa_nil)))
      (pss_cons (ps_for PassesOwn.never rfl (pi_range1 (by rfl) T.b_range (pa_cons pe_int pa_nil)) (pg_name (i := 2) sc_law.nd rfl (by first | exact Or.inl rfl | exact Or.inr rfl)) (pss_cons (ps_set (i := 3) sc_law.nd rfl (by first | exact Or.inl rfl | exact Or.inr rfl) (pe_op op_addZ pe_int (pe_callG (at__law_pick T) (hr.mono (by decide)) hg (by rfl) (pa_cons (pv 1) (pa_cons (pe_ix ix_seq (pe_lst (pa_cons pe_int (pa_cons pe_int (pa_cons (pe_callG (at__law_of T) (hr.mono (by decide)) hg (by rfl) (pa_cons (pv 1) (pa_cons (pe_lst (pa_cons pe_int (pa_cons pe_int (pa_cons pe_int pa_nil)))) pa_nil))) pa_nil)))) (pv 2) (fun _ _ => rfl)) pa_nil)))))
      (pss_cons (ps_set (i := 4) sc_law.nd rfl (by first | exact Or.inl rfl | exact Or.inr rfl) (pe_callG (at__law_code T) (hr.mono (by decide)) hg (by rfl) (pa_cons (pv 1) (pa_cons (pv 3) (pa_cons pe_int pa_nil)))))
      (pss_cons (ps_par (i := 5) (j := 6) rfl sc_law.nd rfl rfl (by decide) rfl rfl (pa_cons (pe_callB (cr_repr hg hr.units) (by rfl) T.b_repr (by decide +kernel) (pa_cons (pv 4) pa_nil)) (pa_cons (pe_lst (pa_cons (pe_callG (at_best_order T) (hr.mono (by decide)) hg (by rfl) (pa_cons (pv 4) pa_nil)) (pa_cons (pe_callG (at_total_order T) (hr.mono (by decide)) hg (by rfl) (pa_cons (pv 4) pa_nil)) pa_nil))) pa_nil)) (by rfl))
      (pss_cons (ps_set (i := 7) sc_law.nd rfl (by first | exact Or.inl rfl | exact Or.inr rfl) (pe_lst (pa_cons (pe_callG (at__law_told T) (hr.mono (by decide)) hg (by rfl) (pa_cons (pv 4) (pa_cons (pe_callG (at__law_best T) (hr.mono (by decide)) hg (by rfl) (pa_cons (pv 4) (pa_cons pe_bl pa_nil))) pa_nil))) (pa_cons (pe_callG (at__law_told T) (hr.mono (by decide)) hg (by rfl) (pa_cons (pv 4) (pa_cons (pe_callG (at__law_best T) (hr.mono (by decide)) hg (by rfl) (pa_cons (pv 4) (pa_cons pe_bl pa_nil))) pa_nil))) pa_nil))))
      (pss_cons (ps_if (PW.pt (pw_or (pt_cmpR (op_neZ hr.units) (pe_callB (cr_repr hg hr.units) (by rfl) T.b_repr (by decide +kernel) (pa_cons (pv 6) pa_nil)) (pe_callB (cr_repr hg hr.units) (by rfl) T.b_repr (by decide +kernel) (pa_cons (pv 7) pa_nil)) (nomark _)) (pw_or1 (pt_cmpR (op_neZ hr.units) (pe_callB (cr_repr hg hr.units) (by rfl) T.b_repr (by decide +kernel) (pa_cons (pv 4) pa_nil)) (pv 5) (nomark _))))) (pss_one (ps_ret pe_bl)) pss_nil)
      (pss_one (ps_if (PW.pt (pw_or (pt_cmpR (op_neZ hr.units) (pe_callG (at_widest T) (hr.mono (by decide)) hg (by rfl) (pa_cons (pv 4) (pa_cons (pe_ix ix_seq (pv 6) pe_int (fun _ _ => rfl)) pa_nil))) (pe_callG (at_least_widest T) (hr.mono (by decide)) hg (by rfl) (pa_cons (pv 4) pa_nil)) (nomark _)) (pw_or1 (pt_cmpR (op_neZ hr.units) (pe_callG (at_total_width T) (hr.mono (by decide)) hg (by rfl) (pa_cons (pv 4) (pa_cons (pe_ix ix_seq (pv 6) pe_int (fun _ _ => rfl)) pa_nil))) (pe_callG (at_least_total T) (hr.mono (by decide)) hg (by rfl) (pa_cons (pv 4) pa_nil)) (nomark _))))) (pss_one (ps_ret pe_bl)) pss_nil))))))))
      (pss_one (ps_ret (pe_cmpR (op_eqZ hr.units) (pe_callG (at_best_order T) (hr.mono (by decide)) hg (by rfl) (pa_cons (pe_tupF (pa_cons pe_int (pa_cons (pe_tupF (pa_cons (pe_tupF (pa_cons pe_int (pa_cons pe_int (pa_cons pe_int (pa_cons pe_int pa_nil))))) (pa_cons (pe_tupF (pa_cons pe_int (pa_cons pe_int (pa_cons pe_int (pa_cons pe_int pa_nil))))) pa_nil))) pa_nil))) pa_nil)) (pe_tupF (pa_cons pe_int (pa_cons pe_int (pa_cons pe_int (pa_cons pe_int pa_nil))))) (nomark _))))))
    (fun S => (ds_seq (ds_for (Wg := [2]) (Wb := [3, 4, 5, 6, 7]) (F := [2, 3, 4, 5, 6, 7]) (di_rng1 (da_cons de_int da_nil)) (dg_name 2) (ds_seq (ds_asg 3 (de_op od_add de_int (de_call (da_cons (de_var 1) (da_cons (de_opA oa_ix (de_lst (da_cons de_int (da_cons de_int (da_cons (de_call (da_cons (de_var 1) (da_cons (de_lst (da_cons de_int (da_cons de_int (da_cons de_int da_nil)))) da_nil))) da_nil)))) (de_var 2)) da_nil)))))
      (ds_seq (ds_asg 4 (de_call (da_cons (de_var 1) (da_cons (de_var 3) (da_cons de_int da_nil)))))
      (ds_seq (ds_par 5 6 (da_cons (de_cb cd_repr (da_cons (de_var 4) da_nil)) (da_cons (de_lst (da_cons (de_call (da_cons (de_var 4) da_nil)) (da_cons (de_call (da_cons (de_var 4) da_nil)) da_nil))) da_nil)))
      (ds_seq (ds_asg 7 (de_lst (da_cons (de_call (da_cons (de_var 4) (da_cons (de_call (da_cons (de_var 4) (da_cons de_bl da_nil))) da_nil))) (da_cons (de_call (da_cons (de_var 4) (da_cons (de_call (da_cons (de_var 4) (da_cons de_bl da_nil))) da_nil))) da_nil))))
      (ds_seq (ds_if (dt_or (dt_val (de_op od_eq (de_cb cd_repr (da_cons (de_var 6) da_nil)) (de_cb cd_repr (da_cons (de_var 7) da_nil)))) (dt_val (de_op od_eq (de_cb cd_repr (da_cons (de_var 4) da_nil)) (de_var 5)))) (ds_ret de_bl) ds_next)
      (ds_if (dt_or (dt_val (de_op od_eq (de_call (da_cons (de_var 4) (da_cons (de_opA oa_ix (de_var 6) de_int) da_nil))) (de_call (da_cons (de_var 4) da_nil)))) (dt_val (de_op od_eq (de_call (da_cons (de_var 4) (da_cons (de_opA oa_ix (de_var 6) de_int) da_nil))) (de_call (da_cons (de_var 4) da_nil))))) (ds_ret de_bl) ds_next)))))) (by decide))
      (ds_ret (de_op od_eq (de_call (da_cons (de_tup (da_cons de_int (da_cons (de_tup (da_cons (de_tup (da_cons de_int (da_cons de_int (da_cons de_int (da_cons de_int da_nil))))) (da_cons (de_tup (da_cons de_int (da_cons de_int (da_cons de_int (da_cons de_int da_nil))))) da_nil))) da_nil))) da_nil)) (de_tup (da_cons de_int (da_cons de_int (da_cons de_int (da_cons de_int da_nil))))))))) pl_law h
end
/-! ### the end -/
theorem all_mk {l : PySem.W.OpenLaw} {w : World} {K : PySem.W.Frag} {h : Heap} {mg : Str → Option Value} {fa : Addr} (X : K.In h) (G : h.Ns mainGlobals mg) (hfa : mg "law" = some (.ref fa))
    {f0 : Addr} {od0 an0 : Option Addr} {sl0 : Array (Option Value)} {oc0 kV0 dc0 pm0 cd0 ct0 : Value}
    (a0 : PySem.W.nsIn K mainGlobals "bit_ranks" = some (some (.ref f0))) (l0 : K.lookup f0 = some ⟨oc0, od0, .func (PySem.W.fnOf "bit_ranks" "bit_ranks" (defArgs s_bit_ranks) (defBody s_bit_ranks) (defScope s_bit_ranks) .none kV0 dc0 pm0 an0 cd0 ct0), sl0⟩) (c0 : PySem.W.codeIn K cd0 "bit_ranks" = true) (k0 : PySem.W.keepIn K (.ref f0) = true)
    {f1 : Addr} {od1 an1 : Option Addr} {sl1 : Array (Option Value)} {oc1 kV1 dc1 pm1 cd1 ct1 : Value}
    (a1 : PySem.W.nsIn K mainGlobals "bit_widths" = some (some (.ref f1))) (l1 : K.lookup f1 = some ⟨oc1, od1, .func (PySem.W.fnOf "bit_widths" "bit_widths" (defArgs s_bit_widths) (defBody s_bit_widths) (defScope s_bit_widths) .none kV1 dc1 pm1 an1 cd1 ct1), sl1⟩) (c1 : PySem.W.codeIn K cd1 "bit_widths" = true) (k1 : PySem.W.keepIn K (.ref f1) = true)
    {f2 : Addr} {od2 an2 : Option Addr} {sl2 : Array (Option Value)} {oc2 kV2 dc2 pm2 cd2 ct2 : Value}
    (a2 : PySem.W.nsIn K mainGlobals "least_rows" = some (some (.ref f2))) (l2 : K.lookup f2 = some ⟨oc2, od2, .func (PySem.W.fnOf "least_rows" "least_rows" (defArgs s_least_rows) (defBody s_least_rows) (defScope s_least_rows) .none kV2 dc2 pm2 an2 cd2 ct2), sl2⟩) (c2 : PySem.W.codeIn K cd2 "least_rows" = true) (k2 : PySem.W.keepIn K (.ref f2) = true)
    {f3 : Addr} {od3 an3 : Option Addr} {sl3 : Array (Option Value)} {oc3 kV3 dc3 pm3 cd3 ct3 : Value}
    (a3 : PySem.W.nsIn K mainGlobals "told_order" = some (some (.ref f3))) (l3 : K.lookup f3 = some ⟨oc3, od3, .func (PySem.W.fnOf "told_order" "told_order" (defArgs s_told_order) (defBody s_told_order) (defScope s_told_order) .none kV3 dc3 pm3 an3 cd3 ct3), sl3⟩) (c3 : PySem.W.codeIn K cd3 "told_order" = true) (k3 : PySem.W.keepIn K (.ref f3) = true)
    {f4 : Addr} {od4 an4 : Option Addr} {sl4 : Array (Option Value)} {oc4 kV4 dc4 pm4 cd4 ct4 : Value}
    (a4 : PySem.W.nsIn K mainGlobals "least_widest" = some (some (.ref f4))) (l4 : K.lookup f4 = some ⟨oc4, od4, .func (PySem.W.fnOf "least_widest" "least_widest" (defArgs s_least_widest) (defBody s_least_widest) (defScope s_least_widest) .none kV4 dc4 pm4 an4 cd4 ct4), sl4⟩) (c4 : PySem.W.codeIn K cd4 "least_widest" = true) (k4 : PySem.W.keepIn K (.ref f4) = true)
    {f5 : Addr} {od5 an5 : Option Addr} {sl5 : Array (Option Value)} {oc5 kV5 dc5 pm5 cd5 ct5 : Value}
    (a5 : PySem.W.nsIn K mainGlobals "least_total" = some (some (.ref f5))) (l5 : K.lookup f5 = some ⟨oc5, od5, .func (PySem.W.fnOf "least_total" "least_total" (defArgs s_least_total) (defBody s_least_total) (defScope s_least_total) .none kV5 dc5 pm5 an5 cd5 ct5), sl5⟩) (c5 : PySem.W.codeIn K cd5 "least_total" = true) (k5 : PySem.W.keepIn K (.ref f5) = true)
    {f6 : Addr} {od6 an6 : Option Addr} {sl6 : Array (Option Value)} {oc6 kV6 dc6 pm6 cd6 ct6 : Value}
    (a6 : PySem.W.nsIn K mainGlobals "best_order" = some (some (.ref f6))) (l6 : K.lookup f6 = some ⟨oc6, od6, .func (PySem.W.fnOf "best_order" "best_order" (defArgs s_best_order) (defBody s_best_order) (defScope s_best_order) .none kV6 dc6 pm6 an6 cd6 ct6), sl6⟩) (c6 : PySem.W.codeIn K cd6 "best_order" = true) (k6 : PySem.W.keepIn K (.ref f6) = true)
    {f7 : Addr} {od7 an7 : Option Addr} {sl7 : Array (Option Value)} {oc7 kV7 dc7 pm7 cd7 ct7 : Value}
    (a7 : PySem.W.nsIn K mainGlobals "total_order" = some (some (.ref f7))) (l7 : K.lookup f7 = some ⟨oc7, od7, .func (PySem.W.fnOf "total_order" "total_order" (defArgs s_total_order) (defBody s_total_order) (defScope s_total_order) .none kV7 dc7 pm7 an7 cd7 ct7), sl7⟩) (c7 : PySem.W.codeIn K cd7 "total_order" = true) (k7 : PySem.W.keepIn K (.ref f7) = true)
    {f8 : Addr} {od8 an8 : Option Addr} {sl8 : Array (Option Value)} {oc8 kV8 dc8 pm8 cd8 ct8 : Value}
    (a8 : PySem.W.nsIn K mainGlobals "sum_of" = some (some (.ref f8))) (l8 : K.lookup f8 = some ⟨oc8, od8, .func (PySem.W.fnOf "sum_of" "sum_of" (defArgs s_sum_of) (defBody s_sum_of) (defScope s_sum_of) .none kV8 dc8 pm8 an8 cd8 ct8), sl8⟩) (c8 : PySem.W.codeIn K cd8 "sum_of" = true) (k8 : PySem.W.keepIn K (.ref f8) = true)
    {f9 : Addr} {od9 an9 : Option Addr} {sl9 : Array (Option Value)} {oc9 kV9 dc9 pm9 cd9 ct9 : Value}
    (a9 : PySem.W.nsIn K mainGlobals "first_one" = some (some (.ref f9))) (l9 : K.lookup f9 = some ⟨oc9, od9, .func (PySem.W.fnOf "first_one" "first_one" (defArgs s_first_one) (defBody s_first_one) (defScope s_first_one) .none kV9 dc9 pm9 an9 cd9 ct9), sl9⟩) (c9 : PySem.W.codeIn K cd9 "first_one" = true) (k9 : PySem.W.keepIn K (.ref f9) = true)
    {f10 : Addr} {od10 an10 : Option Addr} {sl10 : Array (Option Value)} {oc10 kV10 dc10 pm10 cd10 ct10 : Value}
    (a10 : PySem.W.nsIn K mainGlobals "told_rows" = some (some (.ref f10))) (l10 : K.lookup f10 = some ⟨oc10, od10, .func (PySem.W.fnOf "told_rows" "told_rows" (defArgs s_told_rows) (defBody s_told_rows) (defScope s_told_rows) .none kV10 dc10 pm10 an10 cd10 ct10), sl10⟩) (c10 : PySem.W.codeIn K cd10 "told_rows" = true) (k10 : PySem.W.keepIn K (.ref f10) = true)
    {f11 : Addr} {od11 an11 : Option Addr} {sl11 : Array (Option Value)} {oc11 kV11 dc11 pm11 cd11 ct11 : Value}
    (a11 : PySem.W.nsIn K mainGlobals "marks_at" = some (some (.ref f11))) (l11 : K.lookup f11 = some ⟨oc11, od11, .func (PySem.W.fnOf "marks_at" "marks_at" (defArgs s_marks_at) (defBody s_marks_at) (defScope s_marks_at) .none kV11 dc11 pm11 an11 cd11 ct11), sl11⟩) (c11 : PySem.W.codeIn K cd11 "marks_at" = true) (k11 : PySem.W.keepIn K (.ref f11) = true)
    {f12 : Addr} {od12 an12 : Option Addr} {sl12 : Array (Option Value)} {oc12 kV12 dc12 pm12 cd12 ct12 : Value}
    (a12 : PySem.W.nsIn K mainGlobals "seen_at" = some (some (.ref f12))) (l12 : K.lookup f12 = some ⟨oc12, od12, .func (PySem.W.fnOf "seen_at" "seen_at" (defArgs s_seen_at) (defBody s_seen_at) (defScope s_seen_at) .none kV12 dc12 pm12 an12 cd12 ct12), sl12⟩) (c12 : PySem.W.codeIn K cd12 "seen_at" = true) (k12 : PySem.W.keepIn K (.ref f12) = true)
    {f13 : Addr} {od13 an13 : Option Addr} {sl13 : Array (Option Value)} {oc13 kV13 dc13 pm13 cd13 ct13 : Value}
    (a13 : PySem.W.nsIn K mainGlobals "rank_at" = some (some (.ref f13))) (l13 : K.lookup f13 = some ⟨oc13, od13, .func (PySem.W.fnOf "rank_at" "rank_at" (defArgs s_rank_at) (defBody s_rank_at) (defScope s_rank_at) .none kV13 dc13 pm13 an13 cd13 ct13), sl13⟩) (c13 : PySem.W.codeIn K cd13 "rank_at" = true) (k13 : PySem.W.keepIn K (.ref f13) = true)
    {f14 : Addr} {od14 an14 : Option Addr} {sl14 : Array (Option Value)} {oc14 kV14 dc14 pm14 cd14 ct14 : Value}
    (a14 : PySem.W.nsIn K mainGlobals "others_of" = some (some (.ref f14))) (l14 : K.lookup f14 = some ⟨oc14, od14, .func (PySem.W.fnOf "others_of" "others_of" (defArgs s_others_of) (defBody s_others_of) (defScope s_others_of) .none kV14 dc14 pm14 an14 cd14 ct14), sl14⟩) (c14 : PySem.W.codeIn K cd14 "others_of" = true) (k14 : PySem.W.keepIn K (.ref f14) = true)
    {f15 : Addr} {od15 an15 : Option Addr} {sl15 : Array (Option Value)} {oc15 kV15 dc15 pm15 cd15 ct15 : Value}
    (a15 : PySem.W.nsIn K mainGlobals "width" = some (some (.ref f15))) (l15 : K.lookup f15 = some ⟨oc15, od15, .func (PySem.W.fnOf "width" "width" (defArgs s_width) (defBody s_width) (defScope s_width) .none kV15 dc15 pm15 an15 cd15 ct15), sl15⟩) (c15 : PySem.W.codeIn K cd15 "width" = true) (k15 : PySem.W.keepIn K (.ref f15) = true)
    {f16 : Addr} {od16 an16 : Option Addr} {sl16 : Array (Option Value)} {oc16 kV16 dc16 pm16 cd16 ct16 : Value}
    (a16 : PySem.W.nsIn K mainGlobals "widths" = some (some (.ref f16))) (l16 : K.lookup f16 = some ⟨oc16, od16, .func (PySem.W.fnOf "widths" "widths" (defArgs s_widths) (defBody s_widths) (defScope s_widths) .none kV16 dc16 pm16 an16 cd16 ct16), sl16⟩) (c16 : PySem.W.codeIn K cd16 "widths" = true) (k16 : PySem.W.keepIn K (.ref f16) = true)
    {f17 : Addr} {od17 an17 : Option Addr} {sl17 : Array (Option Value)} {oc17 kV17 dc17 pm17 cd17 ct17 : Value}
    (a17 : PySem.W.nsIn K mainGlobals "widest" = some (some (.ref f17))) (l17 : K.lookup f17 = some ⟨oc17, od17, .func (PySem.W.fnOf "widest" "widest" (defArgs s_widest) (defBody s_widest) (defScope s_widest) .none kV17 dc17 pm17 an17 cd17 ct17), sl17⟩) (c17 : PySem.W.codeIn K cd17 "widest" = true) (k17 : PySem.W.keepIn K (.ref f17) = true)
    {f18 : Addr} {od18 an18 : Option Addr} {sl18 : Array (Option Value)} {oc18 kV18 dc18 pm18 cd18 ct18 : Value}
    (a18 : PySem.W.nsIn K mainGlobals "total_width" = some (some (.ref f18))) (l18 : K.lookup f18 = some ⟨oc18, od18, .func (PySem.W.fnOf "total_width" "total_width" (defArgs s_total_width) (defBody s_total_width) (defScope s_total_width) .none kV18 dc18 pm18 an18 cd18 ct18), sl18⟩) (c18 : PySem.W.codeIn K cd18 "total_width" = true) (k18 : PySem.W.keepIn K (.ref f18) = true)
    {f19 : Addr} {od19 an19 : Option Addr} {sl19 : Array (Option Value)} {oc19 kV19 dc19 pm19 cd19 ct19 : Value}
    (a19 : PySem.W.nsIn K mainGlobals "_law_source" = some (some (.ref f19))) (l19 : K.lookup f19 = some ⟨oc19, od19, .func (PySem.W.fnOf "_law_source" "_law_source" (defArgs s__law_source) (defBody s__law_source) (defScope s__law_source) .none kV19 dc19 pm19 an19 cd19 ct19), sl19⟩) (c19 : PySem.W.codeIn K cd19 "_law_source" = true) (k19 : PySem.W.keepIn K (.ref f19) = true)
    {f20 : Addr} {od20 an20 : Option Addr} {sl20 : Array (Option Value)} {oc20 kV20 dc20 pm20 cd20 ct20 : Value}
    (a20 : PySem.W.nsIn K mainGlobals "_law_pick" = some (some (.ref f20))) (l20 : K.lookup f20 = some ⟨oc20, od20, .func (PySem.W.fnOf "_law_pick" "_law_pick" (defArgs s__law_pick) (defBody s__law_pick) (defScope s__law_pick) .none kV20 dc20 pm20 an20 cd20 ct20), sl20⟩) (c20 : PySem.W.codeIn K cd20 "_law_pick" = true) (k20 : PySem.W.keepIn K (.ref f20) = true)
    {f21 : Addr} {od21 an21 : Option Addr} {sl21 : Array (Option Value)} {oc21 kV21 dc21 pm21 cd21 ct21 : Value}
    (a21 : PySem.W.nsIn K mainGlobals "_law_of" = some (some (.ref f21))) (l21 : K.lookup f21 = some ⟨oc21, od21, .func (PySem.W.fnOf "_law_of" "_law_of" (defArgs s__law_of) (defBody s__law_of) (defScope s__law_of) .none kV21 dc21 pm21 an21 cd21 ct21), sl21⟩) (c21 : PySem.W.codeIn K cd21 "_law_of" = true) (k21 : PySem.W.keepIn K (.ref f21) = true)
    {f22 : Addr} {od22 an22 : Option Addr} {sl22 : Array (Option Value)} {oc22 kV22 dc22 pm22 cd22 ct22 : Value}
    (a22 : PySem.W.nsIn K mainGlobals "_law_mixed" = some (some (.ref f22))) (l22 : K.lookup f22 = some ⟨oc22, od22, .func (PySem.W.fnOf "_law_mixed" "_law_mixed" (defArgs s__law_mixed) (defBody s__law_mixed) (defScope s__law_mixed) .none kV22 dc22 pm22 an22 cd22 ct22), sl22⟩) (c22 : PySem.W.codeIn K cd22 "_law_mixed" = true) (k22 : PySem.W.keepIn K (.ref f22) = true)
    {f23 : Addr} {od23 an23 : Option Addr} {sl23 : Array (Option Value)} {oc23 kV23 dc23 pm23 cd23 ct23 : Value}
    (a23 : PySem.W.nsIn K mainGlobals "_law_number" = some (some (.ref f23))) (l23 : K.lookup f23 = some ⟨oc23, od23, .func (PySem.W.fnOf "_law_number" "_law_number" (defArgs s__law_number) (defBody s__law_number) (defScope s__law_number) .none kV23 dc23 pm23 an23 cd23 ct23), sl23⟩) (c23 : PySem.W.codeIn K cd23 "_law_number" = true) (k23 : PySem.W.keepIn K (.ref f23) = true)
    {f24 : Addr} {od24 an24 : Option Addr} {sl24 : Array (Option Value)} {oc24 kV24 dc24 pm24 cd24 ct24 : Value}
    (a24 : PySem.W.nsIn K mainGlobals "_law_solved" = some (some (.ref f24))) (l24 : K.lookup f24 = some ⟨oc24, od24, .func (PySem.W.fnOf "_law_solved" "_law_solved" (defArgs s__law_solved) (defBody s__law_solved) (defScope s__law_solved) .none kV24 dc24 pm24 an24 cd24 ct24), sl24⟩) (c24 : PySem.W.codeIn K cd24 "_law_solved" = true) (k24 : PySem.W.keepIn K (.ref f24) = true)
    {f25 : Addr} {od25 an25 : Option Addr} {sl25 : Array (Option Value)} {oc25 kV25 dc25 pm25 cd25 ct25 : Value}
    (a25 : PySem.W.nsIn K mainGlobals "_law_code" = some (some (.ref f25))) (l25 : K.lookup f25 = some ⟨oc25, od25, .func (PySem.W.fnOf "_law_code" "_law_code" (defArgs s__law_code) (defBody s__law_code) (defScope s__law_code) .none kV25 dc25 pm25 an25 cd25 ct25), sl25⟩) (c25 : PySem.W.codeIn K cd25 "_law_code" = true) (k25 : PySem.W.keepIn K (.ref f25) = true)
    {f26 : Addr} {od26 an26 : Option Addr} {sl26 : Array (Option Value)} {oc26 kV26 dc26 pm26 cd26 ct26 : Value}
    (a26 : PySem.W.nsIn K mainGlobals "_law_rank" = some (some (.ref f26))) (l26 : K.lookup f26 = some ⟨oc26, od26, .func (PySem.W.fnOf "_law_rank" "_law_rank" (defArgs s__law_rank) (defBody s__law_rank) (defScope s__law_rank) .none kV26 dc26 pm26 an26 cd26 ct26), sl26⟩) (c26 : PySem.W.codeIn K cd26 "_law_rank" = true) (k26 : PySem.W.keepIn K (.ref f26) = true)
    {f27 : Addr} {od27 an27 : Option Addr} {sl27 : Array (Option Value)} {oc27 kV27 dc27 pm27 cd27 ct27 : Value}
    (a27 : PySem.W.nsIn K mainGlobals "_law_others" = some (some (.ref f27))) (l27 : K.lookup f27 = some ⟨oc27, od27, .func (PySem.W.fnOf "_law_others" "_law_others" (defArgs s__law_others) (defBody s__law_others) (defScope s__law_others) .none kV27 dc27 pm27 an27 cd27 ct27), sl27⟩) (c27 : PySem.W.codeIn K cd27 "_law_others" = true) (k27 : PySem.W.keepIn K (.ref f27) = true)
    {f28 : Addr} {od28 an28 : Option Addr} {sl28 : Array (Option Value)} {oc28 kV28 dc28 pm28 cd28 ct28 : Value}
    (a28 : PySem.W.nsIn K mainGlobals "_law_width" = some (some (.ref f28))) (l28 : K.lookup f28 = some ⟨oc28, od28, .func (PySem.W.fnOf "_law_width" "_law_width" (defArgs s__law_width) (defBody s__law_width) (defScope s__law_width) .none kV28 dc28 pm28 an28 cd28 ct28), sl28⟩) (c28 : PySem.W.codeIn K cd28 "_law_width" = true) (k28 : PySem.W.keepIn K (.ref f28) = true)
    {f29 : Addr} {od29 an29 : Option Addr} {sl29 : Array (Option Value)} {oc29 kV29 dc29 pm29 cd29 ct29 : Value}
    (a29 : PySem.W.nsIn K mainGlobals "_law_best" = some (some (.ref f29))) (l29 : K.lookup f29 = some ⟨oc29, od29, .func (PySem.W.fnOf "_law_best" "_law_best" (defArgs s__law_best) (defBody s__law_best) (defScope s__law_best) .none kV29 dc29 pm29 an29 cd29 ct29), sl29⟩) (c29 : PySem.W.codeIn K cd29 "_law_best" = true) (k29 : PySem.W.keepIn K (.ref f29) = true)
    {f30 : Addr} {od30 an30 : Option Addr} {sl30 : Array (Option Value)} {oc30 kV30 dc30 pm30 cd30 ct30 : Value}
    (a30 : PySem.W.nsIn K mainGlobals "_law_told" = some (some (.ref f30))) (l30 : K.lookup f30 = some ⟨oc30, od30, .func (PySem.W.fnOf "_law_told" "_law_told" (defArgs s__law_told) (defBody s__law_told) (defScope s__law_told) .none kV30 dc30 pm30 an30 cd30 ct30), sl30⟩) (c30 : PySem.W.codeIn K cd30 "_law_told" = true) (k30 : PySem.W.keepIn K (.ref f30) = true)
    {f31 : Addr} {od31 an31 : Option Addr} {sl31 : Array (Option Value)} {oc31 kV31 dc31 pm31 cd31 ct31 : Value}
    (a31 : PySem.W.nsIn K mainGlobals "law" = some (some (.ref f31))) (l31 : K.lookup f31 = some ⟨oc31, od31, .func (PySem.W.fnOf "law" "law" (defArgs s_law) (defBody s_law) (defScope s_law) .none kV31 dc31 pm31 an31 cd31 ct31), sl31⟩) (c31 : PySem.W.codeIn K cd31 "law" = true) (k31 : PySem.W.keepIn K (.ref f31) = true)
    (z_abs : PySem.W.nsIn K mainGlobals "abs" = some none)
    (z_dict : PySem.W.nsIn K mainGlobals "dict" = some none)
    (z_enumerate : PySem.W.nsIn K mainGlobals "enumerate" = some none)
    (z_int : PySem.W.nsIn K mainGlobals "int" = some none)
    (z_len : PySem.W.nsIn K mainGlobals "len" = some none)
    (z_list : PySem.W.nsIn K mainGlobals "list" = some none)
    (z_max : PySem.W.nsIn K mainGlobals "max" = some none)
    (z_min : PySem.W.nsIn K mainGlobals "min" = some none)
    (z_range : PySem.W.nsIn K mainGlobals "range" = some none)
    (z_repr : PySem.W.nsIn K mainGlobals "repr" = some none)
    (z_sorted : PySem.W.nsIn K mainGlobals "sorted" = some none)
    (z_sum : PySem.W.nsIn K mainGlobals "sum" = some none)
    (z_tuple : PySem.W.nsIn K mainGlobals "tuple" = some none)
    : ∃ fd : FuncData, (∀ (s : Shared) (v : Value), BindsTo s fd ⟨[v], []⟩ [("script", v)]) ∧ ∀ base : Heap, K.In base → base.Ns mainGlobals mg → FnG l.prog w K mg base 8 fa fd ["script"] (spLaw K) := by
  have T : Tx K mg := ⟨PySem.W.mg_none_of X G z_abs, PySem.W.mg_none_of X G z_dict, PySem.W.mg_none_of X G z_enumerate, PySem.W.mg_none_of X G z_int, PySem.W.mg_none_of X G z_len, PySem.W.mg_none_of X G z_list, PySem.W.mg_none_of X G z_max, PySem.W.mg_none_of X G z_min, PySem.W.mg_none_of X G z_range, PySem.W.mg_none_of X G z_repr, PySem.W.mg_none_of X G z_sorted, PySem.W.mg_none_of X G z_sum, PySem.W.mg_none_of X G z_tuple, ⟨_, _, PySem.W.mg_of X G a0, fun_mk l0 c0 k0⟩, ⟨_, _, PySem.W.mg_of X G a1, fun_mk l1 c1 k1⟩, ⟨_, _, PySem.W.mg_of X G a2, fun_mk l2 c2 k2⟩, ⟨_, _, PySem.W.mg_of X G a3, fun_mk l3 c3 k3⟩, ⟨_, _, PySem.W.mg_of X G a4, fun_mk l4 c4 k4⟩, ⟨_, _, PySem.W.mg_of X G a5, fun_mk l5 c5 k5⟩, ⟨_, _, PySem.W.mg_of X G a6, fun_mk l6 c6 k6⟩, ⟨_, _, PySem.W.mg_of X G a7, fun_mk l7 c7 k7⟩, ⟨_, _, PySem.W.mg_of X G a8, fun_mk l8 c8 k8⟩, ⟨_, _, PySem.W.mg_of X G a9, fun_mk l9 c9 k9⟩, ⟨_, _, PySem.W.mg_of X G a10, fun_mk l10 c10 k10⟩, ⟨_, _, PySem.W.mg_of X G a11, fun_mk l11 c11 k11⟩, ⟨_, _, PySem.W.mg_of X G a12, fun_mk l12 c12 k12⟩, ⟨_, _, PySem.W.mg_of X G a13, fun_mk l13 c13 k13⟩, ⟨_, _, PySem.W.mg_of X G a14, fun_mk l14 c14 k14⟩, ⟨_, _, PySem.W.mg_of X G a15, fun_mk l15 c15 k15⟩, ⟨_, _, PySem.W.mg_of X G a16, fun_mk l16 c16 k16⟩, ⟨_, _, PySem.W.mg_of X G a17, fun_mk l17 c17 k17⟩, ⟨_, _, PySem.W.mg_of X G a18, fun_mk l18 c18 k18⟩, ⟨_, _, PySem.W.mg_of X G a19, fun_mk l19 c19 k19⟩, ⟨_, _, PySem.W.mg_of X G a20, fun_mk l20 c20 k20⟩, ⟨_, _, PySem.W.mg_of X G a21, fun_mk l21 c21 k21⟩, ⟨_, _, PySem.W.mg_of X G a22, fun_mk l22 c22 k22⟩, ⟨_, _, PySem.W.mg_of X G a23, fun_mk l23 c23 k23⟩, ⟨_, _, PySem.W.mg_of X G a24, fun_mk l24 c24 k24⟩, ⟨_, _, PySem.W.mg_of X G a25, fun_mk l25 c25 k25⟩, ⟨_, _, PySem.W.mg_of X G a26, fun_mk l26 c26 k26⟩, ⟨_, _, PySem.W.mg_of X G a27, fun_mk l27 c27 k27⟩, ⟨_, _, PySem.W.mg_of X G a28, fun_mk l28 c28 k28⟩, ⟨_, _, PySem.W.mg_of X G a29, fun_mk l29 c29 k29⟩, ⟨_, _, PySem.W.mg_of X G a30, fun_mk l30 c30 k30⟩, ⟨_, _, PySem.W.mg_of X G a31, fun_mk l31 c31 k31⟩⟩
  have e := hfa.symm.trans (PySem.W.mg_of X G a31)
  cases e
  refine ⟨PySem.W.fnOf "law" "law" (defArgs s_law) (defBody s_law) (defScope s_law) .none kV31 dc31 pm31 an31 cd31 ct31, fun s v => .of_eq rfl, fun base _ _ => ?_⟩
  exact fn_law (P := l.prog) (w := w) (base := base) T (fun_mk l31 c31 k31)
end Z
open PySem PySem.W PyProof.Rows
set_option maxHeartbeats 0 in
theorem PySem.Challenge.cw_spancodes_k78_told_orders_holds : PySem.Challenge.rw_spancodes_k78_told_orders.Holds := by
  w_on; o_law; k_head; (case hw => w_witness2)
  k_fill
  refine Z.walkG (l := PySem.Challenge.rw_spancodes_k78_told_orders) (n := 63) (k := 8) (x := "script") (sp := Z.spLaw) rfl (Z.lim_ok (by decide)) rfl ⟨rfl, by decide, by decide⟩ (fun w h Y => PySem.W.kIn_of Y) ?F (fun K H a ns hl _ hS => ⟨a, ns, rfl, hS, hl, fun _ => rfl⟩)
  case F =>
    intro w mg fa h KX G hmg
    refine' Z.all_mk KX G hmg ?a0 ?l0 ?c0 ?k0 ?a1 ?l1 ?c1 ?k1 ?a2 ?l2 ?c2 ?k2 ?a3 ?l3 ?c3 ?k3 ?a4 ?l4 ?c4 ?k4 ?a5 ?l5 ?c5 ?k5 ?a6 ?l6 ?c6 ?k6 ?a7 ?l7 ?c7 ?k7 ?a8 ?l8 ?c8 ?k8 ?a9 ?l9 ?c9 ?k9 ?a10 ?l10 ?c10 ?k10 ?a11 ?l11 ?c11 ?k11 ?a12 ?l12 ?c12 ?k12 ?a13 ?l13 ?c13 ?k13 ?a14 ?l14 ?c14 ?k14 ?a15 ?l15 ?c15 ?k15 ?a16 ?l16 ?c16 ?k16 ?a17 ?l17 ?c17 ?k17 ?a18 ?l18 ?c18 ?k18 ?a19 ?l19 ?c19 ?k19 ?a20 ?l20 ?c20 ?k20 ?a21 ?l21 ?c21 ?k21 ?a22 ?l22 ?c22 ?k22 ?a23 ?l23 ?c23 ?k23 ?a24 ?l24 ?c24 ?k24 ?a25 ?l25 ?c25 ?k25 ?a26 ?l26 ?c26 ?k26 ?a27 ?l27 ?c27 ?k27 ?a28 ?l28 ?c28 ?k28 ?a29 ?l29 ?c29 ?k29 ?a30 ?l30 ?c30 ?k30 ?a31 ?l31 ?c31 ?k31 ?z_abs ?z_dict ?z_enumerate ?z_int ?z_len ?z_list ?z_max ?z_min ?z_range ?z_repr ?z_sorted ?z_sum ?z_tuple
    (case a0 => k_is)
    (case l0 => k_is)
    (case c0 => k_is)
    (case k0 => k_is)
    (case a1 => k_is)
    (case l1 => k_is)
    (case c1 => k_is)
    (case k1 => k_is)
    (case a2 => k_is)
    (case l2 => k_is)
    (case c2 => k_is)
    (case k2 => k_is)
    (case a3 => k_is)
    (case l3 => k_is)
    (case c3 => k_is)
    (case k3 => k_is)
    (case a4 => k_is)
    (case l4 => k_is)
    (case c4 => k_is)
    (case k4 => k_is)
    (case a5 => k_is)
    (case l5 => k_is)
    (case c5 => k_is)
    (case k5 => k_is)
    (case a6 => k_is)
    (case l6 => k_is)
    (case c6 => k_is)
    (case k6 => k_is)
    (case a7 => k_is)
    (case l7 => k_is)
    (case c7 => k_is)
    (case k7 => k_is)
    (case a8 => k_is)
    (case l8 => k_is)
    (case c8 => k_is)
    (case k8 => k_is)
    (case a9 => k_is)
    (case l9 => k_is)
    (case c9 => k_is)
    (case k9 => k_is)
    (case a10 => k_is)
    (case l10 => k_is)
    (case c10 => k_is)
    (case k10 => k_is)
    (case a11 => k_is)
    (case l11 => k_is)
    (case c11 => k_is)
    (case k11 => k_is)
    (case a12 => k_is)
    (case l12 => k_is)
    (case c12 => k_is)
    (case k12 => k_is)
    (case a13 => k_is)
    (case l13 => k_is)
    (case c13 => k_is)
    (case k13 => k_is)
    (case a14 => k_is)
    (case l14 => k_is)
    (case c14 => k_is)
    (case k14 => k_is)
    (case a15 => k_is)
    (case l15 => k_is)
    (case c15 => k_is)
    (case k15 => k_is)
    (case a16 => k_is)
    (case l16 => k_is)
    (case c16 => k_is)
    (case k16 => k_is)
    (case a17 => k_is)
    (case l17 => k_is)
    (case c17 => k_is)
    (case k17 => k_is)
    (case a18 => k_is)
    (case l18 => k_is)
    (case c18 => k_is)
    (case k18 => k_is)
    (case a19 => k_is)
    (case l19 => k_is)
    (case c19 => k_is)
    (case k19 => k_is)
    (case a20 => k_is)
    (case l20 => k_is)
    (case c20 => k_is)
    (case k20 => k_is)
    (case a21 => k_is)
    (case l21 => k_is)
    (case c21 => k_is)
    (case k21 => k_is)
    (case a22 => k_is)
    (case l22 => k_is)
    (case c22 => k_is)
    (case k22 => k_is)
    (case a23 => k_is)
    (case l23 => k_is)
    (case c23 => k_is)
    (case k23 => k_is)
    (case a24 => k_is)
    (case l24 => k_is)
    (case c24 => k_is)
    (case k24 => k_is)
    (case a25 => k_is)
    (case l25 => k_is)
    (case c25 => k_is)
    (case k25 => k_is)
    (case a26 => k_is)
    (case l26 => k_is)
    (case c26 => k_is)
    (case k26 => k_is)
    (case a27 => k_is)
    (case l27 => k_is)
    (case c27 => k_is)
    (case k27 => k_is)
    (case a28 => k_is)
    (case l28 => k_is)
    (case c28 => k_is)
    (case k28 => k_is)
    (case a29 => k_is)
    (case l29 => k_is)
    (case c29 => k_is)
    (case k29 => k_is)
    (case a30 => k_is)
    (case l30 => k_is)
    (case c30 => k_is)
    (case k30 => k_is)
    (case a31 => k_is)
    (case l31 => k_is)
    (case c31 => k_is)
    (case k31 => k_is)
    (case z_abs => k_is)
    (case z_dict => k_is)
    (case z_enumerate => k_is)
    (case z_int => k_is)
    (case z_len => k_is)
    (case z_list => k_is)
    (case z_max => k_is)
    (case z_min => k_is)
    (case z_range => k_is)
    (case z_repr => k_is)
    (case z_sorted => k_is)
    (case z_sum => k_is)
    (case z_tuple => k_is)
