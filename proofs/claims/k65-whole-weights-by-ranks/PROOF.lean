import PyProof.Rows.All
import Wide.All
import OpenK.AllK
import Wide.FinOn
import HandS.ForMost
import HandS.Walk
import HandS.TupAny
import HandS.TupMul
import HandS.NoneIn
import HandS.Iter
import HandS.Ends
import HandS.Style
import HandS.Conv
import HandS.Deep
import HandS.SortKw
import HandS.Zip
import HandS.Star
import HandS.IsInst
import HandS.Dict
import HandS.Finally
import HandS.WideBits
import HandS.SetKeys
import HandS.Sort
import HandS.RepeatKit
import HandS.More
import HandS.Text
import HandS.TupSets
import KE.KeyNested
import KE.DataEq
import KE.DataCmp
import KE.GoesEnum
import KE.GoesMore
import KE.KIndexOf
import KE.SortData
import KE.GoesEnumKw
import KE.KTupSum
import KE.KDictKeyed
import KE.KDictSum
import KE.KDictCopyH
import KE.DataMinMax
import KE.KBits
import KE.KDictWalk
import KE.KMathGC
import PyProof.ReprRoads
import PyProof.ReprLen
import PyProof.Rows.RowBridgeK
import PyProof.Rows.SetFrom
import PySem.Challenge.RW_spancodes_k65_whole_weights_by_ranks
set_option Elab.async false
set_option linter.all false
set_option maxRecDepth 100000
set_option maxHeartbeats 2000000
/-! Z0: data over the layer. A value stands for PyData with the addresses of its lists; an environment of such; readings of expressions and statements as predicates over environments of data. -/
namespace Z
open PySem L2
abbrev D := PyData
/-- the datum that stands for the law's source -/
def srcD : D := .dict [(.none, .none)]
def isSrc : List (D × D) → Bool
  | [(.none, .none)] => true
  | _ => false
/-- a list that never changes any more: its marked entries -/
def isFrz : List (D × D) → Bool
  | (.bool true, .none) :: _ => true
  | _ => false
def frzK (ds : List D) : List (D × D) := (.bool true, .none) :: ds.map fun d => (.bool true, d)
/-- the datum that stands for a list that never changes any more -/
def frzD (ds : List D) : D := .dict (frzK ds)
theorem frzK_is (ds : List D) : isSrc (frzK ds) = false ∧ isFrz (frzK ds) = true := ⟨by cases ds <;> rfl, rfl⟩
/-- a dict that never changes any more: a mark, then its keys and values -/
def isFrd : List (D × D) → Bool
  | (.bool false, .none) :: _ => true
  | _ => false
def frdK (kvs : List (D × D)) : List (D × D) := (.bool false, .none) :: kvs
def frdD (kvs : List (D × D)) : D := .dict (frdK kvs)
theorem frdK_is (kvs : List (D × D)) : isSrc (frdK kvs) = false ∧ isFrz (frdK kvs) = false ∧ isFrd (frdK kvs) = true := ⟨by cases kvs <;> rfl, rfl, rfl⟩
/-- the program's written part; the addresses of the source's dict and of its list of cells -/
structure Zc where
  K : PySem.W.Frag
  S : Option (Addr × Addr)
def Zc.has (c : Zc) (a : Addr) : Prop := ∃ p, c.S = some p ∧ (a = p.1 ∨ a = p.2)
/-- a key of a dict -/
def keyD : Key → D
  | .inl i => .int i
  | .inr x => .str x
/-! ### keys that are tuples -/
mutual
/-- what a key tells ==: whole numbers, None, tuples of such -/
def nkey : D → Option NestedKey
  | .none => some .none
  | .int i => some (.num i)
  | .tuple xs => (nkeys xs).map .tup
  | .bool _ => none
  | .str _ => none
  | .list _ => none
  | .dict _ => none
def nkeys : List D → Option (List NestedKey)
  | [] => some []
  | x :: xs => match nkey x, nkeys xs with
    | some k, some ks => some (k :: ks)
    | _, _ => none
end
mutual
/-- the hash of a key without texts -/
def hk : NestedKey → Int
  | .none => reduceHash 0xFCA86420
  | .num i => hashInt i
  | .text _ => 0
  | .tup ks => reduceHash (Builtin.Tuple.tupleHashOf (hks ks))
def hks : List NestedKey → List Int
  | [] => []
  | k :: ks => hk k :: hks ks
end
/-- a row of such a dict: the key, where its tuple stands, the value -/
abbrev Row := NestedKey × Addr × V
def RowIs (r : Row) (e : DictEntry) : Prop := e.hash = hk r.1 ∧ e.key = .ref r.2.1 ∧ RelV r.2.2 e.val
/-- a dict whose keys are tuples -/
def dX (a : Addr) (rows : List Row) : HO := .ext fun h => (a == sysModules) = false ∧ rows.length ≤ 10000000 ∧ ∃ o es ep, h.get? a = some o ∧ o.ExactDict ∧ o.data = .dict es ep ∧ Paired RowIs rows es.toList
/-- a dict's object, by its keys and values -/
def DictU (a : Addr) (ks : List D) (ys xs : List V) (u : HO) : Prop :=
  (∃ kk : List Key, ks = kk.map keyD ∧ kk.Nodup ∧ xs.length = kk.length ∧ u = .dK (kk.zip xs)) ∨
  ∃ rows : List Row, rows ≠ [] ∧ ks.map nkey = rows.map (fun r => some r.1) ∧ (∀ r ∈ rows, r.1.depth ≤ 8 ∧ ∃ l, r.1 = .tup l) ∧ ys = rows.map (fun r => .ref r.2.1) ∧ xs = rows.map (fun r => r.2.2) ∧ (rows.map (·.1)).Nodup ∧ u = dX a rows
theorem DictU.not_fix {a : Addr} {ks : List D} {ys xs : List V} {u : HO} (h : DictU a ks ys xs u) : Mut (some u) ∧ (∀ zs, u ≠ .tup zs) ∧ ∀ o z, u ≠ .frz o z := by
  rcases h with ⟨_, _, _, _, rfl⟩ | ⟨_, _, _, _, _, _, _, rfl⟩
  · exact ⟨trivial, fun _ => nofun, fun _ _ => nofun⟩
  · exact ⟨trivial, fun _ => nofun, fun _ _ => nofun⟩
/-- a tuple that has no dict of its own: it stands as a known object -/
def SqD (K : PySem.W.Frag) (H : Hp) (a : Addr) (xs : List V) : Prop :=
  (∃ o, H a = some (.frz o (.tup xs)) ∧ o.dict = none) ∨
    ∃ (o : Obj) (its : Array Value) (n : Nat), K.lookup a = some o ∧ o.cls = .type "tuple" ∧ o.dict = none ∧ o.data = .seq its n ∧ its.size ≤ sizeLine ∧ Vals xs its.toList
theorem SqD.t {K : PySem.W.Frag} {H : Hp} {a : Addr} {xs : List V} (h : SqD K H a xs) : SqT K H a xs := by
  rcases h with ⟨o, h, _⟩ | ⟨o, its, n, h1, h2, _, h4, h5, h6⟩
  · exact .inl (.inr ⟨o, h⟩)
  · exact .inr ⟨o, its, n, h1, h2, h4, h5, h6⟩
theorem SqD.new {K : PySem.W.Frag} {H : Hp} {a : Addr} {xs : List V} {o : Obj} (e : o.dict = none) : SqD K (upd H a (.frz o (.tup xs))) a xs := .inl ⟨o, upd_same, e⟩
/-! ### a value that stands for a datum; the addresses of its lists and dicts -/
mutual
def Rp (c : Zc) (H : Hp) : D → V → List Addr → Prop
  | .none, v, fp => v = .non ∧ fp = []
  | .bool b, v, fp => v = .bl b ∧ fp = []
  | .int i, v, fp => v = .int i ∧ fp = []
  | .str x, v, fp => v = .str x ∧ fp = []
  | .list ds, v, fp => ∃ a xs gp, v = .ref a ∧ fp = a :: gp ∧ H a = some (.lst xs) ∧ Rps c H ds xs gp
  | .tuple ds, v, fp => ∃ a xs, v = .ref a ∧ SqD c.K H a xs ∧ Rps c H ds xs fp
  | .dict kvs, v, fp => if isSrc kvs = true then ∃ p, c.S = some p ∧ v = .ref p.1 ∧ fp = []
      else if isFrz kvs = true then ∃ a y0 x0 ys xs, v = .ref a ∧ fp = [] ∧ (∃ o, H a = some (.frz o (.lst xs))) ∧ Rpk c H kvs (y0 :: ys) (x0 :: xs) []
      else if isFrd kvs = true then ∃ a y0 x0 ys xs, v = .ref a ∧ fp = [] ∧ (∃ o u, H a = some (.frz o u) ∧ DictU a (kvs.tail.map (·.1)) ys xs u) ∧ Rpk c H kvs (y0 :: ys) (x0 :: xs) []
      else ∃ a ys xs gp, v = .ref a ∧ fp = a :: gp ∧ Rpk c H kvs ys xs gp ∧ ∃ u, H a = some u ∧ DictU a (kvs.map (·.1)) ys xs u
def Rps (c : Zc) (H : Hp) : List D → List V → List Addr → Prop
  | [], xs, fp => xs = [] ∧ fp = []
  | d :: ds, xs, fp => ∃ x ys f1 f2, xs = x :: ys ∧ fp = f1 ++ f2 ∧ Rp c H d x f1 ∧ Rps c H ds ys f2
def Rpk (c : Zc) (H : Hp) : List (D × D) → List V → List V → List Addr → Prop
  | [], ys, xs, fp => ys = [] ∧ xs = [] ∧ fp = []
  | (k, d) :: r, ys, xs, fp => ∃ y ys' x xs' f1 f2, ys = y :: ys' ∧ xs = x :: xs' ∧ fp = f1 ++ f2 ∧ Rp c H k y [] ∧ Rp c H d x f1 ∧ Rpk c H r ys' xs' f2
end
mutual
/-- no list and no dict in it -/
def solid : D → Bool
  | .none | .bool _ | .int _ | .str _ => true
  | .list _ => false
  | .dict kvs => !isSrc kvs && (isFrz kvs || isFrd kvs)
  | .tuple xs => solids xs
def solids : List D → Bool
  | [] => true
  | x :: xs => solid x && solids xs
end
/-- what never changes -/
def Fix : HO → Prop
  | .tup _ => True
  | .frz _ _ => True
  | _ => False
def Tk (H H' : Hp) : Prop := ∀ a o, H a = some o → Fix o → H' a = some o
theorem Tk.sq {K : PySem.W.Frag} {H H' : Hp} {a : Addr} {xs : List V} (t : Tk H H') (h : SqT K H a xs) : SqT K H' a xs := by
  rcases h with (h | ⟨o, h⟩) | h
  · exact .inl (.inl (t _ _ h trivial))
  · exact .inl (.inr ⟨o, t _ _ h trivial⟩)
  · exact .inr h
theorem Tk.sqd {K : PySem.W.Frag} {H H' : Hp} {a : Addr} {xs : List V} (t : Tk H H') (h : SqD K H a xs) : SqD K H' a xs := by
  rcases h with ⟨o, h, e⟩ | h
  · exact .inl ⟨o, t _ _ h trivial, e⟩
  · exact .inr h
theorem Tk.refl (H : Hp) : Tk H H := fun _ _ h _ => h
theorem Tk.trans {H H1 H2 : Hp} (a : Tk H H1) (b : Tk H1 H2) : Tk H H2 := fun x o h f => b x o (a x o h f) f
section
variable {c : Zc} {H H' : Hp}
mutual
theorem Rp.mono (t : Tk H H') : ∀ (d : D) (v : V) (fp : List Addr), Rp c H d v fp → (∀ a ∈ fp, H' a = H a) → Rp c H' d v fp
  | .none, _, _, h, _ => by simp only [Rp] at h ⊢; exact h
  | .bool b, _, _, h, _ => by simp only [Rp] at h ⊢; exact h
  | .int i, _, _, h, _ => by simp only [Rp] at h ⊢; exact h
  | .str x, _, _, h, _ => by simp only [Rp] at h ⊢; exact h
  | .list ds, v, fp, h, k => by
    simp only [Rp] at h ⊢
    obtain ⟨a, xs, gp, rfl, rfl, h1, h2⟩ := h
    exact ⟨a, xs, gp, rfl, rfl, by rw [k a (List.mem_cons_self ..)]; exact h1, Rps.mono t ds xs gp h2 fun b hb => k b (List.mem_cons_of_mem _ hb)⟩
  | .tuple ds, v, fp, h, k => by
    simp only [Rp] at h ⊢
    obtain ⟨a, xs, rfl, h1, h2⟩ := h
    exact ⟨a, xs, rfl, t.sqd h1, Rps.mono t ds xs fp h2 k⟩
  | .dict kvs, v, fp, h, k => by
    simp only [Rp] at h ⊢
    split
    · rename_i hs
      rw [if_pos hs] at h
      exact h
    · rename_i hs
      rw [if_neg hs] at h
      split
      · rename_i hf
        rw [if_pos hf] at h
        obtain ⟨a, y0, x0, ys, xs, rfl, rfl, ⟨o, ho⟩, h1⟩ := h
        exact ⟨a, y0, x0, ys, xs, rfl, rfl, ⟨o, t a _ ho trivial⟩, Rpk.mono t kvs (y0 :: ys) (x0 :: xs) [] h1 k⟩
      rename_i hf
      rw [if_neg hf] at h
      split
      · rename_i hd
        rw [if_pos hd] at h
        obtain ⟨a, y0, x0, ys, xs, rfl, rfl, ⟨o, u, ho, hu⟩, h1⟩ := h
        exact ⟨a, y0, x0, ys, xs, rfl, rfl, ⟨o, u, t a _ ho trivial, hu⟩, Rpk.mono t kvs (y0 :: ys) (x0 :: xs) [] h1 k⟩
      rename_i hd
      rw [if_neg hd] at h
      obtain ⟨a, ys, xs, gp, rfl, rfl, h1, u, hu, hd⟩ := h
      exact ⟨a, ys, xs, gp, rfl, rfl, Rpk.mono t kvs ys xs gp h1 fun b hb => k b (List.mem_cons_of_mem _ hb), u, by rw [k a (List.mem_cons_self ..)]; exact hu, hd⟩
theorem Rps.mono (t : Tk H H') : ∀ (ds : List D) (xs : List V) (fp : List Addr), Rps c H ds xs fp → (∀ a ∈ fp, H' a = H a) → Rps c H' ds xs fp
  | [], _, _, h, _ => by simp only [Rps] at h ⊢; exact h
  | d :: ds, xs, fp, h, k => by
    simp only [Rps] at h ⊢
    obtain ⟨x, ys, f1, f2, rfl, rfl, h1, h2⟩ := h
    exact ⟨x, ys, f1, f2, rfl, rfl, Rp.mono t d x f1 h1 fun a ha => k a (List.mem_append_left _ ha), Rps.mono t ds ys f2 h2 fun a ha => k a (List.mem_append_right _ ha)⟩
theorem Rpk.mono (t : Tk H H') : ∀ (ds : List (D × D)) (ys xs : List V) (fp : List Addr), Rpk c H ds ys xs fp → (∀ a ∈ fp, H' a = H a) → Rpk c H' ds ys xs fp
  | [], _, _, _, h, _ => by simp only [Rpk] at h ⊢; exact h
  | (e, d) :: ds, ys, xs, fp, h, k => by
    simp only [Rpk] at h ⊢
    obtain ⟨y, ys', x, xs', f1, f2, rfl, rfl, rfl, h0, h1, h2⟩ := h
    exact ⟨y, ys', x, xs', f1, f2, rfl, rfl, rfl, Rp.mono t e y [] h0 (fun a ha => by cases ha), Rp.mono t d x f1 h1 fun a ha => k a (List.mem_append_left _ ha), Rpk.mono t ds ys' xs' f2 h2 fun a ha => k a (List.mem_append_right _ ha)⟩
end
mutual
theorem Rp.there : ∀ (d : D) (v : V) (fp : List Addr), Rp c H d v fp → ∀ a ∈ fp, ∃ o, H a = some o ∧ ¬ Fix o
  | .none, _, _, h => by simp only [Rp] at h; rw [h.2]; intro a ha; cases ha
  | .bool b, _, _, h => by simp only [Rp] at h; rw [h.2]; intro a ha; cases ha
  | .int i, _, _, h => by simp only [Rp] at h; rw [h.2]; intro a ha; cases ha
  | .str x, _, _, h => by simp only [Rp] at h; rw [h.2]; intro a ha; cases ha
  | .list ds, v, fp, h => by
    simp only [Rp] at h
    obtain ⟨a, xs, gp, rfl, rfl, h1, h2⟩ := h
    intro b hb
    rcases List.mem_cons.mp hb with rfl | hb
    · exact ⟨_, h1, id⟩
    · exact Rps.there ds xs gp h2 b hb
  | .tuple ds, v, fp, h => by
    simp only [Rp] at h
    obtain ⟨a, xs, rfl, h1, h2⟩ := h
    exact Rps.there ds xs fp h2
  | .dict kvs, v, fp, h => by
    simp only [Rp] at h
    split at h
    · obtain ⟨p, _, _, e⟩ := h
      rw [e]; intro a ha; cases ha
    split at h
    · obtain ⟨a, y0, x0, ys, xs, _, e, _⟩ := h
      rw [e]; intro a ha; cases ha
    split at h
    · obtain ⟨a, y0, x0, ys, xs, _, e, _⟩ := h
      rw [e]; intro a ha; cases ha
    · obtain ⟨a, ys, xs, gp, rfl, rfl, h1, u, e4, hu⟩ := h
      intro b hb
      rcases List.mem_cons.mp hb with rfl | hb
      · obtain ⟨_, n1, n2⟩ := hu.not_fix
        refine ⟨_, e4, fun hz => ?_⟩
        cases u with
        | tup zs => exact n1 zs rfl
        | frz o z => exact n2 o z rfl
        | _ => exact hz
      · exact Rpk.there kvs ys xs gp h1 b hb
theorem Rps.there : ∀ (ds : List D) (xs : List V) (fp : List Addr), Rps c H ds xs fp → ∀ a ∈ fp, ∃ o, H a = some o ∧ ¬ Fix o
  | [], _, _, h => by simp only [Rps] at h; rw [h.2]; intro a ha; cases ha
  | d :: ds, xs, fp, h => by
    simp only [Rps] at h
    obtain ⟨x, ys, f1, f2, rfl, rfl, h1, h2⟩ := h
    intro a ha
    rcases List.mem_append.mp ha with ha | ha
    · exact Rp.there d x f1 h1 a ha
    · exact Rps.there ds ys f2 h2 a ha
theorem Rpk.there : ∀ (ds : List (D × D)) (ys xs : List V) (fp : List Addr), Rpk c H ds ys xs fp → ∀ a ∈ fp, ∃ o, H a = some o ∧ ¬ Fix o
  | [], _, _, _, h => by simp only [Rpk] at h; rw [h.2.2]; intro a ha; cases ha
  | (_, d) :: ds, ys, xs, fp, h => by
    simp only [Rpk] at h
    obtain ⟨y, ys', x, xs', f1, f2, rfl, rfl, rfl, h0, h1, h2⟩ := h
    intro a ha
    rcases List.mem_append.mp ha with ha | ha
    · exact Rp.there d x f1 h1 a ha
    · exact Rpk.there ds ys' xs' f2 h2 a ha
end
mutual
theorem Rp.solid : ∀ (d : D) (v : V) (fp : List Addr), Rp c H d v fp → solid d = true → fp = []
  | .none, _, _, h, _ => by simp only [Rp] at h; exact h.2
  | .bool b, _, _, h, _ => by simp only [Rp] at h; exact h.2
  | .int i, _, _, h, _ => by simp only [Rp] at h; exact h.2
  | .str x, _, _, h, _ => by simp only [Rp] at h; exact h.2
  | .list ds, v, fp, h, s => by simp [Z.solid] at s
  | .tuple ds, v, fp, h, s => by
    simp only [Rp] at h
    simp only [Z.solid] at s
    obtain ⟨a, xs, rfl, h1, h2⟩ := h
    exact Rps.solid ds xs fp h2 s
  | .dict kvs, v, fp, h, s => by
    simp only [Z.solid, Bool.and_eq_true, Bool.not_eq_true', Bool.or_eq_true] at s
    simp only [Rp] at h
    rw [if_neg (by rw [s.1]; simp)] at h
    split at h
    · obtain ⟨a, y0, x0, ys, xs, _, e, _⟩ := h
      exact e
    · rename_i hf
      rw [if_pos (s.2.resolve_left hf)] at h
      obtain ⟨a, y0, x0, ys, xs, _, e, _⟩ := h
      exact e
theorem Rps.solid : ∀ (ds : List D) (xs : List V) (fp : List Addr), Rps c H ds xs fp → solids ds = true → fp = []
  | [], _, _, h, _ => by simp only [Rps] at h; exact h.2
  | d :: ds, xs, fp, h, s => by
    simp only [Rps] at h
    simp only [Z.solids, Bool.and_eq_true] at s
    obtain ⟨x, ys, f1, f2, rfl, rfl, h1, h2⟩ := h
    rw [Rp.solid d x f1 h1 s.1, Rps.solid ds ys f2 h2 s.2]
    rfl
end
theorem Rps.len : ∀ {ds : List D} {xs : List V} {fp : List Addr}, Rps c H ds xs fp → xs.length = ds.length
  | [], _, _, h => by simp only [Rps] at h; rw [h.1]; rfl
  | d :: ds, xs, fp, h => by
    simp only [Rps] at h
    obtain ⟨x, ys, f1, f2, rfl, rfl, h1, h2⟩ := h
    rw [List.length_cons, List.length_cons, Rps.len h2]
/-- the i-th one -/
theorem Rps.at : ∀ {ds : List D} {xs : List V} {fp : List Addr} {i : Nat} {d : D}, Rps c H ds xs fp → ds[i]? = some d → ∃ x gp, xs[i]? = some x ∧ Rp c H d x gp ∧ (∀ a ∈ gp, a ∈ fp) ∧ (fp.Nodup → gp.Nodup)
  | [], _, _, _, _, _, e => by simp at e
  | d :: ds, xs, fp, 0, d', h, e => by
    simp only [Rps] at h
    obtain ⟨x, ys, f1, f2, rfl, rfl, h1, h2⟩ := h
    simp only [List.getElem?_cons_zero, Option.some.injEq] at e
    subst e
    exact ⟨x, f1, rfl, h1, fun a ha => List.mem_append_left _ ha, fun n => (List.nodup_append.mp n).1⟩
  | d :: ds, xs, fp, i + 1, d', h, e => by
    simp only [Rps] at h
    obtain ⟨x, ys, f1, f2, rfl, rfl, h1, h2⟩ := h
    obtain ⟨y, gp, e1, e2, e3, e4⟩ := Rps.at (i := i) h2 (by simpa using e)
    exact ⟨y, gp, by simpa using e1, e2, fun a ha => List.mem_append_right _ (e3 a ha), fun n => e4 (List.nodup_append.mp n).2.1⟩
theorem Rps.app : ∀ {ds es : List D} {xs ys : List V} {fp gp : List Addr}, Rps c H ds xs fp → Rps c H es ys gp → Rps c H (ds ++ es) (xs ++ ys) (fp ++ gp)
  | [], es, xs, ys, fp, gp, h, k => by
    simp only [Rps] at h
    rw [h.1, h.2]
    exact k
  | d :: ds, es, xs, ys, fp, gp, h, k => by
    simp only [Rps] at h
    obtain ⟨x, zs, f1, f2, rfl, rfl, h1, h2⟩ := h
    simp only [List.cons_append, List.append_assoc]
    simp only [Rps]
    exact ⟨x, zs ++ ys, f1, f2 ++ gp, rfl, rfl, h1, Rps.app h2 k⟩
theorem Rps.nil : Rps c H [] [] [] := by simp [Rps]
theorem rpk_frz {k : D} : ∀ {ds : List D} {ys xs : List V} {fp : List Addr}, Rpk c H (ds.map fun d => (k, d)) ys xs fp → Rps c H ds xs fp
  | [], ys, xs, fp, h => by
    simp only [List.map_nil, Rpk] at h
    simp only [Rps]
    exact h.2
  | d :: ds, ys, xs, fp, h => by
    simp only [List.map_cons, Rps, Rpk] at h ⊢
    obtain ⟨y, ys', x, xs', f1, f2, rfl, rfl, rfl, h0, h1, h2⟩ := h
    exact ⟨x, xs', f1, f2, rfl, rfl, h1, rpk_frz h2⟩
theorem frz_rpk {k : D} {y : V} (hk : Rp c H k y []) : ∀ {ds : List D} {xs : List V} {fp : List Addr}, Rps c H ds xs fp → Rpk c H (ds.map fun d => (k, d)) (ds.map fun _ => y) xs fp
  | [], xs, fp, h => by
    simp only [Rps] at h
    simp only [List.map_nil, Rpk]
    exact ⟨trivial, h⟩
  | d :: ds, xs, fp, h => by
    simp only [List.map_cons, Rps, Rpk] at h ⊢
    obtain ⟨x, xs', f1, f2, rfl, rfl, h1, h2⟩ := h
    exact ⟨y, _, x, xs', f1, f2, rfl, rfl, rfl, hk, h1, frz_rpk hk h2⟩
theorem rp_frz {ds : List D} {v : V} {fp : List Addr} : Rp c H (frzD ds) v fp ↔ ∃ a xs, v = .ref a ∧ fp = [] ∧ (∃ o, H a = some (.frz o (.lst xs))) ∧ Rps c H ds xs [] := by
  unfold frzD
  simp only [Rp]
  rw [if_neg (by rw [(frzK_is ds).1]; simp), if_pos (frzK_is ds).2]
  constructor
  · rintro ⟨a, y0, x0, ys, xs, rfl, rfl, ho, h⟩
    simp only [frzK, Rpk, Rp] at h
    obtain ⟨y, ys', x, xs', f1, f2, e0, e1, e2, h0, ⟨rfl, rfl⟩, h2⟩ := h
    obtain ⟨rfl, rfl⟩ := List.cons.inj e1
    obtain rfl : f2 = [] := by simpa using e2.symm
    exact ⟨a, _, rfl, rfl, ho, rpk_frz h2⟩
  · rintro ⟨a, xs, rfl, rfl, ho, h⟩
    refine ⟨a, .bl true, .non, ds.map fun _ => .bl true, xs, rfl, rfl, ho, ?_⟩
    simp only [frzK, Rpk]
    exact ⟨_, _, _, _, [], [], rfl, rfl, rfl, by simp [Rp], by simp [Rp], frz_rpk (by simp [Rp]) h⟩
/-- a dict that never changes any more -/
theorem rp_frd {kvs : List (D × D)} {v : V} {fp : List Addr} : Rp c H (frdD kvs) v fp ↔ ∃ a ys xs, v = .ref a ∧ fp = [] ∧ (∃ o u, H a = some (.frz o u) ∧ DictU a (kvs.map (·.1)) ys xs u) ∧ Rpk c H kvs ys xs [] := by
  unfold frdD
  simp only [Rp]
  rw [if_neg (by rw [(frdK_is kvs).1]; simp), if_neg (by rw [(frdK_is kvs).2.1]; simp), if_pos (frdK_is kvs).2.2]
  constructor
  · rintro ⟨a, y0, x0, ys, xs, rfl, rfl, ho, h⟩
    simp only [frdK, Rpk, Rp] at h
    obtain ⟨y, ys', x, xs', f1, f2, e0, e1, e2, h0, ⟨rfl, rfl⟩, h2⟩ := h
    obtain ⟨rfl, rfl⟩ := List.cons.inj e1
    obtain ⟨rfl, rfl⟩ := List.cons.inj e0
    obtain rfl : f2 = [] := by simpa using e2.symm
    exact ⟨a, _, _, rfl, rfl, ho, h2⟩
  · rintro ⟨a, ys, xs, rfl, rfl, ho, h⟩
    refine ⟨a, .bl false, .non, ys, xs, rfl, rfl, ho, ?_⟩
    simp only [frdK, Rpk]
    exact ⟨_, _, _, _, [], [], rfl, rfl, rfl, by simp [Rp], by simp [Rp], h⟩
theorem solid_frd (kvs : List (D × D)) : Z.solid (frdD kvs) = true := by
  unfold frdD
  simp only [Z.solid, (frdK_is kvs).1, (frdK_is kvs).2.2]
  simp
theorem solid_frz (ds : List D) : Z.solid (frzD ds) = true := by
  unfold frzD
  simp only [Z.solid, (frzK_is ds).1, (frzK_is ds).2]
  simp
theorem Rps.cons {d : D} {ds : List D} {x : V} {xs : List V} {fp gp : List Addr} (h : Rp c H d x fp) (k : Rps c H ds xs gp) : Rps c H (d :: ds) (x :: xs) (fp ++ gp) := by
  simp only [Rps]; exact ⟨x, xs, fp, gp, rfl, rfl, h, k⟩
theorem Rps.one {d : D} {x : V} {fp : List Addr} (h : Rp c H d x fp) : Rps c H [d] [x] fp := by
  have := Rps.cons h (Rps.nil (c := c) (H := H))
  rwa [List.append_nil] at this
end
/-! ### the source -/
/-- the source's own objects -/
def SrcAt (c : Zc) (H : Hp) : Prop := ∀ p, c.S = some p → p.1 ≠ p.2 ∧ ∃ (ns : List Int) (l m t : Int), ns.length ≤ 63 ∧ (∀ n ∈ ns, 0 ≤ n) ∧ 0 ≤ l ∧ 0 ≤ m ∧ m < 2147483648 ∧ 0 ≤ t ∧
  H p.1 = some (.dK [(Sum.inr "cells", .ref p.2), (Sum.inr "left", .int l), (Sum.inr "mixed", .int m), (Sum.inr "turn", .int t)]) ∧ H p.2 = some (.lst (ns.map V.int))
/-- all that was tracked is as it was, but the source -/
def Ext (c : Zc) (H H' : Hp) : Prop := ∀ a o, H a = some o → ¬ c.has a → H' a = some o
theorem Ext.refl (c : Zc) (H : Hp) : Ext c H H := fun _ _ h _ => h
theorem Ext.trans {c : Zc} {H H1 H2 : Hp} (a : Ext c H H1) (b : Ext c H1 H2) : Ext c H H2 := fun x o h n => b x o (a x o h n) n
theorem Ext.new {c : Zc} {H : Hp} {p : Addr} {o : HO} (h : H p = none) : Ext c H (upd H p o) := fun a u e _ => by
  rw [upd_ne (ne_of_none e h)]
  exact e
theorem Ext.free {c : Zc} {H H' : Hp} (e : Ext c H H') {p : Addr} (h : H' p = none) (n : ¬ c.has p) : H p = none := by
  cases q : H p with
  | none => rfl
  | some o =>
    rw [e p o q n] at h
    cases h
theorem SrcAt.not_fix {c : Zc} {H : Hp} (s : SrcAt c H) {a : Addr} {o : HO} (h : H a = some o) (f : Fix o) : ¬ c.has a := by
  rintro ⟨p, hp, e⟩
  obtain ⟨_, ns, l, m, t, _, _, _, _, _, _, h1, h2⟩ := s p hp
  rcases e with rfl | rfl
  · rw [h1] at h; cases h; exact f
  · rw [h2] at h; cases h; exact f
theorem Ext.tk {c : Zc} {H H' : Hp} (e : Ext c H H') (s : SrcAt c H) : Tk H H' := fun a o h f => e a o h (s.not_fix h f)
theorem SrcAt.there {c : Zc} {H : Hp} (s : SrcAt c H) {a : Addr} (h : c.has a) : ∃ o, H a = some o := by
  obtain ⟨p, hp, e⟩ := h
  obtain ⟨_, ns, l, m, t, _, _, _, _, _, _, h1, h2⟩ := s p hp
  rcases e with rfl | rfl
  · exact ⟨_, h1⟩
  · exact ⟨_, h2⟩
theorem SrcAt.fresh {c : Zc} {H : Hp} (s : SrcAt c H) {a : Addr} (h : H a = none) : ¬ c.has a := fun k => by
  obtain ⟨o, e⟩ := s.there k
  rw [h] at e; cases e
theorem SrcAt.new {c : Zc} {H : Hp} (s : SrcAt c H) {a : Addr} {o : HO} (h : H a = none) : SrcAt c (upd H a o) := fun p hp => by
  obtain ⟨n, ns, l, m, t, a1, a2, a3, a4, a5, a6, h1, h2⟩ := s p hp
  exact ⟨n, ns, l, m, t, a1, a2, a3, a4, a5, a6, by rw [upd_ne (ne_of_none h1 h)]; exact h1, by rw [upd_ne (ne_of_none h2 h)]; exact h2⟩
/-- an own list or dict is changed -/
theorem SrcAt.own {c : Zc} {H : Hp} (s : SrcAt c H) {a : Addr} {o : HO} (h : ¬ c.has a) : SrcAt c (upd H a o) := fun p hp => by
  obtain ⟨n, ns, l, m, t, a1, a2, a3, a4, a5, a6, h1, h2⟩ := s p hp
  exact ⟨n, ns, l, m, t, a1, a2, a3, a4, a5, a6, by rw [upd_ne (fun z => h ⟨p, hp, .inl z.symm⟩)]; exact h1, by rw [upd_ne (fun z => h ⟨p, hp, .inr z.symm⟩)]; exact h2⟩
/-- no address of the source's -/
def NoS (c : Zc) (fp : List Addr) : Prop := ∀ a ∈ fp, ¬ c.has a
theorem Rp.ext {c : Zc} {H H' : Hp} {d : D} {v : V} {fp : List Addr} (h : Rp c H d v fp) (n : NoS c fp) (e : Ext c H H') (s : SrcAt c H) : Rp c H' d v fp :=
  h.mono (e.tk s) _ _ _ fun a ha => by
    obtain ⟨o, ho, _⟩ := h.there _ _ _ a ha
    rw [ho]
    exact e a o ho (n a ha)
theorem Rps.ext {c : Zc} {H H' : Hp} {d : List D} {v : List V} {fp : List Addr} (h : Rps c H d v fp) (n : NoS c fp) (e : Ext c H H') (s : SrcAt c H) : Rps c H' d v fp :=
  h.mono (e.tk s) _ _ _ fun a ha => by
    obtain ⟨o, ho, _⟩ := h.there _ _ _ a ha
    rw [ho]
    exact e a o ho (n a ha)
/-! ### environments -/
inductive Sl where
  | unk | val (d : D) | own (d : D)
abbrev En := List Sl
def SlotOk (c : Zc) (G H : Hp) : Sl → Option (Option V) → List Addr → Prop
  | .unk, _, fp => fp = []
  | .val d, o, fp => ∃ v, o = some (some v) ∧ Rp c H d v fp ∧ NoS c fp
  | .own d, o, fp => ∃ v, o = some (some v) ∧ Rp c H d v fp ∧ NoS c fp ∧ fp.Nodup ∧ ∀ a ∈ fp, G a = none
def isOwn : Option Sl → Prop
  | some (.own _) => True
  | _ => False
structure EnvAt (c : Zc) (G H : Hp) (ρ : En) (σ : L2.St) (fps : Nat → List Addr) : Prop where
  len : σ.length = ρ.length
  ext : Ext c G H
  src : SrcAt c H
  ok : ∀ i s, ρ[i]? = some s → SlotOk c G H s σ[i]? (fps i)
  sep : ∀ i j, i ≠ j → i < ρ.length → j < ρ.length → isOwn ρ[i]? → ∀ a ∈ fps i, a ∉ fps j
theorem SlotOk.there {c : Zc} {G H : Hp} {s : Sl} {o : Option (Option V)} {fp : List Addr} (h : SlotOk c G H s o fp) : ∀ a ∈ fp, ∃ u, H a = some u ∧ ¬ Fix u := by
  cases s with
  | unk =>
    have e : fp = [] := h
    rw [e]; intro a ha; cases ha
  | val d => obtain ⟨v, _, h1, _⟩ := h; exact h1.there
  | own d => obtain ⟨v, _, h1, _⟩ := h; exact h1.there
theorem SlotOk.noS {c : Zc} {G H : Hp} {s : Sl} {o : Option (Option V)} {fp : List Addr} (h : SlotOk c G H s o fp) : NoS c fp := by
  cases s with
  | unk =>
    have e : fp = [] := h
    rw [e]; intro a ha; cases ha
  | val d => obtain ⟨v, _, _, h1⟩ := h; exact h1
  | own d => obtain ⟨v, _, _, h1, _⟩ := h; exact h1
theorem SlotOk.ext {c : Zc} {G H H' : Hp} {s : Sl} {o : Option (Option V)} {fp : List Addr} (h : SlotOk c G H s o fp) (e : Ext c H H') (sr : SrcAt c H) : SlotOk c G H' s o fp := by
  cases s with
  | unk => exact h
  | val d => obtain ⟨v, h0, h1, h2⟩ := h; exact ⟨v, h0, h1.ext h2 e sr, h2⟩
  | own d => obtain ⟨v, h0, h1, h2, h3⟩ := h; exact ⟨v, h0, h1.ext h2 e sr, h2, h3⟩
theorem EnvAt.step {c : Zc} {G H H' : Hp} {ρ : En} {σ : St} {fps : Nat → List Addr} (E : EnvAt c G H ρ σ fps) (e : Ext c H H') (s : SrcAt c H') : EnvAt c G H' ρ σ fps :=
  ⟨E.len, E.ext.trans e, s, fun i sl h => (E.ok i sl h).ext e E.src, E.sep⟩
theorem EnvAt.thereAt {c : Zc} {G H : Hp} {ρ : En} {σ : St} {fps : Nat → List Addr} (E : EnvAt c G H ρ σ fps) {i : Nat} (hi : i < ρ.length) : ∀ a ∈ fps i, ∃ u, H a = some u ∧ ¬ Fix u :=
  (E.ok i ρ[i] (List.getElem?_eq_getElem hi)).there
theorem EnvAt.noS {c : Zc} {G H : Hp} {ρ : En} {σ : St} {fps : Nat → List Addr} (E : EnvAt c G H ρ σ fps) {i : Nat} (hi : i < ρ.length) : NoS c (fps i) :=
  (E.ok i ρ[i] (List.getElem?_eq_getElem hi)).noS
/-! ### judgements -/
/-- the addresses come out of new objects, or out of the slots U -/
def From (H : Hp) (fps : Nat → List Addr) (n : Nat) (U : List Nat) (fp : List Addr) : Prop := (∀ a ∈ fp, H a = none ∨ ∃ u ∈ U, u < n ∧ a ∈ fps u) ∧ (U = [] → fp.Nodup)
abbrev DM := En → (D → Prop) → Prop
/-- the reading te gives a datum as m says -/
def DE (K : PySem.W.Frag) (S : Option (Addr × Addr)) (te : TE) (m : DM) (U : List Nat) : Prop :=
  ∀ (G H : Hp) (ρ : En) (σ : L2.St) (fps : Nat → List Addr), EnvAt ⟨K, S⟩ G H ρ σ fps → ∀ R : D → Prop, m ρ R → ∀ Q : VK,
    (∀ d v H' fp, R d → Ext ⟨K, S⟩ H H' → SrcAt ⟨K, S⟩ H' → Rp ⟨K, S⟩ H' d v fp → NoS ⟨K, S⟩ fp → From H fps ρ.length U fp → Q v H') → te σ H Q
abbrev DMs := En → (List D → Prop) → Prop
def DA (K : PySem.W.Frag) (S : Option (Addr × Addr)) (ta : TA) (m : DMs) (U : List Nat) : Prop :=
  ∀ (G H : Hp) (ρ : En) (σ : L2.St) (fps : Nat → List Addr), EnvAt ⟨K, S⟩ G H ρ σ fps → ∀ R : List D → Prop, m ρ R → ∀ Q : List V → Hp → Prop,
    (∀ ds vs H' fp, R ds → Ext ⟨K, S⟩ H H' → SrcAt ⟨K, S⟩ H' → Rps ⟨K, S⟩ H' ds vs fp → NoS ⟨K, S⟩ fp → From H fps ρ.length U fp → Q vs H') → ta σ H Q
abbrev DMt := En → (Bool → Prop) → Prop
def DT (K : PySem.W.Frag) (S : Option (Addr × Addr)) (tt : TT) (m : DMt) : Prop :=
  ∀ (G H : Hp) (ρ : En) (σ : L2.St) (fps : Nat → List Addr), EnvAt ⟨K, S⟩ G H ρ σ fps → ∀ R : Bool → Prop, m ρ R → ∀ Q : Bool → Hp → Prop,
    (∀ b H', R b → Ext ⟨K, S⟩ H H' → SrcAt ⟨K, S⟩ H' → Q b H') → tt σ H Q
structure DEnds where
  nx : En → Prop
  rt : D → Prop
  bk : En → Prop := fun _ => False
  ct : En → Prop := fun _ => False
/-- all slots but those of W as they were -/
structure Off (W : List Nat) (σ σ' : L2.St) : Prop where
  len : σ'.length = σ.length
  off : ∀ j, j ∉ W → σ'[j]? = σ[j]?
structure EndsOk (K : PySem.W.Frag) (S : Option (Addr × Addr)) (G : Hp) (W : List Nat) (σ : L2.St) (R : DEnds) (D : Ends) : Prop where
  nx : ∀ ρ' σ' H' fps', R.nx ρ' → EnvAt ⟨K, S⟩ G H' ρ' σ' fps' → Off W σ σ' → D.nx σ' H'
  bk : ∀ ρ' σ' H' fps', R.bk ρ' → EnvAt ⟨K, S⟩ G H' ρ' σ' fps' → Off W σ σ' → D.bk σ' H'
  ct : ∀ ρ' σ' H' fps', R.ct ρ' → EnvAt ⟨K, S⟩ G H' ρ' σ' fps' → Off W σ σ' → D.ct σ' H'
  rt : ∀ d v H' fp, R.rt d → Ext ⟨K, S⟩ G H' → SrcAt ⟨K, S⟩ H' → Rp ⟨K, S⟩ H' d v fp → NoS ⟨K, S⟩ fp → fp.Nodup → (∀ a ∈ fp, G a = none) → D.rt v H'
abbrev DMS := En → DEnds → Prop
/-- the statement's reading, as m says; W: the slots that it stores or whose objects it changes -/
def DS (K : PySem.W.Frag) (S : Option (Addr × Addr)) (ts : TS) (m : DMS) (W : List Nat) : Prop :=
  ∀ (G H : Hp) (ρ : En) (σ : L2.St) (fps : Nat → List Addr), EnvAt ⟨K, S⟩ G H ρ σ fps → ∀ R : DEnds, m ρ R → ∀ D : Ends, EndsOk K S G W σ R D → ts D σ H
end Z
set_option Elab.async false
set_option linter.all false
set_option maxRecDepth 100000
set_option maxHeartbeats 2000000
/-! Z1: expressions, arguments, tests. -/
namespace Z
open PySem L2
section
variable {K : PySem.W.Frag} {S : Option (Addr × Addr)} {fps : Nat → List Addr} {n : Nat}
/-! ### where addresses come from -/
theorem From.nil {H : Hp} {U : List Nat} : From H fps n U [] := ⟨fun a h => (by cases h), fun _ => List.nodup_nil⟩
theorem From.fresh {H : Hp} {U : List Nat} {fp : List Addr} (h : ∀ a ∈ fp, H a = none) (d : fp.Nodup) : From H fps n U fp := ⟨fun a ha => .inl (h a ha), fun _ => d⟩
theorem From.new {H : Hp} {U : List Nat} {a : Addr} (h : H a = none) : From H fps n U [a] := .fresh (fun b hb => by rw [List.mem_singleton.mp hb]; exact h) (List.pairwise_singleton _ _)
theorem From.back {c : Zc} {H H1 : Hp} {U : List Nat} {fp : List Addr} (f : From H1 fps n U fp) (e : Ext c H H1) (ns : NoS c fp) : From H fps n U fp :=
  ⟨fun a ha => (f.1 a ha).imp (fun z => e.free z (ns a ha)) id, f.2⟩
theorem From.sub {H : Hp} {U V : List Nat} {fp : List Addr} (f : From H fps n U fp) (h : ∀ u ∈ U, u ∈ V) (hne : V = [] → U = []) : From H fps n V fp :=
  ⟨fun a ha => (f.1 a ha).imp id fun ⟨u, hu, e⟩ => ⟨u, h u hu, e⟩, fun z => f.2 (hne z)⟩
theorem From.part {H : Hp} {U : List Nat} {fp gp : List Addr} (f : From H fps n U fp) (h : ∀ a ∈ gp, a ∈ fp) (hn : fp.Nodup → gp.Nodup) : From H fps n U gp :=
  ⟨fun a ha => f.1 a (h a ha), fun z => hn (f.2 z)⟩
theorem From.off {H : Hp} {fp : List Addr} (f : From H fps n [] fp) : ∀ a ∈ fp, H a = none := fun a ha => by
  rcases f.1 a ha with z | ⟨u, hu, _⟩
  · exact z
  · cases hu
/-- one after the other -/
theorem From.app {c : Zc} {H H1 : Hp} {U V : List Nat} {fp gp : List Addr} (f : From H fps n U fp) (g : From H1 fps n V gp) (e : Ext c H H1) (ns : NoS c gp) (th : ∀ a ∈ fp, ∃ o, H1 a = some o) : From H fps n (U ++ V) (fp ++ gp) := by
  have g' := g.back e ns
  refine ⟨fun a ha => ?_, fun z => ?_⟩
  · rcases List.mem_append.mp ha with ha | ha
    · exact (f.1 a ha).imp id fun ⟨u, hu, q⟩ => ⟨u, List.mem_append_left _ hu, q⟩
    · exact (g'.1 a ha).imp id fun ⟨u, hu, q⟩ => ⟨u, List.mem_append_right _ hu, q⟩
  · obtain ⟨z1, z2⟩ := List.append_eq_nil_iff.mp z
    subst z1 z2
    refine List.nodup_append.mpr ⟨f.2 rfl, g.2 rfl, fun a ha b hb q => ?_⟩
    subst q
    obtain ⟨o, ho⟩ := th a ha
    rw [g.off a hb] at ho
    cases ho
theorem NoS.app {c : Zc} {fp gp : List Addr} (h : NoS c fp) (k : NoS c gp) : NoS c (fp ++ gp) := fun a ha => (List.mem_append.mp ha).elim (h a) (k a)
theorem NoS.nil {c : Zc} : NoS c [] := fun a h => by cases h
/-! ### names, constants -/
def look (s : Option Sl) (R : D → Prop) : Prop := match s with
  | some (.val d) => R d
  | some (.own d) => R d
  | _ => False
def dVar (i : Nat) : DM := fun ρ R => look ρ[i]? R
theorem de_var (i : Nat) : DE K S (tVar i) (dVar i) [i] := fun G H ρ σ fps E R hm Q q => by
  unfold dVar look at hm
  have key : ∀ d sl, ρ[i]? = some sl → (sl = .val d ∨ sl = .own d) → R d → tVar i σ H Q := fun d sl e hs hR => by
    have hi : i < ρ.length := (List.getElem?_eq_some_iff.mp e).1
    have ok := E.ok i sl e
    have th := E.thereAt hi
    rcases hs with rfl | rfl
    · obtain ⟨v, e1, h1, h2⟩ := ok
      exact ⟨v, e1, q d v H _ hR (Ext.refl _ _) E.src h1 h2 ⟨fun a ha => .inr ⟨i, List.mem_singleton.mpr rfl, hi, ha⟩, fun z => by cases z⟩⟩
    · obtain ⟨v, e1, h1, h2, _⟩ := ok
      exact ⟨v, e1, q d v H _ hR (Ext.refl _ _) E.src h1 h2 ⟨fun a ha => .inr ⟨i, List.mem_singleton.mpr rfl, hi, ha⟩, fun z => by cases z⟩⟩
  split at hm
  · rename_i d e; exact key d _ e (.inl rfl) hm
  · rename_i d e; exact key d _ e (.inr rfl) hm
  · exact hm.elim
def dC (d : D) : DM := fun _ R => R d
theorem de_c {d : D} {v : V} (h : ∀ H : Hp, Rp ⟨K, S⟩ H d v []) : DE K S (tC v) (dC d) [] := fun G H ρ σ fps E R hm Q q => q d v H [] hm (Ext.refl _ _) E.src (h H) .nil .nil
theorem de_int {i : Int} : DE K S (tC (.int i)) (dC (.int i)) [] := de_c fun H => by simp [Rp]
theorem de_bl {b : Bool} : DE K S (tC (.bl b)) (dC (.bool b)) [] := de_c fun H => by simp [Rp]
/-- nothing in it can change -/
def dSolid (m : DM) : DM := fun ρ R => m ρ fun d => solid d = true ∧ R d
theorem de_solid {te : TE} {m : DM} {U : List Nat} (h : DE K S te m U) : DE K S te (dSolid m) [] := fun G H ρ σ fps E R hm Q q =>
  h G H ρ σ fps E _ hm Q fun d v H' fp hR e s r ns f => by
    have z := r.solid _ _ _ hR.1
    subst z
    exact q d v H' [] hR.2 e s r ns .nil
theorem DE.up {te : TE} {m : DM} {U V : List Nat} (h : DE K S te m U) (hs : ∀ u ∈ U, u ∈ V) (hne : V = [] → U = []) : DE K S te m V := fun G H ρ σ fps E R hm Q q =>
  h G H ρ σ fps E R hm Q fun d v H' fp hR e s r ns f => q d v H' fp hR e s r ns (f.sub hs hne)
/-! ### argument lists -/
def dNil : DMs := fun _ R => R []
def dCons (m : DM) (ms : DMs) : DMs := fun ρ R => m ρ fun d => ms ρ fun ds => R (d :: ds)
theorem da_nil : DA K S tNil dNil [] := fun G H ρ σ fps E R hm Q q => q [] [] H [] hm (Ext.refl _ _) E.src .nil .nil .nil
theorem da_cons {te : TE} {t : TA} {m : DM} {ms : DMs} {U V : List Nat} (h1 : DE K S te m U) (h2 : DA K S t ms V) : DA K S (tCons te t) (dCons m ms) (U ++ V) := fun G H ρ σ fps E R hm Q q =>
  h1 G H ρ σ fps E _ hm _ fun d v H1 fp hR e1 s1 r1 n1 f1 =>
    h2 G H1 ρ σ fps (E.step e1 s1) _ hR _ fun ds vs H2 gp hR2 e2 s2 r2 n2 f2 =>
      q (d :: ds) (v :: vs) H2 (fp ++ gp) hR2 (e1.trans e2) s2 (.cons (r1.ext n1 e2 s1) r2) (n1.app n2) (f1.app f2 e1 n2 fun a ha => let ⟨o, ho, _⟩ := r1.there _ _ _ a ha; ⟨o, ho⟩)
/-! ### operations on values -/
/-- of two data, a new datum -/
def OpD (K : PySem.W.Frag) (S : Option (Addr × Addr)) (r : R2) (f : D → D → (D → Prop) → Prop) : Prop :=
  ∀ (H : Hp) (x y : V) (d e : D) (f1 f2 : List Addr), SrcAt ⟨K, S⟩ H → Rp ⟨K, S⟩ H d x f1 → NoS ⟨K, S⟩ f1 → Rp ⟨K, S⟩ H e y f2 → NoS ⟨K, S⟩ f2 → ∀ R, f d e R → ∀ Q : VK,
    (∀ z v H' fp, R z → Ext ⟨K, S⟩ H H' → SrcAt ⟨K, S⟩ H' → Rp ⟨K, S⟩ H' z v fp → NoS ⟨K, S⟩ fp → fp.Nodup → (∀ a ∈ fp, H a = none) → Q v H') → r x y H Q
/-- of a list of data, a new datum -/
def CallD (K : PySem.W.Frag) (S : Option (Addr × Addr)) (r : List V → Hp → VK → Prop) (f : List D → (D → Prop) → Prop) : Prop :=
  ∀ (H : Hp) (xs : List V) (ds : List D) (fp0 : List Addr), SrcAt ⟨K, S⟩ H → Rps ⟨K, S⟩ H ds xs fp0 → NoS ⟨K, S⟩ fp0 → ∀ R, f ds R → ∀ Q : VK,
    (∀ z v H' fp, R z → Ext ⟨K, S⟩ H H' → SrcAt ⟨K, S⟩ H' → Rp ⟨K, S⟩ H' z v fp → NoS ⟨K, S⟩ fp → fp.Nodup → (∀ a ∈ fp, H a = none) → Q v H') → r xs H Q
def UnD (K : PySem.W.Frag) (S : Option (Addr × Addr)) (r : V → Hp → VK → Prop) (f : D → (D → Prop) → Prop) : Prop :=
  ∀ (H : Hp) (x : V) (d : D) (fp0 : List Addr), SrcAt ⟨K, S⟩ H → Rp ⟨K, S⟩ H d x fp0 → NoS ⟨K, S⟩ fp0 → ∀ R, f d R → ∀ Q : VK,
    (∀ z v H' fp, R z → Ext ⟨K, S⟩ H H' → SrcAt ⟨K, S⟩ H' → Rp ⟨K, S⟩ H' z v fp → NoS ⟨K, S⟩ fp → fp.Nodup → (∀ a ∈ fp, H a = none) → Q v H') → r x H Q
/-- .. whose lists are the first operand's -/
def OpA (K : PySem.W.Frag) (S : Option (Addr × Addr)) (r : R2) (f : D → D → (D → Prop) → Prop) : Prop :=
  ∀ (H : Hp) (x y : V) (d e : D) (f1 f2 : List Addr), SrcAt ⟨K, S⟩ H → Rp ⟨K, S⟩ H d x f1 → NoS ⟨K, S⟩ f1 → Rp ⟨K, S⟩ H e y f2 → NoS ⟨K, S⟩ f2 → ∀ R, f d e R → ∀ Q : VK,
    (∀ z v fp, R z → Rp ⟨K, S⟩ H z v fp → (∀ a ∈ fp, a ∈ f1) → (f1.Nodup → fp.Nodup) → Q v H) → r x y H Q
def dBin (f : D → D → (D → Prop) → Prop) (ma mb : DM) : DM := fun ρ R => ma ρ fun x => mb ρ fun y => f x y R
def dUn (f : D → (D → Prop) → Prop) (ma : DM) : DM := fun ρ R => ma ρ fun x => f x R
/-- a mark whose type names R: simp leaves R as it is -/
inductive Hold {α : Type} (R : α) : Type
  | mk : Hold R
/-- what is made of an answer, held back until the answer's form is known -/
def kont (R : D → Prop) (_ : Hold R) : D → Prop := R
section
variable {R : D → Prop} {t : Hold R}
theorem kont_none : kont R t .none = R .none := rfl
theorem kont_bool {b : Bool} : kont R t (.bool b) = R (.bool b) := rfl
theorem kont_int {i : Int} : kont R t (.int i) = R (.int i) := rfl
theorem kont_str {x : Str} : kont R t (.str x) = R (.str x) := rfl
theorem kont_list {xs : List D} : kont R t (.list xs) = R (.list xs) := rfl
theorem kont_tuple {xs : List D} : kont R t (.tuple xs) = R (.tuple xs) := rfl
end
def dCall (f : List D → (D → Prop) → Prop) (ms : DMs) : DM := fun ρ R => ms ρ fun ds => f ds R
theorem de_op {r : R2} {f : D → D → (D → Prop) → Prop} {ta tb : TE} {ma mb : DM} {U V : List Nat} (h : OpD K S r f) (h1 : DE K S ta ma U) (h2 : DE K S tb mb V) : DE K S (tOp r ta tb) (dBin f ma mb) [] := fun G H ρ σ fps E R hm Q q =>
  h1 G H ρ σ fps E _ hm _ fun d v H1 fp hR e1 s1 r1 n1 f1 =>
    h2 G H1 ρ σ fps (E.step e1 s1) _ hR _ fun e w H2 gp hR2 e2 s2 r2 n2 f2 =>
      h H2 v w d e fp gp s2 (r1.ext n1 e2 s1) n1 r2 n2 _ hR2 _ fun z u H3 kp hz e3 s3 r3 n3 nd fr =>
        q z u H3 kp hz ((e1.trans e2).trans e3) s3 r3 n3 (.fresh (fun a ha => (e1.trans e2).free (fr a ha) (n3 a ha)) nd)
theorem de_opA {r : R2} {f : D → D → (D → Prop) → Prop} {ta tb : TE} {ma mb : DM} {U V : List Nat} (h : OpA K S r f) (h1 : DE K S ta ma U) (h2 : DE K S tb mb V) : DE K S (tOp r ta tb) (dBin f ma mb) U := fun G H ρ σ fps E R hm Q q =>
  h1 G H ρ σ fps E _ hm _ fun d v H1 fp hR e1 s1 r1 n1 f1 =>
    h2 G H1 ρ σ fps (E.step e1 s1) _ hR _ fun e w H2 gp hR2 e2 s2 r2 n2 f2 =>
      h H2 v w d e fp gp s2 (r1.ext n1 e2 s1) n1 r2 n2 _ hR2 _ fun z u kp hz r3 sub nd =>
        q z u H2 kp hz (e1.trans e2) s2 r3 (fun a ha => n1 a (sub a ha)) (f1.part sub nd)
theorem de_un {r : V → Hp → VK → Prop} {f : D → (D → Prop) → Prop} {ta : TE} {ma : DM} {U : List Nat} (h : UnD K S r f) (h1 : DE K S ta ma U) : DE K S (tUn r ta) (dUn f ma) [] := fun G H ρ σ fps E R hm Q q =>
  h1 G H ρ σ fps E _ hm _ fun d v H1 fp hR e1 s1 r1 n1 f1 =>
    h H1 v d fp s1 r1 n1 _ hR _ fun z u H3 kp hz e3 s3 r3 n3 nd fr =>
      q z u H3 kp hz (e1.trans e3) s3 r3 n3 (.fresh (fun a ha => e1.free (fr a ha) (n3 a ha)) nd)
theorem de_cb {r : List V → Hp → VK → Prop} {f : List D → (D → Prop) → Prop} {t : TA} {ms : DMs} {U : List Nat} (h : CallD K S r f) (h1 : DA K S t ms U) : DE K S (tCB r t) (dCall f ms) [] := fun G H ρ σ fps E R hm Q q =>
  h1 G H ρ σ fps E _ hm _ fun d v H1 fp hR e1 s1 r1 n1 f1 =>
    h H1 v d fp s1 r1 n1 _ hR _ fun z u H3 kp hz e3 s3 r3 n3 nd fr =>
      q z u H3 kp hz (e1.trans e3) s3 r3 n3 (.fresh (fun a ha => e1.free (fr a ha) (n3 a ha)) nd)
/-- answers without objects -/
theorem OpD.pure {r : R2} {f : D → D → (D → Prop) → Prop} (h : ∀ (H : Hp) (x y : V) (d e : D) (f1 f2 : List Addr), Rp ⟨K, S⟩ H d x f1 → Rp ⟨K, S⟩ H e y f2 → ∀ R, f d e R → ∀ Q : VK, (∀ z v, R z → (∀ H, Rp ⟨K, S⟩ H z v []) → Q v H) → r x y H Q) : OpD K S r f :=
  fun H x y d e f1 f2 s r1 n1 r2 n2 R hf Q q => h H x y d e f1 f2 r1 r2 R hf Q fun z v hz rz => q z v H [] hz (Ext.refl _ _) s (rz H) .nil List.nodup_nil fun a ha => by cases ha
theorem CallD.pure {r : List V → Hp → VK → Prop} {f : List D → (D → Prop) → Prop} (h : ∀ (H : Hp) (xs : List V) (ds : List D) (fp : List Addr), Rps ⟨K, S⟩ H ds xs fp → ∀ R, f ds R → ∀ Q : VK, (∀ z v, R z → (∀ H, Rp ⟨K, S⟩ H z v []) → Q v H) → r xs H Q) : CallD K S r f :=
  fun H xs ds fp s r1 n1 R hf Q q => h H xs ds fp r1 R hf Q fun z v hz rz => q z v H [] hz (Ext.refl _ _) s (rz H) .nil List.nodup_nil fun a ha => by cases ha
theorem UnD.pure {r : V → Hp → VK → Prop} {f : D → (D → Prop) → Prop} (h : ∀ (H : Hp) (x : V) (d : D) (fp : List Addr), Rp ⟨K, S⟩ H d x fp → ∀ R, f d R → ∀ Q : VK, (∀ z v, R z → (∀ H, Rp ⟨K, S⟩ H z v []) → Q v H) → r x H Q) : UnD K S r f :=
  fun H x d fp s r1 n1 R hf Q q => h H x d fp r1 R hf Q fun z v hz rz => q z v H [] hz (Ext.refl _ _) s (rz H) .nil List.nodup_nil fun a ha => by cases ha
/-! ### ints -/
def asI (d : D) (k : Int → Prop) : Prop := match d with
  | .int i => k i
  | _ => False
theorem asI_ok {d : D} {k : Int → Prop} (h : asI d k) : ∃ i, d = .int i ∧ k i := by
  unfold asI at h
  split at h
  · exact ⟨_, rfl, h⟩
  · exact h.elim
theorem rp_int {c : Zc} {H : Hp} {i : Int} {v : V} {fp : List Addr} (h : Rp c H (.int i) v fp) : v = .int i := by simp only [Rp] at h; exact h.1
theorem int_rp {c : Zc} {i : Int} (H : Hp) : Rp c H (.int i) (.int i) [] := by simp [Rp]
theorem bl_rp {c : Zc} {b : Bool} (H : Hp) : Rp c H (.bool b) (.bl b) [] := by simp [Rp]
theorem str_rp {c : Zc} {x : Str} (H : Hp) : Rp c H (.str x) (.str x) [] := by simp [Rp]
theorem non_rp {c : Zc} (H : Hp) : Rp c H .none .non [] := by simp [Rp]
def f2I (g : Int → Int → D) : D → D → (D → Prop) → Prop := fun x y R => asI x fun i => asI y fun j => R (g i j)
def f2IC (C : Int → Int → Prop) (g : Int → Int → D) : D → D → (D → Prop) → Prop := fun x y R => asI x fun i => asI y fun j => C i j ∧ R (g i j)
theorem od_I0 {g : Int → Int → Int} : OpD K S (rI0 fun i j => .int (g i j)) (f2I fun i j => .int (g i j)) := .pure fun H x y d e f1 f2 r1 r2 R hf Q q => by
  obtain ⟨i, rfl, h1⟩ := asI_ok hf
  obtain ⟨j, rfl, h2⟩ := asI_ok h1
  exact ⟨i, j, rp_int r1, rp_int r2, q _ _ h2 int_rp⟩
theorem od_B0 {g : Int → Int → Bool} : OpD K S (rI0 fun i j => .bl (g i j)) (f2I fun i j => .bool (g i j)) := .pure fun H x y d e f1 f2 r1 r2 R hf Q q => by
  obtain ⟨i, rfl, h1⟩ := asI_ok hf
  obtain ⟨j, rfl, h2⟩ := asI_ok h1
  exact ⟨i, j, rp_int r1, rp_int r2, q _ _ h2 bl_rp⟩
theorem od_IC {C : Int → Int → Prop} {g : Int → Int → Int} : OpD K S (rI C fun i j => .int (g i j)) (f2IC C fun i j => .int (g i j)) := .pure fun H x y d e f1 f2 r1 r2 R hf Q q => by
  obtain ⟨i, rfl, h1⟩ := asI_ok hf
  obtain ⟨j, rfl, hc, h2⟩ := asI_ok h1
  exact ⟨i, j, rp_int r1, rp_int r2, hc, q _ _ h2 int_rp⟩
def f1I (g : Int → D) : D → (D → Prop) → Prop := fun x R => asI x fun i => R (g i)
theorem ud_I {g : Int → Int} : UnD K S (rU fun i => .int (g i)) (f1I fun i => .int (g i)) := .pure fun H x d fp r1 R hf Q q => by
  obtain ⟨i, rfl, hf⟩ := asI_ok hf
  exact ⟨i, rp_int r1, q _ _ hf int_rp⟩
/-! ### tests -/
def asB (d : D) (k : Bool → Prop) : Prop := match d with
  | .bool b => k b
  | _ => False
theorem asB_ok {d : D} {k : Bool → Prop} (h : asB d k) : ∃ i, d = .bool i ∧ k i := by
  unfold asB at h
  split at h
  · exact ⟨_, rfl, h⟩
  · exact h.elim
theorem rp_bl {c : Zc} {H : Hp} {i : Bool} {v : V} {fp : List Addr} (h : Rp c H (.bool i) v fp) : v = .bl i := by simp only [Rp] at h; exact h.1
def dTest (m : DM) : DMt := fun ρ R => m ρ fun d => asB d R
theorem dt_val {te : TE} {m : DM} {U : List Nat} (h : DE K S te m U) : DT K S (tTest te) (dTest m) := fun G H ρ σ fps E R hm Q q =>
  h G H ρ σ fps E _ hm _ fun d v H' fp hR e s r ns f => by
    obtain ⟨b, rfl, hb⟩ := asB_ok hR
    exact ⟨b, rp_bl r, q b H' hb e s⟩
def dAnd (m1 m2 : DMt) : DMt := fun ρ R => m1 ρ fun b => cond b (m2 ρ R) (R false)
def dOr (m1 m2 : DMt) : DMt := fun ρ R => m1 ρ fun b => cond b (R true) (m2 ρ R)
def dNot (m : DMt) : DMt := fun ρ R => m ρ fun b => R (!b)
theorem dt_and {t u : TT} {m1 m2 : DMt} (h1 : DT K S t m1) (h2 : DT K S u m2) : DT K S (tAnd t u) (dAnd m1 m2) := fun G H ρ σ fps E R hm Q q =>
  h1 G H ρ σ fps E _ hm _ fun b H1 hR e1 s1 => by
    cases b with
    | true => exact iteT (h2 G H1 ρ σ fps (E.step e1 s1) R hR Q fun b H' hb e s => q b H' hb (e1.trans e) s)
    | false => exact iteF (q false H1 hR e1 s1)
theorem dt_or {t u : TT} {m1 m2 : DMt} (h1 : DT K S t m1) (h2 : DT K S u m2) : DT K S (tOr t u) (dOr m1 m2) := fun G H ρ σ fps E R hm Q q =>
  h1 G H ρ σ fps E _ hm _ fun b H1 hR e1 s1 => by
    cases b with
    | false => exact iteF (h2 G H1 ρ σ fps (E.step e1 s1) R hR Q fun b H' hb e s => q b H' hb (e1.trans e) s)
    | true => exact iteT (q true H1 hR e1 s1)
def dYes : DMt := fun _ R => R true
theorem dt_yes : DT K S tYes dYes := fun G H ρ σ fps E R hm Q q => q true H hm (Ext.refl _ _) E.src
/-- and, or, not as values -/
def dAndV (m1 m2 : DM) : DM := fun ρ R => m1 ρ fun d => asB d fun b => cond b (m2 ρ R) (R (.bool false))
def dOrV (m1 m2 : DM) : DM := fun ρ R => m1 ρ fun d => asB d fun b => cond b (R (.bool true)) (m2 ρ R)
def dNotV (m : DM) : DM := fun ρ R => m ρ fun d => asB d fun b => R (.bool (!b))
theorem de_andV {ta tb : TE} {ma mb : DM} {U V : List Nat} (h1 : DE K S ta ma U) (h2 : DE K S tb mb V) : DE K S (tAndV ta tb) (dAndV ma mb) V := fun G H ρ σ fps E R hm Q q =>
  h1 G H ρ σ fps E _ hm _ fun d v H1 fp hR e1 s1 r1 n1 f1 => by
    obtain ⟨b, rfl, hb⟩ := asB_ok hR
    refine ⟨b, rp_bl r1, ?_⟩
    cases b with
    | true => exact iteT (h2 G H1 ρ σ fps (E.step e1 s1) R hb Q fun d v H' fp hd e s r ns f => q d v H' fp hd (e1.trans e) s r ns (f.back e1 ns))
    | false => exact iteF (q _ _ H1 [] hb e1 s1 (bl_rp H1) .nil .nil)
def dIf (c : DMt) (m1 m2 : DM) : DM := fun ρ R => c ρ fun b => cond b (m1 ρ R) (m2 ρ R)
theorem de_if {t : TT} {ta tb : TE} {mc : DMt} {ma mb : DM} {U V : List Nat} (hc : DT K S t mc) (h1 : DE K S ta ma U) (h2 : DE K S tb mb V) : DE K S (tIf t ta tb) (dIf mc ma mb) (U ++ V) := fun G H ρ σ fps E R hm Q q =>
  hc G H ρ σ fps E _ hm _ fun b H1 hR e1 s1 => by
    cases b with
    | true => exact iteT (h1 G H1 ρ σ fps (E.step e1 s1) R hR Q fun d v H' fp hd e s r ns f => q d v H' fp hd (e1.trans e) s r ns ((f.back e1 ns).sub (fun u hu => List.mem_append_left _ hu) fun z => (List.append_eq_nil_iff.mp z).1))
    | false => exact iteF (h2 G H1 ρ σ fps (E.step e1 s1) R hR Q fun d v H' fp hd e s r ns f => q d v H' fp hd (e1.trans e) s r ns ((f.back e1 ns).sub (fun u hu => List.mem_append_right _ hu) fun z => (List.append_eq_nil_iff.mp z).2))
/-! ### displays -/
theorem lim_ok {n : Nat} (h : n ≤ 10000000) : n ≤ sizeLine := Nat.le_trans h (by rw [sizeLine_eq]; decide)
/-- a tuple's display: a known object -/
def tTupF (t : TA) : TE := fun σ H Q => t σ H fun xs H1 => xs.length ≤ sizeLine ∧ ∀ p o, H1 p = none → o.dict = none → Q (.ref p) (upd H1 p (.frz o (.tup xs)))
theorem pe_tupF {X : Cx} {es : List Expr} {t : TA} {pos : Pos} {x1 : Nat} (h : PA X es t) : PE X (.Tuple es x1 pos) (tTupF t) := ⟨fun pins s σ H Q I hq =>
  wpAny_Tuple_spliced (thn (h.run pos pins s σ H _ I hq) fun us s1 w => by
    obtain ⟨xs, H1, I1, r, z, q⟩ := w
    have e := Heap.get?_push_size s1.heap (o := { cls := .type "tuple", data := .seq us.toArray }) rfl
    refine ⟨by rw [← r.length]; exact z, .ref s1.heap.objs.size, _, I1.laid (t' := s1.toks) (o := .frz { cls := .type "tuple", data := .seq us.toArray } (.tup xs)) (fun b u k => Heap.get?_push_of_some _ k) (Nat.le_refl _) ⟨e, z, us, r, ⟨_, e, rfl, _, rfl⟩⟩, rfl, q _ _ (I1.hok.fresh (Nat.le_refl _)) rfl⟩)⟩
def dTup (ms : DMs) : DM := fun ρ R => ms ρ fun ds => ds.length ≤ 10000000 ∧ R (.tuple ds)
theorem de_tup {t : TA} {ms : DMs} {U : List Nat} (h : DA K S t ms U) : DE K S (tTupF t) (dTup ms) U := fun G H ρ σ fps E R hm Q q =>
  h G H ρ σ fps E _ hm _ fun ds vs H1 fp hR e1 s1 r1 n1 f1 => ⟨by rw [r1.len]; exact lim_ok hR.1, fun p o hp ho => by
    have e2 : Ext ⟨K, S⟩ H1 (upd H1 p (.frz o (.tup vs))) := Ext.new hp
    refine q (.tuple ds) (.ref p) _ fp hR.2 (e1.trans e2) (s1.new hp) ?_ n1 f1
    simp only [Rp]
    exact ⟨p, vs, rfl, .new ho, r1.ext n1 e2 s1⟩⟩
def dLst (ms : DMs) : DM := fun ρ R => ms ρ fun ds => ds.length ≤ 10000000 ∧ R (.list ds)
theorem de_lst {t : TA} {ms : DMs} {U : List Nat} (h : DA K S t ms U) : DE K S (tLst t) (dLst ms) U := fun G H ρ σ fps E R hm Q q =>
  h G H ρ σ fps E _ hm _ fun ds vs H1 fp hR e1 s1 r1 n1 f1 => ⟨by rw [r1.len]; exact lim_ok hR.1, fun p hp => by
    have e2 : Ext ⟨K, S⟩ H1 (upd H1 p (.lst vs)) := Ext.new hp
    have hpn := s1.fresh hp
    refine q (.list ds) (.ref p) _ (p :: fp) hR.2 (e1.trans e2) (s1.new hp) ?_ ?_ ⟨fun a ha => ?_, fun z => ?_⟩
    · simp only [Rp]
      exact ⟨p, vs, fp, rfl, rfl, upd_same, r1.ext n1 e2 s1⟩
    · intro a ha
      rcases List.mem_cons.mp ha with rfl | ha
      · exact hpn
      · exact n1 a ha
    · rcases List.mem_cons.mp ha with rfl | ha
      · exact .inl (e1.free hp hpn)
      · exact f1.1 a ha
    · refine List.nodup_cons.mpr ⟨fun hm => ?_, f1.2 z⟩
      obtain ⟨o, ho, _⟩ := r1.there _ _ _ p hm
      rw [hp] at ho
      cases ho⟩
end
end Z
set_option Elab.async false
set_option linter.all false
set_option maxRecDepth 100000
set_option maxHeartbeats 2000000
/-! Z2: what is walked; targets; comprehensions. -/
namespace Z
open PySem L2
section
variable {K : PySem.W.Frag} {S : Option (Addr × Addr)}
/-! ### what is walked -/
/-- a value that stands for a datum; w: a tuple whose object may have a dict, too -/
def RpW (w : Bool) (c : Zc) (H : Hp) (d : D) (v : V) (fp : List Addr) : Prop := Rp c H d v fp ∨ (w = true ∧ ∃ ds a xs, d = .tuple ds ∧ v = .ref a ∧ SqT c.K H a xs ∧ Rps c H ds xs fp)
theorem RpW.strong {c : Zc} {H : Hp} {d : D} {v : V} {fp : List Addr} (h : RpW false c H d v fp) : Rp c H d v fp := h.resolve_right fun z => by cases z.1
theorem RpW.tup {w : Bool} {c : Zc} {H : Hp} {ds : List D} {v : V} {fp : List Addr} (h : RpW w c H (.tuple ds) v fp) : ∃ a xs, v = .ref a ∧ SqT c.K H a xs ∧ Rps c H ds xs fp := by
  rcases h with h | ⟨_, es, a, xs, e, h1, h2, h3⟩
  · simp only [Rp] at h
    obtain ⟨a, xs, h1, h2, h3⟩ := h
    exact ⟨a, xs, h1, h2.t, h3⟩
  · cases e
    exact ⟨a, xs, h1, h2, h3⟩
/-- J gives ds, one by one, while the objects at FP stay -/
def IterOk (w : Bool) (c : Zc) (J : It) (H1 : Hp) (ds : List D) (FP : List Addr) : Prop :=
  Walk J ds.length (fun H' => Tk H1 H' ∧ (∀ a ∈ FP, H' a = H1 a) ∧ SrcAt c H') (fun i H' x H'' => Ext c H' H'' ∧ SrcAt c H'' ∧ ∃ d fp, ds[i]? = some d ∧ RpW w c H'' d x fp ∧ ∀ a ∈ fp, a ∈ FP)
def DI (w : Bool) (K : PySem.W.Frag) (S : Option (Addr × Addr)) (wi : TI) (m : DMs) (U : List Nat) : Prop :=
  ∀ (G H : Hp) (ρ : En) (σ : L2.St) (fps : Nat → List Addr), EnvAt ⟨K, S⟩ G H ρ σ fps → ∀ R : List D → Prop, m ρ R → ∀ Q : It → Hp → Prop,
    (∀ ds J H1 FP, R ds → Ext ⟨K, S⟩ H H1 → SrcAt ⟨K, S⟩ H1 → IterOk w ⟨K, S⟩ J H1 ds FP → NoS ⟨K, S⟩ FP → (∀ a ∈ FP, ∃ o, H1 a = some o) → From H fps ρ.length U FP → Q J H1) → wi σ H Q
theorem Rps.atV {c : Zc} {H : Hp} : ∀ {ds : List D} {xs : List V} {fp : List Addr} {i : Nat} {x : V}, Rps c H ds xs fp → xs[i]? = some x → ∃ d gp, ds[i]? = some d ∧ Rp c H d x gp ∧ (∀ a ∈ gp, a ∈ fp)
  | [], xs, fp, i, x, h, e => by
    simp only [Rps] at h
    rw [h.1] at e
    simp at e
  | d :: ds, xs, fp, i, x, h, e => by
    have hl := h.len
    have hi : i < (d :: ds).length := by rw [← hl]; exact (List.getElem?_eq_some_iff.mp e).1
    obtain ⟨y, gp, e1, h1, h2, _⟩ := h.at (List.getElem?_eq_getElem hi)
    rw [e] at e1
    cases e1
    exact ⟨_, gp, List.getElem?_eq_getElem hi, h1, h2⟩
/-- a list, a tuple, a text: its items -/
def items : D → Option (List D)
  | .list ds => some ds
  | .tuple ds => some ds
  | .str z => some (z.cps.toList.map fun c => .str ⟨#[c]⟩)
  | _ => none
def asItems (d : D) (k : List D → Prop) : Prop := match items d with
  | some ds => k ds
  | none => False
def iSeq (K : PySem.W.Frag) (tl : TE) : TI := fun σ H R => tl σ H fun x H1 =>
  (∃ a xs, x = .ref a ∧ SqL K H1 a xs ∧ R (Itl K a) H1) ∨ (∃ a xs, x = .ref a ∧ SqT K H1 a xs ∧ R (Itt K a) H1) ∨ (∃ z, x = .str z ∧ R (Its z) H1)
theorem pi_seq {X : Cx} {tg l : Expr} {tl : TE} (hl : PE X l tl) : PI X tg l (iSeq X.K tl) := ⟨fun pins s σ H R I h => by
  refine thn (hl.run pins s σ H _ I h) fun v s1 ⟨x, H1, I1, r1, q1⟩ => ?_
  have hf : ∀ b ∈ [s1.heap.objs.size], FpOk X pins H1 b := fun b hb => by
    rw [List.mem_singleton.mp hb]
    exact I1.fpOk (Nat.le_refl _) (I1.hok.fresh (Nat.le_refl _))
  rcases q1 with ⟨a, xs, rfl, hq, q⟩ | ⟨a, xs, rfl, hq, q⟩ | ⟨z, rfl, q⟩
  · cases r1
    obtain ⟨its, rv, pl, _⟩ := I1.list hq
    exact wpAny_pyIter_list pl.isList ⟨_, [_], _, _, H1, rfl, I1.kept (t' := s1.toks) fun b o e => Heap.get?_push_of_some _ e, turn_list a _, ⟨_, Heap.get?_push_size _ rfl, rfl, rfl⟩, hf, q⟩
  · cases r1
    obtain ⟨its, rv, pl, _⟩ := I1.tuple hq
    exact wpAny_pyIter_tuple (show s1.heap.IsTuple a its.toArray from pl) ⟨_, [_], _, _, H1, rfl, I1.kept (t' := s1.toks) fun b o e => Heap.get?_push_of_some _ e, turn_tuple a _, ⟨_, Heap.get?_push_size _ rfl, rfl, rfl⟩, hf, q⟩
  · obtain ⟨t, rfl⟩ := r1
    cases hw : z.cps.all (· < 128) with
    | false => exact PySem.wpAny_pyIter_wide hw (pi_one (tk := s1.toks) I1 _ (turn_str _ z t "str_iterator" (.inr rfl)) ⟨_, Heap.get?_push_size _ rfl, rfl, rfl⟩ q)
    | true => exact PySem.wpAny_pyIter_ascii hw (pi_one (tk := s1.toks) I1 _ (turn_str _ z t "str_ascii_iterator" (.inl rfl)) ⟨_, Heap.get?_push_size _ rfl, rfl, rfl⟩ q)⟩
def dItems (m : DM) : DMs := fun ρ R => m ρ fun d => asItems d R
theorem asItems_ok {d : D} {k : List D → Prop} (h : asItems d k) : ∃ ds, items d = some ds ∧ k ds := by
  unfold asItems at h
  split at h
  · exact ⟨_, by assumption, h⟩
  · exact h.elim
theorem iter_list {c : Zc} {H1 : Hp} {a : Addr} {xs : List V} {ds : List D} {gp FP : List Addr} (h : SqL c.K H1 a xs) (hk : ∀ H', Tk H1 H' → (∀ b ∈ FP, H' b = H1 b) → SqL c.K H' a xs) (r : Rps c H1 ds xs gp) (sub : ∀ b ∈ gp, b ∈ FP) : IterOk false c (Itl c.K a) H1 ds FP := by
  have w := walk_list (K := c.K) (a := a) (xs := xs)
  rw [r.len] at w
  refine w.mono (fun H' g => hk H' g.1 g.2.1) fun i H' x H'' hi g y => ?_
  obtain ⟨rfl, e⟩ := y
  obtain ⟨d, fp, e1, e2, e3⟩ := (r.mono g.1 _ _ _ fun b hb => g.2.1 b (sub b hb)).atV e
  exact ⟨Ext.refl _ _, g.2.2, d, fp, e1, .inl e2, fun b hb => sub b (e3 b hb)⟩
theorem iter_tup {c : Zc} {H1 : Hp} {a : Addr} {xs : List V} {ds : List D} {FP : List Addr} (h : SqT c.K H1 a xs) (r : Rps c H1 ds xs FP) : IterOk false c (Itt c.K a) H1 ds FP := by
  have w := walk_tup (K := c.K) (a := a) (xs := xs)
  rw [r.len] at w
  refine w.mono (fun H' g => g.1.sq h) fun i H' x H'' hi g y => ?_
  obtain ⟨rfl, e⟩ := y
  obtain ⟨d, fp, e1, e2, e3⟩ := (r.mono g.1 _ _ _ g.2.1).atV e
  exact ⟨Ext.refl _ _, g.2.2, d, fp, e1, .inl e2, e3⟩
theorem di_seq {te : TE} {m : DM} {U : List Nat} (h : DE K S te m U) : DI false K S (iSeq K te) (dItems m) U := fun G H ρ σ fps E R hm Q q =>
  h G H ρ σ fps E _ hm _ fun d v H1 fp hR e1 s1 r1 n1 f1 => by
    obtain ⟨ds, hi, hR⟩ := asItems_ok hR
    have th : ∀ a ∈ fp, ∃ o, H1 a = some o := fun a ha => let ⟨o, ho, _⟩ := r1.there _ _ _ a ha; ⟨o, ho⟩
    cases d with
    | list es =>
      cases hi
      simp only [Rp] at r1
      obtain ⟨a, xs, gp, rfl, rfl, h1, h2⟩ := r1
      exact .inl ⟨a, xs, rfl, .of h1, q ds _ H1 _ hR e1 s1 (iter_list (c := ⟨K, S⟩) (.of h1) (fun H' _ k => .of (by rw [k a (List.mem_cons_self ..)]; exact h1)) h2 fun b hb => List.mem_cons_of_mem _ hb) n1 th f1⟩
    | tuple es =>
      cases hi
      simp only [Rp] at r1
      obtain ⟨a, xs, rfl, h1, h2⟩ := r1
      exact .inr (.inl ⟨a, xs, rfl, h1.t, q ds _ H1 _ hR e1 s1 (iter_tup (c := ⟨K, S⟩) h1.t h2) n1 th f1⟩)
    | str z =>
      cases hi
      simp only [Rp] at r1
      obtain ⟨rfl, rfl⟩ := r1
      refine .inr (.inr ⟨z, rfl, q _ _ H1 [] hR e1 s1 ?_ n1 th f1⟩)
      have w := walk_str (z := z)
      rw [show z.cps.size = (z.cps.toList.map fun c => (.str ⟨#[c]⟩ : D)).length by simp] at w
      refine w.mono (fun _ _ => trivial) fun i H' x H'' hi g y => ?_
      obtain ⟨rfl, c, e1, rfl⟩ := y
      exact ⟨Ext.refl _ _, g.2.2, .str ⟨#[c]⟩, [], by simp [e1], .inl (str_rp _), fun a ha => ha⟩
    | none => cases hi
    | bool b => cases hi
    | int i => cases hi
    | dict kvs => cases hi
/-- range -/
def rangeD (lo : Int) (n : Nat) (c : Int) : List D := (List.range n).map fun i => .int (lo + (i : Nat) * c)
def dRng1 (ms : DMs) : DMs := fun ρ R => ms ρ fun ds => match ds with
  | [.int j] => (-1000000000 ≤ j ∧ j ≤ 1000000000) ∧ R (rangeD 0 j.toNat 1)
  | _ => False
def dRng2 (ms : DMs) : DMs := fun ρ R => ms ρ fun ds => match ds with
  | [.int i, .int j] => (-1000000000 ≤ i ∧ i ≤ 1000000000 ∧ -1000000000 ≤ j ∧ j ≤ 1000000000) ∧ R (rangeD i (j - i).toNat 1)
  | _ => False
theorem iter_range {c : Zc} {H1 : Hp} {lo : Int} {n : Nat} : IterOk false c (Itr lo n) H1 (rangeD lo n 1) [] := by
  have w := walk_range (lo := lo) (n := n)
  have e : (rangeD lo n 1).length = n := by simp [rangeD]
  unfold IterOk
  rw [e]
  refine w.mono (fun _ _ => trivial) fun i H' x H'' hi g y => ?_
  obtain ⟨rfl, rfl⟩ := y
  exact ⟨Ext.refl _ _, g.2.2, .int (lo + i), [], by simp [rangeD, hi], .inl (int_rp _), fun a ha => ha⟩
theorem di_rng1 {t : TA} {ms : DMs} {U : List Nat} (h : DA K S t ms U) : DI false K S (iRng1 t) (dRng1 ms) [] := fun G H ρ σ fps E R hm Q q =>
  h G H ρ σ fps E _ hm _ fun ds vs H1 fp hR e1 s1 r1 n1 f1 => by
    split at hR
    · rename_i j
      simp only [Rps] at r1
      obtain ⟨x, ys, g1, g2, rfl, rfl, h1, rfl, rfl⟩ := r1
      exact ⟨j, by rw [rp_int h1], by omega, by omega, q _ _ H1 [] hR.2 e1 s1 iter_range .nil (fun a ha => by cases ha) .nil⟩
    · exact hR.elim
theorem di_rng2 {t : TA} {ms : DMs} {U : List Nat} (h : DA K S t ms U) : DI false K S (iRng2 t) (dRng2 ms) [] := fun G H ρ σ fps E R hm Q q =>
  h G H ρ σ fps E _ hm _ fun ds vs H1 fp hR e1 s1 r1 n1 f1 => by
    split at hR
    · rename_i i j
      simp only [Rps] at r1
      obtain ⟨x, ys, g1, g2, rfl, rfl, h1, y, zs, g3, g4, rfl, rfl, h2, rfl, rfl⟩ := r1
      exact ⟨i, j, by rw [rp_int h1, rp_int h2], by omega, q _ _ H1 [] hR.2 e1 s1 iter_range .nil (fun a ha => by cases ha) .nil⟩
    · exact hR.elim
/-! ### targets -/
/-- only the slots of W are stored: they hold what lies in fp -/
structure GOk (W : List Nat) (fp : List Addr) (ρ : En) (σ : L2.St) (fps : Nat → List Addr) (ρ' : En) (σ' : L2.St) (fps' : Nat → List Addr) : Prop where
  len : ρ'.length = ρ.length
  off : ∀ j, j ∉ W → σ'[j]? = σ[j]? ∧ ρ'[j]? = ρ[j]? ∧ fps' j = fps j
  on : ∀ j, j ∈ W → j < ρ.length → (∀ a ∈ fps' j, a ∈ fp) ∧ ¬ isOwn ρ'[j]?
abbrev DMg := D → En → (En → Prop) → Prop
/-- the target g takes a datum that shares no list with an own one -/
def DG (w : Bool) (K : PySem.W.Frag) (S : Option (Addr × Addr)) (g : TG) (m : DMg) (W : List Nat) : Prop :=
  ∀ (G H : Hp) (ρ : En) (σ : L2.St) (fps : Nat → List Addr), EnvAt ⟨K, S⟩ G H ρ σ fps → ∀ (d : D) (v : V) (fp : List Addr), RpW w ⟨K, S⟩ H d v fp → NoS ⟨K, S⟩ fp → (∀ i, i < ρ.length → isOwn ρ[i]? → ∀ a ∈ fps i, a ∉ fp) →
    ∀ R : En → Prop, m d ρ R → ∀ Nn : L2.St → Hp → Prop, (∀ ρ' σ' fps', R ρ' → EnvAt ⟨K, S⟩ G H ρ' σ' fps' → GOk W fp ρ σ fps ρ' σ' fps' → Nn σ' H) → g v σ H Nn
theorem EnvAt.setVal {c : Zc} {G H : Hp} {ρ : En} {σ : L2.St} {fps : Nat → List Addr} (E : EnvAt c G H ρ σ fps) {d : D} {v : V} {fp : List Addr} (r : Rp c H d v fp) (ns : NoS c fp) (sep : ∀ i, i < ρ.length → isOwn ρ[i]? → ∀ a ∈ fps i, a ∉ fp) (i : Nat) :
    EnvAt c G H (ρ.set i (.val d)) (σ.set i (some v)) (fun j => if j = i then fp else fps j) := by
  refine ⟨by simp [E.len], E.ext, E.src, fun j sl h => ?_, fun j k hne hj hk ho a ha hb => ?_⟩
  · by_cases hji : j = i
    · subst hji
      have hl : j < ρ.length := by
        have := (List.getElem?_eq_some_iff.mp h).1
        simpa using this
      rw [List.getElem?_set_self hl] at h
      cases h
      have hl2 : j < σ.length := by rw [E.len]; exact hl
      rw [List.getElem?_set_self hl2]
      simp only [if_true]
      exact ⟨v, rfl, r, ns⟩
    · rw [List.getElem?_set_ne (Ne.symm hji)] at h ⊢
      simp only [if_neg hji]
      exact E.ok j sl h
  · have hj' : j < ρ.length := by simpa using hj
    have hk' : k < ρ.length := by simpa using hk
    by_cases hji : j = i
    · subst hji
      rw [List.getElem?_set_self hj'] at ho
      exact ho
    · rw [List.getElem?_set_ne (Ne.symm hji)] at ho
      simp only [if_neg hji] at ha
      by_cases hki : k = i
      · simp only [if_pos hki] at hb
        exact sep j hj' ho a ha hb
      · simp only [if_neg hki] at hb
        exact E.sep j k hne hj' hk' ho a ha hb
def dgName (i : Nat) : DMg := fun d ρ R => R (ρ.set i (.val d))
theorem dg_name (i : Nat) : DG false K S (gName i) (dgName i) [i] := fun G H ρ σ fps E d v fp r ns sep R hm Nn q => by
  refine q _ _ _ hm (E.setVal r.strong ns sep i) ⟨by simp, fun j hj => ?_, fun j hj hl => ?_⟩
  · have hji : j ≠ i := fun e => hj (List.mem_singleton.mpr e)
    refine ⟨List.getElem?_set_ne (Ne.symm hji), List.getElem?_set_ne (Ne.symm hji), if_neg hji⟩
  · have e := List.mem_singleton.mp hj
    subst e
    refine ⟨fun a ha => by simpa using ha, ?_⟩
    rw [List.getElem?_set_self hl]
    exact id
/-- several targets -/
abbrev DMgs := List D → En → (En → Prop) → Prop
def DGs (K : PySem.W.Frag) (S : Option (Addr × Addr)) (g : TGs) (m : DMgs) (W : List Nat) : Prop :=
  ∀ (G H : Hp) (ρ : En) (σ : L2.St) (fps : Nat → List Addr), EnvAt ⟨K, S⟩ G H ρ σ fps → ∀ (ds : List D) (vs : List V) (fp : List Addr), Rps ⟨K, S⟩ H ds vs fp → NoS ⟨K, S⟩ fp → (∀ i, i < ρ.length → isOwn ρ[i]? → ∀ a ∈ fps i, a ∉ fp) →
    ∀ R : En → Prop, m ds ρ R → ∀ Nn : L2.St → Hp → Prop, (∀ ρ' σ' fps', R ρ' → EnvAt ⟨K, S⟩ G H ρ' σ' fps' → GOk W fp ρ σ fps ρ' σ' fps' → Nn σ' H) → g vs σ H Nn
def dgNil : DMgs := fun ds ρ R => ds = [] ∧ R ρ
def dgCons (m : DMg) (ms : DMgs) : DMgs := fun ds ρ R => match ds with
  | d :: r => m d ρ fun ρ' => ms r ρ' R
  | [] => False
theorem dgs_nil : DGs K S gNil dgNil [] := fun G H ρ σ fps E ds vs fp r ns sep R hm Nn q => by
  obtain ⟨rfl, hm⟩ := hm
  simp only [Rps] at r
  exact ⟨r.1, q ρ σ fps hm E ⟨rfl, fun j _ => ⟨rfl, rfl, rfl⟩, fun j hj => by cases hj⟩⟩
theorem dgs_cons {g : TG} {gs : TGs} {m : DMg} {ms : DMgs} {W1 W2 : List Nat} (h1 : DG false K S g m W1) (h2 : DGs K S gs ms W2) : DGs K S (gCons g gs) (dgCons m ms) (W1 ++ W2) := fun G H ρ σ fps E ds vs fp r ns sep R hm Nn q => by
  cases ds with
  | nil => exact hm.elim
  | cons d ds =>
    simp only [Rps] at r
    obtain ⟨x, ys, f1, f2, rfl, rfl, r1, r2⟩ := r
    refine ⟨x, ys, rfl, h1 G H ρ σ fps E d x f1 (.inl r1) (fun a ha => ns a (List.mem_append_left _ ha)) (fun i hi ho a ha hb => sep i hi ho a ha (List.mem_append_left _ hb)) _ hm _ fun ρ1 σ1 fps1 hR E1 g1 => ?_⟩
    refine h2 G H ρ1 σ1 fps1 E1 ds ys f2 r2 (fun a ha => ns a (List.mem_append_right _ ha)) (fun i hi ho a ha hb => ?_) _ hR _ fun ρ2 σ2 fps2 hR2 E2 g2 => q ρ2 σ2 fps2 hR2 E2 ⟨g2.len.trans g1.len, fun j hj => ?_, fun j hj hl => ?_⟩
    · rw [g1.len] at hi
      by_cases hw : i ∈ W1
      · exact (g1.on i hw hi).2 ho
      · obtain ⟨e1, e2, e3⟩ := g1.off i hw
        rw [e2] at ho
        rw [e3] at ha
        exact sep i hi ho a ha (List.mem_append_right _ hb)
    · have n1 : j ∉ W1 := fun z => hj (List.mem_append_left _ z)
      have n2 : j ∉ W2 := fun z => hj (List.mem_append_right _ z)
      obtain ⟨a1, a2, a3⟩ := g1.off j n1
      obtain ⟨b1, b2, b3⟩ := g2.off j n2
      exact ⟨b1.trans a1, b2.trans a2, b3.trans a3⟩
    · by_cases hw : j ∈ W2
      · have := g2.on j hw (by rw [g1.len]; exact hl)
        exact ⟨fun a ha => List.mem_append_right _ (this.1 a ha), this.2⟩
      · have hw1 : j ∈ W1 := (List.mem_append.mp hj).resolve_right hw
        obtain ⟨b1, b2, b3⟩ := g2.off j hw
        rw [b2, b3]
        exact ⟨fun a ha => List.mem_append_left _ ((g1.on j hw1 hl).1 a ha), (g1.on j hw1 hl).2⟩
def asT (d : D) (k : List D → Prop) : Prop := match d with
  | .tuple ds => k ds
  | _ => False
def dgTup (n : Nat) (ms : DMgs) : DMg := fun d ρ R => asT d fun ds => ds.length = n ∧ ms ds ρ R
theorem dg_tup {w : Bool} {n : Nat} {gs : TGs} {ms : DMgs} {W : List Nat} (h : DGs K S gs ms W) : DG w K S (gTup K n gs) (dgTup n ms) W := fun G H ρ σ fps E d v fp r ns sep R hm Nn q => by
  cases d with
  | tuple ds =>
    obtain ⟨a, xs, rfl, h1, h2⟩ := r.tup
    obtain ⟨hl, hm⟩ := hm
    exact ⟨a, xs, rfl, h1, by rw [h2.len]; exact hl, h G H ρ σ fps E ds xs fp h2 ns sep R hm Nn q⟩
  | _ => exact hm.elim
/-! ### comprehensions -/
/-- inside a comprehension: its own names empty, nothing is changed -/
def demote : En → En := List.map fun s => match s with
  | .own d => .val d
  | s => s
def hide : List Nat → En → En
  | [], ρ => ρ
  | i :: vs, ρ => (hide vs ρ).set i .unk
theorem hide_length (ρ : En) : ∀ vs : List Nat, (hide vs ρ).length = ρ.length
  | [] => rfl
  | v :: vs => by unfold hide; rw [List.length_set, hide_length ρ vs]
theorem hide_out {ρ : En} {i : Nat} : ∀ {vs : List Nat}, i ∉ vs → (hide vs ρ)[i]? = ρ[i]?
  | [], _ => rfl
  | v :: vs, h => by
    unfold hide
    rw [List.getElem?_set_ne fun e => h (by rw [e]; exact List.mem_cons_self)]
    exact hide_out fun m => h (List.mem_cons_of_mem _ m)
theorem hide_in {ρ : En} {i : Nat} : ∀ {vs : List Nat} {s : Sl}, i ∈ vs → (hide vs ρ)[i]? = some s → s = .unk
  | [], s, h, e => by cases h
  | v :: vs, s, h, e => by
    unfold hide at e
    by_cases hv : v = i
    · subst hv
      have hl : v < (hide vs ρ).length := by
        have := (List.getElem?_eq_some_iff.mp e).1
        simpa using this
      rw [List.getElem?_set_self hl] at e
      exact (Option.some.inj e).symm
    · rw [List.getElem?_set_ne hv] at e
      exact hide_in ((List.mem_cons.mp h).resolve_left (Ne.symm hv)) e
theorem demote_length (ρ : En) : (demote ρ).length = ρ.length := by simp [demote]
theorem demote_own {ρ : En} {i : Nat} : ¬ isOwn (demote ρ)[i]? := by
  unfold demote
  rw [List.getElem?_map]
  cases ρ[i]? with
  | none => exact id
  | some s => cases s <;> exact id
theorem EnvAt.inner {c : Zc} {G H : Hp} {ρ : En} {σ : L2.St} {fps : Nat → List Addr} (E : EnvAt c G H ρ σ fps) (vs : List Nat) :
    EnvAt c (fun _ => none) H (hide vs (demote ρ)) (wipe σ vs) (fun j => if j ∈ vs then [] else fps j) := by
  refine ⟨by rw [wipe_length, hide_length, demote_length]; exact E.len, fun a o h _ => (by cases h), E.src, fun j sl h => ?_, fun j k _ _ _ ho => ?_⟩
  · by_cases hj : j ∈ vs
    · rw [hide_in hj h]
      simp only [if_pos hj]
      rfl
    · rw [hide_out hj] at h
      rw [wipe_out hj]
      simp only [if_neg hj]
      unfold demote at h
      rw [List.getElem?_map] at h
      cases hs : ρ[j]? with
      | none => rw [hs] at h; cases h
      | some s =>
        rw [hs] at h
        have ok := E.ok j s hs
        cases s with
        | unk => cases h; exact ok
        | val d => cases h; exact ok
        | own d => cases h; obtain ⟨v, a1, a2, a3, _⟩ := ok; exact ⟨v, a1, a2, a3⟩
  · by_cases hj : j ∈ vs
    · exfalso
      cases hs : (hide vs (demote ρ))[j]? with
      | none => rw [hs] at ho; exact ho
      | some s =>
        have := hide_in hj hs
        rw [hs, this] at ho
        exact ho
    · rw [hide_out hj] at ho
      exact (demote_own ho).elim
def compD (tg : DMg) (mt : DMt) (me : DM) (ρ : En) (R : List D → Prop) : List D → List D → Prop
  | [], acc => R acc
  | x :: xs, acc => tg x ρ fun ρ' => mt ρ' fun b => cond b (me ρ' fun y => compD tg mt me ρ R xs (acc ++ [y])) (compD tg mt me ρ R xs acc)
def dComp (mi : DMs) (tg : DMg) (mt : DMt) (me : DM) (vs : List Nat) : DM := fun ρ R => mi ρ fun xs => xs.length ≤ 10000000 ∧ compD tg mt me (hide vs (demote ρ)) (fun ys => R (.list ys)) xs []
def compU (vs Ue Ui : List Nat) : List Nat := if Ue = [] then [] else 1000 :: (Ue ++ Ui)
theorem wipe_same {σ σ2 : L2.St} : ∀ {vs : List Nat}, σ2.length = σ.length → (∀ j, j ∉ vs → σ2[j]? = σ[j]?) → wipe σ2 vs = wipe σ vs := fun {vs} hl h => by
  apply List.ext_getElem?
  intro i
  by_cases hi : i ∈ vs
  · have both : ∀ τ : L2.St, τ.length = σ.length → (wipe τ vs)[i]? = if i < σ.length then some none else none := fun τ hτ => by
      cases e : (wipe τ vs)[i]? with
      | none =>
        have := List.getElem?_eq_none_iff.mp e
        rw [wipe_length, hτ] at this
        rw [if_neg (by omega)]
      | some o =>
        have hlt := (List.getElem?_eq_some_iff.mp e).1
        rw [wipe_length, hτ] at hlt
        rw [if_pos hlt]
        cases o with
        | none => rfl
        | some x => exact absurd hi (wipe_some e).2
    rw [both σ2 hl, both σ rfl]
  · rw [wipe_out hi, wipe_out hi]
    exact h i hi
theorem wipe_wipe {σ : L2.St} {vs : List Nat} : wipe (wipe σ vs) vs = wipe σ vs := wipe_same (wipe_length σ vs) fun j hj => wipe_out hj
theorem de_lc {wi : TI} {g : TG} {tt : TT} {te : TE} {vs : List Nat} {mi : DMs} {mg : DMg} {mt : DMt} {me : DM} {Ui Ue W : List Nat} {w : Bool} (hi : DI w K S wi mi Ui) (hg : DG w K S g mg W) (ht : DT K S tt mt) (he : DE K S te me Ue) (hW : W.all (fun j => vs.contains j) = true) :
    DE K S (tLc wi g tt te vs) (dComp mi mg mt me vs) (compU vs Ue Ui) := fun G H ρ σ fps E R hm Q q =>
  hi G H ρ σ fps E _ hm _ fun ds J H1 FP hR e1 s1 J1 nF tF fF Dd hD => by
    obtain ⟨hlen, hc⟩ := hR
    have hWv : ∀ j, j ∈ W → j ∈ vs := fun j hj => by
      have := List.all_eq_true.mp hW j hj
      simpa using this
    have hDn := s1.fresh hD
    -- what holds ahead of turn i
    let Pv : Nat → Hp → Prop := fun i Hi => Ext ⟨K, S⟩ H1 Hi ∧ SrcAt ⟨K, S⟩ Hi ∧ ∃ (acc : List D) (av : List V) (fa : List Addr), Hi Dd = some (.lst av) ∧ Rps ⟨K, S⟩ Hi acc av fa ∧ NoS ⟨K, S⟩ fa ∧ Dd ∉ fa ∧ From H fps ρ.length (compU vs Ue Ui) fa ∧ acc.length ≤ i ∧
      compD mg mt me (hide vs (demote ρ)) (fun ys => R (.list ys)) (ds.drop i) acc
    refine lc_it J1 (D := Dd) Pv ?_ (fun i Hi hle p => ?_) (fun i x Hi Hi' hlt p y => ?_) fun Hn p => ?_
    · exact ⟨Ext.new hD, s1.new hD, [], [], [], upd_same, .nil, .nil, (by intro z; cases z), .nil, Nat.le_refl _, hc⟩
    · exact ⟨p.1.tk s1, fun a ha => by
        obtain ⟨o, ho⟩ := tF a ha
        rw [ho]
        exact p.1 a o ho (nF a ha), p.2.1⟩
    · obtain ⟨x1, sx, acc, av, fa, hDi, ra, na, da, frm, hal, hcc⟩ := p
      obtain ⟨y1, sy, d, fp, hd, rd, subd⟩ := y
      have E2 := ((E.step (e1.trans (x1.trans y1)) sy).inner vs)
      have hdrop : ds.drop i = d :: ds.drop (i + 1) := by
        obtain ⟨hlt', hd'⟩ := List.getElem?_eq_some_iff.mp hd
        rw [← hd']
        exact List.drop_eq_getElem_cons hlt'
      rw [hdrop] at hcc
      have nfp : NoS ⟨K, S⟩ fp := fun a ha => nF a (subd a ha)
      refine hg _ Hi' _ _ _ E2 d x fp rd nfp (fun j _ ho => ?_) _ hcc _ fun ρ2 σ2 fps2 hR2 E3 g3 => ?_
      · exfalso
        by_cases hj : j ∈ vs
        · cases hs : (hide vs (demote ρ))[j]? with
          | none => rw [hs] at ho; exact ho
          | some s =>
            have := hide_in hj hs
            rw [hs, this] at ho
            exact ho
        · rw [hide_out hj] at ho
          exact demote_own ho
      have hl2 : ρ2.length = ρ.length := by rw [g3.len, hide_length, demote_length]
      have hs2 : σ2.length = (wipe σ vs).length := by rw [E3.len, hl2, wipe_length, E.len]
      refine ⟨(wipe_same hs2 fun j hj => (g3.off j fun z => hj (hWv j z)).1).trans wipe_wipe, ?_⟩
      -- what the slots hold within, told by those outside
      have hin : ∀ u a, u < ρ2.length → a ∈ fps2 u → a ∈ FP ∨ (u < ρ.length ∧ a ∈ fps u) := fun u a hu ha => by
        rw [hl2] at hu
        by_cases hw : u ∈ W
        · exact .inl (subd a ((g3.on u hw (by rw [hide_length, demote_length]; exact hu)).1 a ha))
        · rw [(g3.off u hw).2.2] at ha
          by_cases hv : u ∈ vs
          · simp only [if_pos hv] at ha
            cases ha
          · simp only [if_neg hv] at ha
            exact .inr ⟨hu, ha⟩
      refine ht _ Hi' ρ2 σ2 fps2 E3 _ hR2 _ fun b H3 hb x3 s3 => ?_
      have E4 := E3.step x3 s3
      cases b with
      | false =>
        refine iteF ⟨x1.trans (y1.trans x3), s3, acc, av, fa, x3 _ _ (y1 _ _ hDi hDn) hDn, (ra.ext na y1 sx).ext na x3 sy, na, da, frm, Nat.le_succ_of_le hal, hb⟩
      | true =>
        refine iteT (he _ H3 ρ2 σ2 fps2 E4 _ hb _ fun y v H4 gp hc4 x4 s4 r4 n4 f4 => ?_)
        have xx : Ext ⟨K, S⟩ Hi H4 := y1.trans (x3.trans x4)
        have hD4 : H4 Dd = some (.lst av) := xx _ _ hDi hDn
        have hDg : Dd ∉ gp := fun hm => by
          rcases f4.1 Dd hm with z | ⟨u, hu, hul, z⟩
          · rw [x3 _ _ (y1 _ _ hDi hDn) hDn] at z
            cases z
          · rcases hin u Dd hul z with z | ⟨z1, z⟩
            · obtain ⟨o, ho⟩ := tF Dd z
              rw [hD] at ho
              cases ho
            · obtain ⟨o, ho, _⟩ := E.thereAt z1 Dd z
              rw [e1 _ _ ho hDn] at hD
              cases hD
        have hk : ∀ b : Addr, b ∈ fa ++ gp → upd H4 Dd (.lst (av ++ [v])) b = H4 b := fun b hb' => upd_ne fun z => by
          rcases List.mem_append.mp hb' with z' | z'
          · exact da (z ▸ z')
          · exact hDg (z ▸ z')
        have tk : Tk H4 (upd H4 Dd (.lst (av ++ [v]))) := fun b o ho hf => by
          rw [upd_ne fun z => by rw [z, hD4] at ho; cases ho; exact hf]
          exact ho
        refine ⟨av, hD4, ?_, fun b o ho hnb => ?_, s4.own hDn, acc ++ [y], av ++ [v], fa ++ gp, upd_same, ?_, na.app n4, ?_, ?_, ?_, hc4⟩
        · have h1 := ra.len
          have h2 : i < ds.length := hlt
          exact Nat.lt_of_lt_of_le (by omega : av.length < 10000000) (lim_ok (Nat.le_refl _))
        · rw [upd_ne fun z => by rw [z, hD] at ho; cases ho]
          exact (x1.trans xx) b o ho hnb
        · exact (ra.ext na xx sx).app (.one r4) |>.mono tk _ _ _ hk
        · intro hm
          rcases List.mem_append.mp hm with z | z
          · exact da z
          · exact hDg z
        · have hne : ∀ a ∈ gp, H a = none ∨ ∃ u ∈ compU vs Ue Ui, u < ρ.length ∧ a ∈ fps u := fun a ha => by
            rcases f4.1 a ha with z | ⟨u, hu, hul, z⟩
            · exact .inl ((e1.trans (x1.trans (y1.trans x3))).free z (n4 a ha))
            · have hUe : Ue ≠ [] := fun z => by rw [z] at hu; cases hu
              unfold compU
              rw [if_neg hUe]
              rcases hin u a hul z with z | ⟨z1, z⟩
              · exact (fF.1 a z).imp id fun ⟨u', hu', q'⟩ => ⟨u', List.mem_cons_of_mem _ (List.mem_append_right _ hu'), q'⟩
              · exact .inr ⟨u, List.mem_cons_of_mem _ (List.mem_append_left _ hu), z1, z⟩
          refine ⟨fun a ha => (List.mem_append.mp ha).elim (frm.1 a) (hne a), fun z => ?_⟩
          have hUe : Ue = [] := by
            unfold compU at z
            split at z
            · assumption
            · cases z
          subst hUe
          refine List.nodup_append.mpr ⟨frm.2 z, f4.2 rfl, fun a ha b hb' q' => ?_⟩
          subst q'
          have h1 := f4.off a hb'
          obtain ⟨o, ho, _⟩ := ra.there _ _ _ a ha
          rw [x3 _ _ (y1 _ _ ho (na a ha)) (na a ha)] at h1
          cases h1
        · rw [List.length_append]
          exact Nat.succ_le_succ hal
    · obtain ⟨x1, sx, acc, av, fa, hDi, ra, na, da, frm, hal, hcc⟩ := p
      rw [List.drop_eq_nil_of_le (Nat.le_refl _)] at hcc
      refine q (.list acc) (.ref Dd) Hn (Dd :: fa) hcc (e1.trans x1) sx ?_ ?_ ⟨fun a ha => ?_, fun z => ?_⟩
      · simp only [Rp]
        exact ⟨Dd, av, fa, rfl, rfl, hDi, ra⟩
      · intro a ha
        rcases List.mem_cons.mp ha with rfl | ha
        · exact hDn
        · exact na a ha
      · rcases List.mem_cons.mp ha with rfl | ha
        · exact .inl (e1.free hD hDn)
        · exact frm.1 a ha
      · exact List.nodup_cons.mpr ⟨da, frm.2 z⟩
end
end Z
set_option Elab.async false
set_option linter.all false
set_option maxRecDepth 100000
set_option maxHeartbeats 2000000
/-! Z3: statements, defs. -/
namespace Z
open PySem L2
section
variable {K : PySem.W.Frag} {S : Option (Addr × Addr)}
theorem Off.refl (W : List Nat) (σ : L2.St) : Off W σ σ := ⟨rfl, fun _ _ => rfl⟩
theorem Off.trans {V W : List Nat} {σ σ1 σ2 : L2.St} (a : Off V σ σ1) (b : Off W σ1 σ2) : Off (V ++ W) σ σ2 := ⟨b.len.trans a.len, fun j hj =>
  (b.off j fun z => hj (List.mem_append_right _ z)).trans (a.off j fun z => hj (List.mem_append_left _ z))⟩
theorem Off.up {V W : List Nat} {σ σ1 : L2.St} (a : Off V σ σ1) (h : ∀ j ∈ V, j ∈ W) : Off W σ σ1 := ⟨a.len, fun j hj => a.off j fun z => hj (h j z)⟩
theorem Off.join {W : List Nat} {σ σ1 σ2 : L2.St} (a : Off W σ σ1) (b : Off W σ1 σ2) : Off W σ σ2 := ⟨b.len.trans a.len, fun j hj => (b.off j hj).trans (a.off j hj)⟩
/-! ### small statements -/
def sNext : DMS := fun ρ R => R.nx ρ
theorem ds_next : DS K S tNext sNext [] := fun G H ρ σ fps E R hm D d => d.nx ρ σ H fps hm E (.refl _ _)
def sBreak : DMS := fun ρ R => R.bk ρ
def sCont : DMS := fun ρ R => R.ct ρ
/-- what comes next, held back until its environment is known -/
def later (b : DMS) (R : DEnds) (_ : Hold R) : En → Prop := fun ρ' => b ρ' R
theorem later_cons (b : DMS) (R : DEnds) (t : Hold R) (s : Sl) (ρ : En) : later b R t (s :: ρ) = b (s :: ρ) R := rfl
def sSeq (a b : DMS) : DMS := fun ρ R => a ρ { R with nx := later b R .mk }
theorem EndsOk.up {G : Hp} {V W : List Nat} {σ : L2.St} {R : DEnds} {D : Ends} (d : EndsOk K S G W σ R D) (h : ∀ j ∈ V, j ∈ W) : EndsOk K S G V σ R D :=
  ⟨fun ρ' σ' H' f a b o => d.nx ρ' σ' H' f a b (o.up h), fun ρ' σ' H' f a b o => d.bk ρ' σ' H' f a b (o.up h), fun ρ' σ' H' f a b o => d.ct ρ' σ' H' f a b (o.up h), d.rt⟩
theorem EndsOk.after {G : Hp} {W : List Nat} {σ σ1 : L2.St} {R : DEnds} {D : Ends} (d : EndsOk K S G W σ R D) (o : Off W σ σ1) : EndsOk K S G W σ1 R D :=
  ⟨fun ρ' σ' H' f a b o' => d.nx ρ' σ' H' f a b (o.join o'), fun ρ' σ' H' f a b o' => d.bk ρ' σ' H' f a b (o.join o'), fun ρ' σ' H' f a b o' => d.ct ρ' σ' H' f a b (o.join o'), d.rt⟩
theorem ds_seq {t u : TS} {m1 m2 : DMS} {V W : List Nat} (h1 : DS K S t m1 V) (h2 : DS K S u m2 W) : DS K S (tSeq t u) (sSeq m1 m2) (V ++ W) := fun G H ρ σ fps E R hm D d => by
  have l : ∀ j ∈ V, j ∈ V ++ W := fun j h => List.mem_append_left _ h
  have r : ∀ j ∈ W, j ∈ V ++ W := fun j h => List.mem_append_right _ h
  exact h1 G H ρ σ fps E _ hm _ ⟨fun ρ1 σ1 H1 f1 hR E1 o1 => h2 G H1 ρ1 σ1 f1 E1 R hR D ((d.after (o1.up l)).up r), (d.up l).bk, (d.up l).ct, d.rt⟩
def sIf (c : DMt) (a b : DMS) : DMS := fun ρ R => c ρ fun k => cond k (a ρ R) (b ρ R)
theorem ds_if {c : TT} {t u : TS} {mc : DMt} {m1 m2 : DMS} {V W : List Nat} (hc : DT K S c mc) (h1 : DS K S t m1 V) (h2 : DS K S u m2 W) : DS K S (tIfS c t u) (sIf mc m1 m2) (V ++ W) := fun G H ρ σ fps E R hm D d =>
  hc G H ρ σ fps E _ hm _ fun b H1 hR e1 s1 => by
    cases b with
    | true => exact iteT (h1 G H1 ρ σ fps (E.step e1 s1) R hR D (d.up fun j h => List.mem_append_left _ h))
    | false => exact iteF (h2 G H1 ρ σ fps (E.step e1 s1) R hR D (d.up fun j h => List.mem_append_right _ h))
def sDrop (m : DM) : DMS := fun ρ R => m ρ fun _ => R.nx ρ
theorem back_none {c : Zc} {G H : Hp} (e : Ext c G H) {a : Addr} (h : H a = none) (n : ¬ c.has a) : G a = none := e.free h n
def sRet (m : DM) : DMS := fun ρ R => m ρ R.rt
theorem ds_ret {te : TE} {m : DM} (h : DE K S te m []) : DS K S (tRet te) (sRet m) [] := fun G H ρ σ fps E R hm D d =>
  h G H ρ σ fps E _ hm _ fun x v H1 fp hR e1 s1 r n f => d.rt x v H1 fp hR (E.ext.trans e1) s1 r n (f.2 rfl) fun a ha => back_none E.ext (f.off a ha) (n a ha)
def sRetV (i : Nat) : DMS := fun ρ R => match ρ[i]? with
  | some (.own d) => R.rt d
  | _ => False
/-- return x, x an own list -/
theorem ds_retV (i : Nat) : DS K S (tRet (tVar i)) (sRetV i) [] := fun G H ρ σ fps E R hm D d => by
  unfold sRetV at hm
  split at hm
  · rename_i x e
    obtain ⟨v, e1, r, n, nd, g⟩ := E.ok i _ e
    exact ⟨v, e1, d.rt x v H _ hm E.ext E.src r n nd g⟩
  · exact hm.elim
def sRetN : DMS := fun ρ R => R.rt .none
/-! ### stores -/
theorem EnvAt.setOwn {c : Zc} {G H : Hp} {ρ : En} {σ : L2.St} {fps : Nat → List Addr} (E : EnvAt c G H ρ σ fps) {d : D} {v : V} {fp : List Addr} (r : Rp c H d v fp) (ns : NoS c fp) (nd : fp.Nodup) (g : ∀ a ∈ fp, G a = none) (i : Nat)
    (sep : ∀ j, j < ρ.length → j ≠ i → ∀ a ∈ fp, a ∉ fps j) : EnvAt c G H (ρ.set i (.own d)) (σ.set i (some v)) (fun j => if j = i then fp else fps j) := by
  refine ⟨by simp [E.len], E.ext, E.src, fun j sl h => ?_, fun j k hne hj hk ho a ha hb => ?_⟩
  · by_cases hji : j = i
    · subst hji
      have hl : j < ρ.length := by
        have := (List.getElem?_eq_some_iff.mp h).1
        simpa using this
      rw [List.getElem?_set_self hl] at h
      cases h
      have hl2 : j < σ.length := by rw [E.len]; exact hl
      rw [List.getElem?_set_self hl2]
      simp only [if_true]
      exact ⟨v, rfl, r, ns, nd, g⟩
    · rw [List.getElem?_set_ne (Ne.symm hji)] at h ⊢
      simp only [if_neg hji]
      exact E.ok j sl h
  · have hj' : j < ρ.length := by simpa using hj
    have hk' : k < ρ.length := by simpa using hk
    by_cases hji : j = i
    · subst hji
      simp only [if_true] at ha
      simp only [if_neg (Ne.symm hne)] at hb
      exact sep k hk' (Ne.symm hne) a ha hb
    · rw [List.getElem?_set_ne (Ne.symm hji)] at ho
      simp only [if_neg hji] at ha
      by_cases hki : k = i
      · simp only [if_pos hki] at hb
        exact sep j hj' hji a hb ha
      · simp only [if_neg hki] at hb
        exact E.sep j k hne hj' hk' ho a ha hb
theorem off_set {i : Nat} {x : Option V} {σ : L2.St} : Off [i] σ (σ.set i x) := ⟨by simp, fun j hj => List.getElem?_set_ne fun e => hj (by simp [e])⟩
def sAsg (i : Nat) (m : DM) : DMS := fun ρ R => m ρ fun d => R.nx (ρ.set i (.own d))
theorem ds_asg (i : Nat) {te : TE} {m : DM} (h : DE K S te m []) : DS K S (tAsg te (gName i)) (sAsg i m) [i] := fun G H ρ σ fps E R hm D d =>
  h G H ρ σ fps E _ hm _ fun x v H1 fp hR e1 s1 r n f => by
    have E1 := E.step e1 s1
    refine d.nx _ _ H1 _ hR (E1.setOwn r n (f.2 rfl) (fun a ha => back_none E.ext (f.off a ha) (n a ha)) i fun j hj _ a ha hb => ?_) off_set
    obtain ⟨o, ho, _⟩ := E.thereAt hj a hb
    rw [f.off a ha] at ho
    cases ho
/-- all of U hold what is only read -/
def valsAt (ρ : En) (U : List Nat) : Prop := ∀ u ∈ U, ¬ isOwn ρ[u]?
def sAsgG (U : List Nat) (m : DM) (mg : DMg) : DMS := fun ρ R => valsAt ρ U ∧ m ρ fun d => mg d ρ R.nx
/-- any target; what is stored is only read from there on -/
theorem ds_asgG {te : TE} {g : TG} {m : DM} {mg : DMg} {U W : List Nat} (h : DE K S te m U) (hg : DG false K S g mg W) : DS K S (tAsg te g) (sAsgG U m mg) W := fun G H ρ σ fps E R hm D d =>
  h G H ρ σ fps E _ hm.2 _ fun x v H1 fp hR e1 s1 r n f => by
    have E1 := E.step e1 s1
    refine hg G H1 ρ σ fps E1 x v fp (.inl r) n (fun i hi ho a ha hb => ?_) _ hR _ fun ρ' σ' fps' hR' E' g' => d.nx ρ' σ' H1 fps' hR' E' ⟨by rw [E'.len, g'.len, E.len], fun j hj => (g'.off j hj).1⟩
    rcases f.1 a hb with z | ⟨u, hu, hul, z⟩
    · obtain ⟨o, ho', _⟩ := E.thereAt hi a ha
      rw [z] at ho'
      cases ho'
    · have hne : i ≠ u := fun z' => hm.1 u hu (z' ▸ ho)
      exact E.sep i u hne hi hul ho a ha z
def sPar (i j : Nat) (ms : DMs) : DMS := fun ρ R => ms ρ fun ds => match ds with
  | [x, y] => R.nx ((ρ.set i (.own x)).set j (.own y))
  | _ => False
theorem ds_par (i j : Nat) {t : TA} {ms : DMs} (h : DA K S t ms []) (hij : i ≠ j := by decide) : DS K S (tPar i j t) (sPar i j ms) [i, j] := fun G H ρ σ fps E R hm D d =>
  h G H ρ σ fps E _ hm _ fun ds vs H1 fp hR e1 s1 r n f => by
    split at hR
    · rename_i x y
      simp only [Rps] at r
      obtain ⟨v, ys, g1, g2, rfl, rfl, r1, w, zs, g3, g4, rfl, rfl, r2, rfl, rfl⟩ := r
      rw [List.append_nil] at f n
      have E1 := E.step e1 s1
      have nd := f.2 rfl
      obtain ⟨nd1, nd2, nd3⟩ := List.nodup_append.mp nd
      have fr : ∀ a ∈ g1 ++ g3, ∀ k, k < ρ.length → a ∉ fps k := fun a ha k hk hb => by
        obtain ⟨o, ho, _⟩ := E.thereAt hk a hb
        rw [f.off a ha] at ho
        cases ho
      have gn : ∀ a ∈ g1 ++ g3, G a = none := fun a ha => back_none E.ext (f.off a ha) (n a ha)
      refine ⟨v, w, rfl, ?_⟩
      have E2 := E1.setOwn r1 (fun a ha => n a (List.mem_append_left _ ha)) nd1 (fun a ha => gn a (List.mem_append_left _ ha)) i fun k hk _ a ha hb => fr a (List.mem_append_left _ ha) k hk hb
      have E3 := E2.setOwn r2 (fun a ha => n a (List.mem_append_right _ ha)) nd2 (fun a ha => gn a (List.mem_append_right _ ha)) j fun k hk hkj a ha hb => by
        by_cases hki : k = i
        · simp only [if_pos hki] at hb
          exact nd3 a hb a ha rfl
        · simp only [if_neg hki] at hb
          exact fr a (List.mem_append_right _ ha) k (by simpa using hk) hb
      refine d.nx _ _ H1 _ hR E3 ⟨by simp, fun k hk => ?_⟩
      have k1 : j ≠ k := fun e => hk (by simp [e])
      have k2 : i ≠ k := fun e => hk (by simp [e])
      rw [List.getElem?_set_ne k1, List.getElem?_set_ne k2]
    · exact hR.elim
/-- an own list or dict, changed -/
theorem EnvAt.change {c : Zc} {G H : Hp} {ρ : En} {σ : L2.St} {fps : Nat → List Addr} (E : EnvAt c G H ρ σ fps) {i : Nat} {d d' : D} {a : Addr} {v : V} {o : HO} {fp' : List Addr} (hi : ρ[i]? = some (.own d)) (hv : σ[i]? = some (some v)) (ha : a ∈ fps i)
    (r : Rp c (upd H a o) d' v fp') (sub : ∀ b ∈ fp', b ∈ fps i ∨ (G b = none ∧ ¬ c.has b ∧ ∀ j, j < ρ.length → b ∉ fps j)) (nd : fp'.Nodup) :
    EnvAt c G (upd H a o) (ρ.set i (.own d')) σ (fun j => if j = i then fp' else fps j) := by
  have hl : i < ρ.length := (List.getElem?_eq_some_iff.mp hi).1
  have oki := E.ok i _ hi
  obtain ⟨v0, e0, r0, n0, nd0, g0⟩ := oki
  have han : ¬ c.has a := n0 a ha
  obtain ⟨o1, ho1, hf1⟩ := E.thereAt hl a ha
  have tk : Tk H (upd H a o) := fun b u hu hf => by
    rw [upd_ne fun z => by rw [z, ho1] at hu; cases hu; exact hf1 hf]
    exact hu
  have isO : isOwn ρ[i]? := by rw [hi]; trivial
  refine ⟨by rw [List.length_set]; exact E.len, fun b u hb hn => ?_, E.src.own han, fun j sl h => ?_, fun j k hne hj hk ho b hb1 hb2 => ?_⟩
  · rw [upd_ne fun z => by rw [z, g0 a ha] at hb; cases hb]
    exact E.ext b u hb hn
  · by_cases hji : j = i
    · subst hji
      rw [List.getElem?_set_self hl] at h
      cases h
      simp only [if_true]
      refine ⟨v, hv, r, fun b hb => ?_, nd, fun b hb => ?_⟩
      · rcases sub b hb with z | z
        · exact n0 b z
        · exact z.2.1
      · rcases sub b hb with z | z
        · exact g0 b z
        · exact z.1
    · rw [List.getElem?_set_ne (Ne.symm hji)] at h
      simp only [if_neg hji]
      have okj := E.ok j sl h
      have hjl : j < ρ.length := (List.getElem?_eq_some_iff.mp h).1
      have keep : ∀ b ∈ fps j, upd H a o b = H b := fun b hb => upd_ne fun z => E.sep i j (Ne.symm hji) hl hjl isO a ha (z ▸ hb)
      cases sl with
      | unk => exact okj
      | val dj => obtain ⟨w, f1, f2, f3⟩ := okj; exact ⟨w, f1, f2.mono tk _ _ _ keep, f3⟩
      | own dj => obtain ⟨w, f1, f2, f3⟩ := okj; exact ⟨w, f1, f2.mono tk _ _ _ keep, f3⟩
  · have hj' : j < ρ.length := by simpa using hj
    have hk' : k < ρ.length := by simpa using hk
    by_cases hji : j = i
    · subst hji
      simp only [if_true] at hb1
      simp only [if_neg (Ne.symm hne)] at hb2
      rcases sub b hb1 with z | z
      · exact E.sep j k hne hj' hk' isO b z hb2
      · exact z.2.2 k hk' hb2
    · rw [List.getElem?_set_ne (Ne.symm hji)] at ho
      simp only [if_neg hji] at hb1
      by_cases hki : k = i
      · simp only [if_pos hki] at hb2
        rcases sub b hb2 with z | z
        · exact E.sep j i hji hj' hl ho b hb1 z
        · exact z.2.2 j hj' hb1
      · simp only [if_neg hki] at hb2
        exact E.sep j k hne hj' hk' ho b hb1 hb2
/-- an own list -/
def ownL (s : Option Sl) (k : List D → Prop) : Prop := match s with
  | some (.own (.list ds)) => k ds
  | _ => False
theorem ownL_ok {s : Option Sl} {k : List D → Prop} (h : ownL s k) : ∃ ds, s = some (.own (.list ds)) ∧ k ds := by
  unfold ownL at h
  split at h
  · exact ⟨_, rfl, h⟩
  · exact h.elim
/-- x.append(e), x an own list -/
def sAppend (i : Nat) (m : DM) : DMS := fun ρ R => ownL ρ[i]? fun ds => m ρ fun y => ds.length < 10000000 ∧ R.nx (ρ.set i (.own (.list (ds ++ [y]))))
theorem ds_append (i : Nat) {te : TE} {m : DM} (h : DE K S te m []) : DS K S (tDrop (tBM K "list" rAppend (tVar i) (tCons te tNil))) (sAppend i m) [i] := fun G H ρ σ fps E R hm D d => by
  · obtain ⟨ds, hi, hm⟩ := ownL_ok hm
    obtain ⟨v, ev, r, n, nd, g⟩ := E.ok i _ hi
    have r' := r
    simp only [Rp] at r'
    obtain ⟨a, xs, gp, rfl, ef, hL, rs⟩ := r'
    refine ⟨.ref a, ev, .inl ⟨rfl, xs, .of hL⟩, h G H ρ σ fps E _ hm _ fun y w H1 fp hR e1 s1 ry ny fy => ?_⟩
    have han : ¬ Zc.has ⟨K, S⟩ a := n a (by rw [ef]; exact List.mem_cons_self ..)
    have hL1 : H1 a = some (.lst xs) := e1 a _ hL han
    have E1 := E.step e1 s1
    refine ⟨a, xs, w, rfl, rfl, hL1, by rw [rs.len]; exact Nat.lt_of_lt_of_le hR.1 (lim_ok (Nat.le_refl _)), ?_⟩
    have gpn : ∀ b ∈ gp, b ∈ fps i := fun b hb => by rw [ef]; exact List.mem_cons_of_mem _ hb
    have ndc : (a :: gp).Nodup := by rw [← ef]; exact nd
    have hag : a ∉ gp := (List.nodup_cons.mp ndc).1
    have hafp : a ∉ fp := fun z => by
      rw [fy.off a z] at hL
      cases hL
    have tk : Tk H1 (upd H1 a (.lst (xs ++ [w]))) := fun b u hu hf => by
      rw [upd_ne fun z => by rw [z, hL1] at hu; cases hu; exact hf]
      exact hu
    have rr : Rp ⟨K, S⟩ (upd H1 a (.lst (xs ++ [w]))) (.list (ds ++ [y])) (.ref a) (a :: (gp ++ fp)) := by
      simp only [Rp]
      refine ⟨a, xs ++ [w], gp ++ fp, rfl, rfl, upd_same, ?_⟩
      refine ((rs.ext (fun b hb => n b (gpn b hb)) e1 E.src).app (.one ry)).mono tk _ _ _ fun b hb => upd_ne fun z => ?_
      rcases List.mem_append.mp hb with z' | z'
      · exact hag (z ▸ z')
      · exact hafp (z ▸ z')
    refine d.nx _ σ _ _ hR.2 (E1.change hi ev (by rw [ef]; exact List.mem_cons_self ..) rr (fun b hb => ?_) ?_) ⟨rfl, fun _ _ => rfl⟩
    · rcases List.mem_cons.mp hb with z | hb
      · rw [z, ef]; exact .inl (List.mem_cons_self ..)
      · rcases List.mem_append.mp hb with z | z
        · exact .inl (gpn b z)
        · refine .inr ⟨back_none E.ext (fy.off b z) (ny b z), ny b z, fun j hj hb' => ?_⟩
          obtain ⟨o, ho, _⟩ := E.thereAt hj b hb'
          rw [fy.off b z] at ho
          cases ho
    · refine List.nodup_cons.mpr ⟨fun z => (List.mem_append.mp z).elim hag hafp, List.nodup_append.mpr ⟨(List.nodup_cons.mp ndc).2, fy.2 rfl, fun b hb b' hb' z => ?_⟩⟩
      subst z
      obtain ⟨o, ho, _⟩ := rs.there _ _ _ b hb
      rw [fy.off b hb'] at ho
      cases ho
end
end Z
set_option Elab.async false
set_option linter.all false
set_option maxRecDepth 100000
set_option maxHeartbeats 2000000
/-! Z4: loops; defs by their promises over data. -/
namespace Z
open PySem L2
section
variable {K : PySem.W.Frag} {S : Option (Addr × Addr)}
/-! ### for -/
/-- the slots outside W are only read -/
def demoteOff (W : List Nat) : Nat → En → En
  | _, [] => []
  | k, s :: ρ => (if W.contains k then s else match s with
    | .own d => .val d
    | s => s) :: demoteOff W (k + 1) ρ
theorem demoteOff_get (W : List Nat) : ∀ (ρ : En) (k j : Nat), (demoteOff W k ρ)[j]? = ρ[j]?.map fun s => if W.contains (k + j) then s else match s with
    | .own d => .val d
    | s => s
  | [], _, _ => by simp [demoteOff]
  | s :: ρ, k, 0 => by simp [demoteOff]
  | s :: ρ, k, j + 1 => by
    unfold demoteOff
    rw [List.getElem?_cons_succ, List.getElem?_cons_succ, demoteOff_get W ρ (k + 1) j, Nat.add_assoc, Nat.add_comm 1 j]
/-- behind a loop: the slots of W as the loop left them, the others as they were -/
def restore (W : List Nat) : Nat → En → En → En
  | k, s :: ρ, t :: τ => (if W.contains k then (match t with
    | .val d => if solid d = true then .val d else .unk
    | t => t) else s) :: restore W (k + 1) ρ τ
  | _, _, _ => []
theorem restore_get (W : List Nat) : ∀ (ρ τ : En) (k j : Nat) (s t : Sl), ρ[j]? = some s → τ[j]? = some t → (restore W k ρ τ)[j]? = some (if W.contains (k + j) then (match t with
    | .val d => if solid d = true then .val d else .unk
    | t => t) else s)
  | [], _, _, _, _, _, h, _ => by simp at h
  | _ :: _, [], _, _, _, _, _, h => by simp at h
  | s0 :: ρ, t0 :: τ, k, 0, s, t, h, h' => by
    cases h; cases h'
    simp [restore]
  | s0 :: ρ, t0 :: τ, k, j + 1, s, t, h, h' => by
    unfold restore
    rw [List.getElem?_cons_succ, restore_get W ρ τ (k + 1) j s t (by simpa using h) (by simpa using h'), Nat.add_assoc, Nat.add_comm 1 j]
theorem restore_len (W : List Nat) : ∀ (ρ τ : En) (k : Nat), ρ.length = τ.length → (restore W k ρ τ).length = ρ.length
  | [], [], _, _ => rfl
  | [], _ :: _, _, h => by simp at h
  | _ :: _, [], _, h => by simp at h
  | s :: ρ, t :: τ, k, h => by
    unfold restore
    rw [List.length_cons, List.length_cons, restore_len W ρ τ (k + 1) (by simpa using h)]
theorem EnvAt.hideF {c : Zc} {G H : Hp} {ρ : En} {σ : L2.St} {fps : Nat → List Addr} (E : EnvAt c G H ρ σ fps) (F : List Nat) : EnvAt c G H (hide F ρ) σ (fun j => if j ∈ F then [] else fps j) := by
  refine ⟨by rw [hide_length]; exact E.len, E.ext, E.src, fun j sl h => ?_, fun j k hne hj hk ho a ha hb => ?_⟩
  · by_cases hj : j ∈ F
    · rw [hide_in hj h]
      simp only [if_pos hj]
      rfl
    · rw [hide_out hj] at h
      simp only [if_neg hj]
      exact E.ok j sl h
  · rw [hide_length] at hj hk
    by_cases h1 : j ∈ F
    · simp only [if_pos h1] at ha
      cases ha
    · by_cases h2 : k ∈ F
      · simp only [if_pos h2] at hb
        cases hb
      · simp only [if_neg h1] at ha
        simp only [if_neg h2] at hb
        rw [hide_out h1] at ho
        exact E.sep j k hne hj hk ho a ha hb
def forD (mg : DMg) (mb : DMS) (F : List Nat) (R : DEnds) : List D → En → Prop
  | [], ρ => R.nx ρ
  | x :: xs, ρ => mg x ρ fun ρ1 => mb ρ1 ⟨fun ρ' => forD mg mb F R xs (hide F ρ'), R.rt, fun ρ' => R.nx (hide F ρ'), fun ρ' => forD mg mb F R xs (hide F ρ')⟩
def sFor (mi : DMs) (mg : DMg) (mb : DMS) (W F : List Nat) : DMS := fun ρ R => mi ρ fun xs => forD mg mb F ⟨fun ρ' => R.nx (restore W 0 ρ ρ'), R.rt, fun _ => False, fun _ => False⟩ xs (hide F (demoteOff W 0 ρ))
open Classical in
/-- all but the own objects of W's slots is held fast -/
noncomputable def pin (c : Zc) (H : Hp) (ρ : En) (fps : Nat → List Addr) (W : List Nat) : Hp := fun a => if (∃ i ∈ W, i < ρ.length ∧ isOwn ρ[i]? ∧ a ∈ fps i) ∨ c.has a then none else H a
theorem pin_some {c : Zc} {H : Hp} {ρ : En} {fps : Nat → List Addr} {W : List Nat} {a : Addr} {o : HO} (h : H a = some o) (hw : ∀ i ∈ W, i < ρ.length → isOwn ρ[i]? → a ∉ fps i) (n : ¬ c.has a) : pin c H ρ fps W a = some o := by
  unfold pin
  rw [if_neg]
  · exact h
  · rintro (⟨i, hi, hl, ho, ha⟩ | z)
    · exact hw i hi hl ho ha
    · exact n z
theorem pin_own {c : Zc} {H : Hp} {ρ : En} {fps : Nat → List Addr} {W : List Nat} {a : Addr} {i : Nat} (hi : i ∈ W) (hl : i < ρ.length) (ho : isOwn ρ[i]?) (ha : a ∈ fps i) : pin c H ρ fps W a = none := by
  unfold pin
  rw [if_pos (.inl ⟨i, hi, hl, ho, ha⟩)]
theorem pin_le {c : Zc} {H : Hp} {ρ : En} {fps : Nat → List Addr} {W : List Nat} : ∀ a o, pin c H ρ fps W a = some o → H a = some o := fun a o h => by
  unfold pin at h
  split at h
  · cases h
  · exact h
theorem EnvAt.enter {c : Zc} {G H : Hp} {ρ : En} {σ : L2.St} {fps : Nat → List Addr} (E : EnvAt c G H ρ σ fps) (W : List Nat) : EnvAt c (pin c H ρ fps W) H (demoteOff W 0 ρ) σ fps := by
  have len : (demoteOff W 0 ρ).length = ρ.length := by
    have h := demoteOff_get W ρ 0
    apply Nat.le_antisymm
    · refine Nat.le_of_not_lt fun z => ?_
      have := h ρ.length
      rw [List.getElem?_eq_getElem z, List.getElem?_eq_none (Nat.le_refl _)] at this
      cases this
    · refine Nat.le_of_not_lt fun z => ?_
      have := h (demoteOff W 0 ρ).length
      rw [List.getElem?_eq_none (Nat.le_refl _), List.getElem?_eq_getElem z] at this
      cases this
  have own : ∀ j, isOwn (demoteOff W 0 ρ)[j]? → isOwn ρ[j]? ∧ j ∈ W := fun j ho => by
    rw [demoteOff_get, Nat.zero_add] at ho
    cases hs : ρ[j]? with
    | none => rw [hs] at ho; exact ho.elim
    | some s =>
      rw [hs] at ho
      by_cases hw : W.contains j = true
      · simp only [Option.map_some, hw, if_true] at ho
        exact ⟨ho, by simpa using hw⟩
      · exfalso
        rw [Option.map_some, if_neg hw] at ho
        cases s <;> exact ho
  refine ⟨by rw [len]; exact E.len, fun a o h _ => pin_le a o h, E.src, fun j sl h => ?_, fun j k hne hj hk ho => ?_⟩
  · rw [demoteOff_get, Nat.zero_add] at h
    cases hs : ρ[j]? with
    | none => rw [hs] at h; cases h
    | some s =>
      rw [hs, Option.map_some] at h
      have ok := E.ok j s hs
      have hl : j < ρ.length := (List.getElem?_eq_some_iff.mp hs).1
      by_cases hw : W.contains j = true
      · rw [if_pos hw] at h
        cases h
        cases sl with
        | unk => exact ok
        | val d => exact ok
        | own d =>
          obtain ⟨v, a1, a2, a3, a4, a5⟩ := ok
          exact ⟨v, a1, a2, a3, a4, fun a ha => pin_own (by simpa using hw) hl (by rw [hs]; trivial) ha⟩
      · rw [if_neg hw] at h
        cases s with
        | unk => cases h; exact ok
        | val d => cases h; exact ok
        | own d => cases h; obtain ⟨v, a1, a2, a3, _⟩ := ok; exact ⟨v, a1, a2, a3⟩
  · rw [len] at hj hk
    exact E.sep j k hne hj hk (own j ho).1
theorem EnvAt.leave {c : Zc} {G H H' : Hp} {ρ ρ' : En} {σ σ' : L2.St} {fps fps' : Nat → List Addr} {W : List Nat} (E : EnvAt c G H ρ σ fps) (E' : EnvAt c (pin c H ρ fps W) H' ρ' σ' fps') (o : Off W σ σ') :
    ∃ fps2, EnvAt c G H' (restore W 0 ρ ρ') σ' fps2 := by
  have hl : ρ.length = ρ'.length := by rw [← E.len, ← E'.len, o.len]
  have gH : ∀ a u, G a = some u → ¬ c.has a → pin c H ρ fps W a = some u := fun a u h n => pin_some (E.ext a u h n) (fun i _ hil ho ha => by
    cases hs : ρ[i]? with
    | none => rw [hs] at ho; exact ho
    | some s =>
      rw [hs] at ho
      cases s with
      | own d =>
        obtain ⟨_, _, _, _, _, g⟩ := E.ok i _ hs
        rw [g a ha] at h
        cases h
      | _ => exact ho) n
  have pinned : ∀ j, j < ρ.length → j ∉ W → ∀ a ∈ fps j, pin c H ρ fps W a = H a := fun j hj hw a ha => by
    obtain ⟨u, hu, _⟩ := E.thereAt hj a ha
    rw [hu]
    exact pin_some hu (fun i hi hil ho hia => E.sep i j (fun z => hw (z ▸ hi)) hil hj ho a hia ha) (E.noS hj a ha)
  have stay : ∀ j, j < ρ.length → j ∉ W → ∀ a ∈ fps j, H' a = H a := fun j hj hw a ha => by
    obtain ⟨u, hu, _⟩ := E.thereAt hj a ha
    rw [hu]
    exact E'.ext a u (by rw [pinned j hj hw a ha]; exact hu) (E.noS hj a ha)
  have tk : Tk H H' := fun a u hu hf => E'.ext a u (pin_some hu (fun i _ hil _ ha => by
    obtain ⟨u', hu', hf'⟩ := E.thereAt hil a ha
    rw [hu] at hu'
    cases hu'
    exact hf' hf) (E.src.not_fix hu hf)) (E.src.not_fix hu hf)
  let fps2 : Nat → List Addr := fun j => if W.contains j then (match ρ'[j]? with
    | some (.own _) => fps' j
    | _ => []) else fps j
  have ownW : ∀ j s, ρ'[j]? = some s → W.contains j = true → ∀ a ∈ fps2 j, isOwn (some s) ∧ a ∈ fps' j := fun j s hs hw a ha => by
    simp only [fps2, hw, if_true, hs] at ha
    cases s with
    | own d => exact ⟨trivial, ha⟩
    | _ => cases ha
  refine ⟨fps2, by rw [restore_len W ρ ρ' 0 hl, hl]; exact E'.len, fun a u h n => E'.ext a u (gH a u h n) n, E'.src, fun j sl h => ?_, fun j k hne hj hk ho a ha hb => ?_⟩
  · have hjl : j < ρ.length := by
      have := (List.getElem?_eq_some_iff.mp h).1
      rw [restore_len W ρ ρ' 0 hl] at this
      exact this
    have e1 := List.getElem?_eq_getElem hjl
    have e2 := List.getElem?_eq_getElem (show j < ρ'.length by rw [← hl]; exact hjl)
    rw [restore_get W ρ ρ' 0 j _ _ e1 e2, Nat.zero_add] at h
    by_cases hw : W.contains j = true
    · rw [if_pos hw] at h
      have ok := E'.ok j _ e2
      cases hs : ρ'[j]'(by rw [← hl]; exact hjl) with
      | unk =>
        rw [hs] at h e2
        cases h
        simp only [fps2, hw, if_true, e2]
        rfl
      | val d =>
        rw [hs] at h e2 ok
        simp only [fps2, hw, if_true, e2]
        obtain ⟨v, a1, a2, a3⟩ := ok
        by_cases hsd : solid d = true
        · simp only [hsd, if_true] at h
          cases h
          have z := a2.solid _ _ _ hsd
          rw [z] at a2 a3
          exact ⟨v, a1, a2, a3⟩
        · simp only [if_neg hsd] at h
          cases h
          rfl
      | own d =>
        rw [hs] at h e2 ok
        cases h
        simp only [fps2, hw, if_true, e2]
        obtain ⟨v, a1, a2, a3, a4, a5⟩ := ok
        refine ⟨v, a1, a2, a3, a4, fun a ha => ?_⟩
        cases hg : G a with
        | none => rfl
        | some u =>
          have := gH a u hg (a3 a ha)
          rw [a5 a ha] at this
          cases this
    · rw [if_neg hw] at h
      cases h
      simp only [fps2, if_neg hw]
      have hjW : j ∉ W := by simpa using hw
      have ok := E.ok j _ e1
      have st := stay j hjl hjW
      rw [o.off j hjW]
      cases hs : ρ[j] with
      | unk => rw [hs] at ok; exact ok
      | val d => rw [hs] at ok; obtain ⟨v, a1, a2, a3⟩ := ok; exact ⟨v, a1, a2.mono tk _ _ _ st, a3⟩
      | own d => rw [hs] at ok; obtain ⟨v, a1, a2, a3⟩ := ok; exact ⟨v, a1, a2.mono tk _ _ _ st, a3⟩
  · rw [restore_len W ρ ρ' 0 hl] at hj hk
    have e1 := List.getElem?_eq_getElem hj
    have e2 := List.getElem?_eq_getElem (show j < ρ'.length by rw [← hl]; exact hj)
    have k1 := List.getElem?_eq_getElem hk
    have k2 := List.getElem?_eq_getElem (show k < ρ'.length by rw [← hl]; exact hk)
    rw [restore_get W ρ ρ' 0 j _ _ e1 e2, Nat.zero_add] at ho
    by_cases hw : W.contains j = true
    · obtain ⟨z1, z2⟩ := ownW j _ e2 hw a ha
      by_cases hwk : W.contains k = true
      · obtain ⟨_, z4⟩ := ownW k _ k2 hwk a hb
        exact E'.sep j k hne (by rw [← hl]; exact hj) (by rw [← hl]; exact hk) (by rw [e2]; exact z1) a z2 z4
      · simp only [fps2, if_neg hwk] at hb
        have hkW : k ∉ W := by simpa using hwk
        have ok := E'.ok j _ e2
        cases hs : ρ'[j]'(by rw [← hl]; exact hj) with
        | own d =>
          rw [hs] at ok
          obtain ⟨_, _, _, _, _, a5⟩ := ok
          have := a5 a z2
          rw [pinned k hk hkW a hb] at this
          obtain ⟨u, hu, _⟩ := E.thereAt hk a hb
          rw [hu] at this
          cases this
        | unk => rw [hs] at z1; exact z1
        | val d => rw [hs] at z1; exact z1
    · simp only [fps2, if_neg hw] at ha
      rw [if_neg hw] at ho
      have hjW : j ∉ W := by simpa using hw
      have hoj : isOwn ρ[j]? := by rw [e1]; exact ho
      by_cases hwk : W.contains k = true
      · obtain ⟨z3, z4⟩ := ownW k _ k2 hwk a hb
        have ok := E'.ok k _ k2
        cases hs : ρ'[k]'(by rw [← hl]; exact hk) with
        | own d =>
          rw [hs] at ok
          obtain ⟨_, _, _, _, _, a5⟩ := ok
          have := a5 a z4
          rw [pinned j hj hjW a ha] at this
          obtain ⟨u, hu, _⟩ := E.thereAt hj a ha
          rw [hu] at this
          cases this
        | unk => rw [hs] at z3; exact z3
        | val d => rw [hs] at z3; exact z3
      · simp only [fps2, if_neg hwk] at hb
        exact E.sep j k hne hj hk hoj a ha hb
theorem ds_for {wi : TI} {g : TG} {tb : TS} {mi : DMs} {mg : DMg} {mb : DMS} {U Wg Wb F : List Nat} {w : Bool} (hi : DI w K S wi mi U) (hg : DG w K S g mg Wg) (hb : DS K S tb mb Wb) (hU : U.all (fun u => !(Wg ++ Wb).contains u) = true) :
    DS K S (tFor wi g tb) (sFor mi mg mb (Wg ++ Wb) F) (Wg ++ Wb) := fun G H ρ σ fps E R hm D d =>
  hi G H ρ σ fps E _ hm _ fun xs J H1 FP hR e1 s1 J1 nF tF fF => by
    have E1 := E.step e1 s1
    have FPin : ∀ a ∈ FP, ∀ i, i ∈ Wg ++ Wb → i < ρ.length → isOwn ρ[i]? → a ∉ fps i := fun a ha i hiW hil ho hia => by
      rcases fF.1 a ha with z | ⟨u, hu, hul, z⟩
      · obtain ⟨o, ho', _⟩ := E.thereAt hil a hia
        rw [z] at ho'
        cases ho'
      · have hx := List.all_eq_true.mp hU u hu
        have hne : i ≠ u := fun q => by
          subst q
          have : (Wg ++ Wb).contains i = true := by simpa using hiW
          rw [this] at hx
          cases hx
        exact E.sep i u hne hil hul ho a hia z
    let Pv : Nat → L2.St → Hp → Prop := fun i σ' H' => ∃ (ρ' : En) (fps' : Nat → List Addr), EnvAt ⟨K, S⟩ (pin ⟨K, S⟩ H1 ρ fps (Wg ++ Wb)) H' ρ' σ' fps' ∧ Off (Wg ++ Wb) σ σ' ∧
      forD mg mb F ⟨fun ρ' => R.nx (restore (Wg ++ Wb) 0 ρ ρ'), R.rt, fun _ => False, fun _ => False⟩ (xs.drop i) ρ'
    have fin : ∀ (ρ' : En) (σ' : L2.St) (H' : Hp) (fps' : Nat → List Addr), R.nx (restore (Wg ++ Wb) 0 ρ ρ') → EnvAt ⟨K, S⟩ (pin ⟨K, S⟩ H1 ρ fps (Wg ++ Wb)) H' ρ' σ' fps' → Off (Wg ++ Wb) σ σ' → D.nx σ' H' := fun ρ' σ' H' fps' hn E' o => by
      obtain ⟨fps2, E2⟩ := E1.leave E' o
      exact d.nx _ σ' H' fps2 hn E2 o
    have rtk : ∀ x v H' fp, R.rt x → Ext ⟨K, S⟩ (pin ⟨K, S⟩ H1 ρ fps (Wg ++ Wb)) H' → SrcAt ⟨K, S⟩ H' → Rp ⟨K, S⟩ H' x v fp → NoS ⟨K, S⟩ fp → fp.Nodup → (∀ a ∈ fp, pin ⟨K, S⟩ H1 ρ fps (Wg ++ Wb) a = none) → D.rt v H' := fun x v H' fp hr xe se r n nd fr => by
      have gp : ∀ a u, G a = some u → ¬ Zc.has ⟨K, S⟩ a → pin ⟨K, S⟩ H1 ρ fps (Wg ++ Wb) a = some u := fun a u h nn => pin_some (E1.ext a u h nn) (fun i _ hil ho ha => by
        cases hs : ρ[i]? with
        | none => rw [hs] at ho; exact ho
        | some s =>
          rw [hs] at ho
          cases s with
          | own d =>
            obtain ⟨_, _, _, _, _, g⟩ := E.ok i _ hs
            rw [g a ha] at h
            cases h
          | _ => exact ho) nn
      refine d.rt x v H' fp hr (fun a u h nn => xe a u (gp a u h nn) nn) se r n nd fun a ha => ?_
      cases hg' : G a with
      | none => rfl
      | some u =>
        have := gp a u hg' (n a ha)
        rw [fr a ha] at this
        cases this
    refine for_it J1 Pv ⟨hide F (demoteOff (Wg ++ Wb) 0 ρ), _, (E1.enter (Wg ++ Wb)).hideF F, .refl _ _, hR⟩ (fun i σ' H' _ p => ?_) (fun i x σ' H' H'' hlt p y => ?_) fun σ' H' p => ?_
    · obtain ⟨ρ', fps', E', o, _⟩ := p
      refine ⟨fun a u hu hf => E'.ext a u (pin_some hu (fun i _ hil _ ha => ?_) (s1.not_fix hu hf)) (s1.not_fix hu hf), fun a ha => ?_, E'.src⟩
      · obtain ⟨u', hu', hf'⟩ := E1.thereAt hil a ha
        rw [hu] at hu'
        cases hu'
        exact hf' hf
      · obtain ⟨u, hu⟩ := tF a ha
        rw [hu]
        exact E'.ext a u (pin_some hu (FPin a ha) (nF a ha)) (nF a ha)
    · obtain ⟨ρ', fps', E', o, hf⟩ := p
      obtain ⟨y1, sy, dd, fp, hd, rd, subd⟩ := y
      have hdrop : xs.drop i = dd :: xs.drop (i + 1) := by
        obtain ⟨hlt', hd'⟩ := List.getElem?_eq_some_iff.mp hd
        rw [← hd']
        exact List.drop_eq_getElem_cons hlt'
      rw [hdrop] at hf
      have E2 := E'.step y1 sy
      refine hg _ H'' ρ' σ' fps' E2 dd x fp rd (fun a ha => nF a (subd a ha)) (fun j hj ho a ha hb' => ?_) _ hf _ fun ρ2 σ2 fps2 hR2 E3 g3 => ?_
      · -- an own slot's objects are not held fast
        cases hs : ρ'[j]? with
        | none => rw [hs] at ho; exact ho
        | some s =>
          rw [hs] at ho
          cases s with
          | own dj =>
            obtain ⟨_, _, _, _, _, g⟩ := E'.ok j _ hs
            obtain ⟨u, hu⟩ := tF a (subd a hb')
            have := pin_some (ρ := ρ) (fps := fps) (W := Wg ++ Wb) hu (FPin a (subd a hb')) (nF a (subd a hb'))
            rw [g a ha] at this
            cases this
          | _ => exact ho
      · have o2 : Off (Wg ++ Wb) σ σ2 := o.join ⟨by rw [E3.len, g3.len, E'.len], fun j hj => (g3.off j fun z => hj (List.mem_append_left _ z)).1⟩
        have step : ∀ (ρ4 : En) (σ4 : L2.St) (H4 : Hp) (fps4 : Nat → List Addr), forD mg mb F ⟨fun ρ' => R.nx (restore (Wg ++ Wb) 0 ρ ρ'), R.rt, fun _ => False, fun _ => False⟩ (xs.drop (i + 1)) (hide F ρ4) →
            EnvAt ⟨K, S⟩ (pin ⟨K, S⟩ H1 ρ fps (Wg ++ Wb)) H4 ρ4 σ4 fps4 → Off Wb σ2 σ4 → Pv (i + 1) σ4 H4 := fun ρ4 σ4 H4 fps4 h4 E4 o4 =>
          ⟨hide F ρ4, _, E4.hideF F, o2.join (o4.up fun j h => List.mem_append_right _ h), h4⟩
        exact hb _ H'' ρ2 σ2 fps2 E3 _ hR2 _ ⟨step, fun ρ4 σ4 H4 fps4 h4 E4 o4 => fin (hide F ρ4) σ4 H4 _ h4 (E4.hideF F) (o2.join (o4.up fun j h => List.mem_append_right _ h)), step, rtk⟩
    · obtain ⟨ρ', fps', E', o, hf⟩ := p
      rw [List.drop_eq_nil_of_le (Nat.le_refl _)] at hf
      exact fin ρ' σ' H' fps' hf E' o
/-! ### while -/
/-! ### defs -/
/-- a promise over data: for the data ds, whatever R holds of all that spec tells, R holds of what is handed back; nothing that stood is changed -/
def spD (K : PySem.W.Frag) (spec : List D → (D → Prop) → Prop) : Sp := fun vs H Q _ => ∃ (S : Option (Addr × Addr)) (ds : List D) (fp : List Addr) (R : D → Prop), Rps ⟨K, S⟩ H ds vs fp ∧ NoS ⟨K, S⟩ fp ∧ SrcAt ⟨K, S⟩ H ∧ spec ds R ∧
  ∀ d v H' gp, R d → Ext ⟨K, S⟩ H H' → SrcAt ⟨K, S⟩ H' → Rp ⟨K, S⟩ H' d v gp → NoS ⟨K, S⟩ gp → gp.Nodup → (∀ a ∈ gp, H a = none) → Q v H'
theorem de_call {spec : List D → (D → Prop) → Prop} {E : XK} {t : TA} {ms : DMs} {U : List Nat} (h : DA K S t ms U) : DE K S (tCall (spD K spec) [] E t) (dCall spec ms) [] := fun G H ρ σ fps En R hm Q q =>
  h G H ρ σ fps En _ hm _ fun ds vs H1 fp hR e1 s1 r n f => by
    rw [List.append_nil]
    exact ⟨S, ds, fp, R, r, n, s1, hR, fun d v H' gp hd e2 s2 r2 n2 nd fr => q d v H' gp hd (e1.trans e2) s2 r2 n2 (.fresh (fun a ha => e1.free (fr a ha) (n2 a ha)) nd)⟩
theorem spD_len {spec : List D → (D → Prop) → Prop} {n : Nat} (hs : ∀ ds R, spec ds R → ds.length = n) : ∀ vs H Q E, spD K spec vs H Q E → vs.length = n := fun vs H Q E h => by
  obtain ⟨S, ds, fp, R, r, _, _, hsp, _⟩ := h
  rw [r.len]
  exact hs ds R hsp
/-- the slots at a def's start -/
def startE (N : List Str) (ds : List D) : En := ds.map Sl.val ++ List.replicate (N.length - ds.length) .unk
theorem envStart {c : Zc} {H : Hp} {ds : List D} {vs : List V} {fp : List Addr} (N : List Str) (r : Rps c H ds vs fp) (n : NoS c fp) (s : SrcAt c H) : ∃ fps, EnvAt c H H (startE N ds) (L2.start N vs) fps := by
  have pick : ∀ i : Nat, ∃ gp : List Addr, ∀ d, ds[i]? = some d → ∃ v, vs[i]? = some v ∧ Rp c H d v gp ∧ NoS c gp := fun i => by
    cases h : ds[i]? with
    | none => exact ⟨[], fun d z => by cases z⟩
    | some d =>
      obtain ⟨x, gp, e1, e2, e3, _⟩ := r.at h
      exact ⟨gp, fun d' z => by cases z; exact ⟨x, e1, e2, fun a ha => n a (e3 a ha)⟩⟩
  refine ⟨fun i => if i < ds.length then Classical.choose (pick i) else [], by simp [startE, L2.start, r.len], Ext.refl _ _, s, fun i sl h => ?_, fun i j _ _ _ ho => ?_⟩
  · unfold startE at h
    by_cases hi : i < ds.length
    · rw [List.getElem?_append_left (by simpa using hi), List.getElem?_map, List.getElem?_eq_getElem hi] at h
      cases h
      simp only [if_pos hi]
      obtain ⟨v, e1, e2, e3⟩ := Classical.choose_spec (pick i) _ (List.getElem?_eq_getElem hi)
      refine ⟨v, ?_, e2, e3⟩
      unfold L2.start
      rw [List.getElem?_append_left (by simp only [List.length_map]; rw [r.len]; exact hi), List.getElem?_map, e1]
      rfl
    · rw [List.getElem?_append_right (by simpa using Nat.le_of_not_lt hi)] at h
      have hx := List.mem_of_getElem? h
      rw [List.eq_of_mem_replicate hx]
      simp only [if_neg hi]
      rfl
  · exfalso
    unfold startE at ho
    by_cases hi : i < ds.length
    · rw [List.getElem?_append_left (by simpa using hi), List.getElem?_map, List.getElem?_eq_getElem hi] at ho
      exact ho
    · rw [List.getElem?_append_right (by simpa using Nat.le_of_not_lt hi)] at ho
      cases hx : (List.replicate (N.length - ds.length) Sl.unk)[i - (ds.map Sl.val).length]? with
      | none => rw [hx] at ho; exact ho
      | some s =>
        have := List.eq_of_mem_replicate (List.mem_of_getElem? hx)
        rw [hx, this] at ho
        exact ho
/-- what a def's body is to give -/
def retE (R : D → Prop) : DEnds := { nx := fun _ => R .none, rt := R }
theorem body_of {X : Cx} {body : List Stmt} {t : TS} {m : Option (Addr × Addr) → DMS} {W : List Nat} {spec : List D → (D → Prop) → Prop} {vs : List V} {H : Hp} {Q : VK} {E : XK} (N : List Str) (hp : PSs X body t) (hs : ∀ S, DS K S t (m S) W) (h : spD K spec vs H Q E)
    (hm : ∀ S ds R, spec ds R → m S (startE N ds) (retE R)) : ∃ t, PSs X body t ∧ t { nx := fun _ H' => Q .non H', rt := Q } (L2.start N vs) H := by
  obtain ⟨S, ds, fp, R, r, n, s, hsp, q⟩ := h
  obtain ⟨fps, E0⟩ := envStart N r n s
  refine ⟨t, hp, hs S H H _ _ fps E0 _ (hm S ds R hsp) _ ⟨fun ρ' σ' H' f hn E' _ => q .none .non H' [] hn E'.ext E'.src (non_rp H') .nil List.nodup_nil (fun a h => nomatch h), fun _ _ _ _ h => False.elim h, fun _ _ _ _ h => False.elim h, fun d v H' gp hd e s' r' n' nd fr => q d v H' gp hd e s' r' n' nd fr⟩⟩
end
end Z
set_option Elab.async false
set_option linter.all false
set_option maxRecDepth 100000
set_option maxHeartbeats 4000000
/-! Z5: rules by values: enumerate of tuples, == of data, repr of data. -/
namespace Z
open PySem L2
/-! ### enumerate(tuple) -/
theorem meets_enum1 {v : Value} {o : Obj} {B : Heap → Prop} (b : Begins v o B) :
    Meets (Builtin.«enumerate.__new__» ⟨[.type "enumerate", v], []⟩) (fun _ R s => B s.heap ∧
      R (.ok (.ret (.ref (s.heap.push o).objs.size))) { s with heap := (s.heap.push o).push { cls := .type "enumerate", data := .fields #[.none, .bool false, .ref s.heap.objs.size, rawInt 0, .none, .none] } }) :=
  .of_wp fun prog w A R s h => by
    obtain ⟨hp, g, d, tk, os⟩ := s
    obtain ⟨h1, h2⟩ := h
    have hsub := sub_enumerate
    have road : ∀ {A' : Around} {E : Value → Shared → Prop} {Q : Value → Shared → Prop}, Q (.ref hp.objs.size) ⟨hp.push o, g, d, tk, os⟩ → wpAny (model prog w) A' (pyIter v) Q E ⟨hp, g, d, tk, os⟩ := fun q => b.iter prog w _ _ ⟨hp, g, d, tk, os⟩ _ h1 q
    wp_walk using road
    refine wpAny_stack_any fun st => wpAny_pure ?_
    split
    · rename_i c _ _ _ _ _
      cases (c == Value.type "enumerate") <;> (wp_walk using road; exact ⟨_, rfl, h2⟩)
    · wp_walk using road
      exact ⟨_, rfl, h2⟩
theorem enum_starts {prog : Program} {w : World} {A : Around} {E : Value → Shared → Prop} {s : Shared} {v : Value} {o : Obj} {B : Heap → Prop} {Q : Value → Shared → Prop} (b : Begins v o B) (h1 : B s.heap)
    (h : ∀ h', IsEnum h' (s.heap.objs.size + 1) s.heap.objs.size 0 .none → h'.get? s.heap.objs.size = some o → (∀ c u, s.heap.get? c = some u → h'.get? c = some u) → Q (.ref (s.heap.objs.size + 1)) { s with heap := h' }) :
    wpAny (model prog w) A (call (.type "enumerate") [v]) Q E s := by
  refine callType_new F.called_enumerate (by decide) (F.typeCall_enumerate_1 _) (F.newCall_enumerate_1 _) (fun obj => F.args_object_init_2 obj _) F.entry_enumerate_new (meets_enum1 b) ⟨h1, ?_⟩
  have hz : (s.heap.push o).objs.size = s.heap.objs.size + 1 := Heap.size_push ..
  have he : IsEnum ((s.heap.push o).push { cls := .type "enumerate", data := .fields #[.none, .bool false, .ref s.heap.objs.size, rawInt 0, .none, .none] }) (s.heap.objs.size + 1) s.heap.objs.size 0 .none := by
    have x := Heap.get?_push_size (s.heap.push o) (o := { cls := .type "enumerate", data := .fields #[.none, .bool false, .ref s.heap.objs.size, rawInt 0, .none, .none] }) rfl
    rwa [hz] at x
  show _ ∧ _
  rw [hz]
  exact ⟨⟨_, he, rfl⟩, h _ he (Heap.get?_push_of_some _ (Heap.get?_push_size _ b.free)) fun c u x => Heap.get?_push_of_some _ (Heap.get?_push_of_some _ x)⟩
def IteT (K : PySem.W.Frag) (a : Addr) : It :=
  ⟨fun i H => ∃ (xs : List V) (x : V), SqT K H a xs ∧ xs[i]? = some x, fun i H v H' => ∃ T x, v = .ref T ∧ H T = none ∧ H' = upd H T (.tup [.int (i : Nat), x]) ∧ ∀ xs, SqT K H a xs → xs[i]? = some x, fun i H => ∃ xs : List V, SqT K H a xs ∧ xs.length = i⟩
theorem turn_enumT {P : Program} {w : World} {K : PySem.W.Frag} {elts : List Expr} {kk : Nat} {tpos : Pos} (a e it : Addr) :
    Turn P w K (.Tuple elts kk tpos) (IteT K a) [e, it] e (fun i h => (∃ old, IsEnum h e it ((i : Nat) : Int) old) ∧ h.IsTupleIter it a i ∧ e ≠ it ∧ a ≠ it ∧ e ≠ a) where
  mem := List.mem_cons_self ..
  obj := fun i h st b hb => by
    obtain ⟨⟨old, he⟩, ⟨o, ho, _, hd⟩, _⟩ := st
    rcases List.mem_cons.mp hb with z | hb
    · subst z
      exact ⟨_, he, fun v q => by cases q⟩
    · exact ⟨o, (List.mem_singleton.mp hb) ▸ ho, fun v q => by rw [hd] at q; cases q⟩
  keep := fun i h h' st k => by
    obtain ⟨⟨old, he⟩, hi, hr⟩ := st
    exact ⟨⟨old, k e (List.mem_cons_self ..) _ he⟩, hi.at fun o q => k it (List.mem_cons_of_mem _ (List.mem_cons_self ..)) o q, hr⟩
  item := by
    intro X hP hw hK hc i pins s σ H E I hf st hg
    subst hP hw hK
    obtain ⟨⟨old, he⟩, hit, hne, hai, hea⟩ := st
    obtain ⟨xs, x, hq, hx⟩ := hg
    obtain ⟨its, rv, p, hz⟩ := I.tuple hq
    obtain ⟨u, hu, ru⟩ := rv.get hx
    have hel : e < s.heap.objs.size := Heap.lt_size he
    have hil : it < s.heap.objs.size := by obtain ⟨_, q, _⟩ := hit; exact Heap.lt_size q
    have hi : i < its.length := (List.getElem?_eq_some_iff.mp hu).1
    have hd : X.A.in1.handled = none := I.ok.hd hc
    have tup : s.heap.IsTuple a its.toArray := p
    refine wpAny_pyNext_enum_itemC (Draws.tuple hd it a hai its.toArray) he ⟨hit, tup⟩ (by simpa using hi) hne (by simp only [List.mem_cons, List.not_mem_nil, or_false, not_or]; exact ⟨hne, hea⟩) fun y h' tk hy ho hst hT hsz hk => ?_
    have ey : u = y := by
      have h0 : its[i]? = some y := by simpa using hy
      rw [hu] at h0
      exact Option.some.inj h0
    subst ey
    refine ⟨_, rfl, wpAny_letOwnedTupleGo_enum (s := { s with heap := h', toks := tk + 1 }) ho fun h'' he' sb => ?_⟩
    have hT2 : h''.get? s.heap.objs.size = some { cls := .type "tuple", data := .seq #[.int i tk, u] } := (sb.2 _ (Nat.ne_of_gt hel)).trans hT
    have new : ObjOk X.prog X.w (upd H s.heap.objs.size (.tup [.int (i : Nat), x])) h'' s.heap.objs.size (.tup [.int (i : Nat), x]) :=
      ⟨lim_ok (show 2 ≤ 10000000 by decide), [.int i tk, u], .cons ⟨_, rfl⟩ (.cons ru .nil), ⟨_, hT2, rfl, _, rfl⟩⟩
    have I1 : Inv X pins σ (upd H s.heap.objs.size (.tup [.int (i : Nat), x])) { s with heap := h'', toks := tk + 1 } :=
      I.turnedNew (ch := [e, it]) (fun b ob hb q => (sb.2 b fun z => hb (by simp [z])).trans (hk b ob (fun z => hb (by simp [z])) (fun z => hb (by simp [z])) q)) hf (Nat.le_refl _) new
    refine ⟨.ref s.heap.objs.size, _, I1, rfl, ⟨_, x, rfl, I.hok.fresh (Nat.le_refl _), rfl, fun ys hy' => by rw [I.tuple_inj hy' hq]; exact hx⟩, ⟨⟨u, ?_⟩, hst.1.at fun o q => (sb.2 it (Ne.symm hne)).trans q, hne, hai, hea⟩, fun b hb => ?_⟩
    · rw [show ((i + 1 : Nat) : Int) = (i : Int) + 1 by omega]
      exact he'
    · have hlt : b < s.heap.objs.size := by
        rcases List.mem_cons.mp hb with z | hb
        · exact z ▸ hel
        · exact (List.mem_singleton.mp hb) ▸ hil
      rw [upd_ne (Nat.ne_of_lt hlt)]
      exact (hf b hb).1
  done := by
    intro X hP hw hK hc i pins s σ H E I hf st hg
    subst hP hw hK
    obtain ⟨⟨old, he⟩, hit, hne, hai, hea⟩ := st
    obtain ⟨xs, hq, hx⟩ := hg
    obtain ⟨its, rv, p, hz⟩ := I.tuple hq
    obtain ⟨f0, f1, f2, f3, f4, f5⟩ := hf it (List.mem_cons_of_mem _ (List.mem_cons_self ..))
    have hn : i = its.toArray.size := by rw [← hx, rv.length]; simp
    have hd : X.A.in1.handled = none := I.ok.hd hc
    refine wpAny_pyNext_enum_endD (Draws.tuple hd it a hai its.toArray) he ⟨hn ▸ hit, p⟩ fun h' eb => ⟨rfl, I.turned (t' := s.toks) (fun b o hb q => eb b o hb q) f0 f1 f3 f4 f5⟩
  self := fun A i s Q E st h => by
    obtain ⟨⟨_, he⟩, _⟩ := st
    exact wpAny_pyIter_enum he h
/-- enumerate of a list or a tuple -/
def iEnumS (K : PySem.W.Frag) (ta : TA) : TI := fun σ H R => ta σ H fun vs H1 => ∃ a xs, vs = [.ref a] ∧ ((SqL K H1 a xs ∧ R (Ite K a) H1) ∨ (SqT K H1 a xs ∧ R (IteT K a) H1))
theorem pi_enumS {X : Cx} {e : Expr} {ta : TA} {p pos tpos : Pos} {elts : List Expr} {kk : Nat} (hg : Gl X "enumerate") (hm : X.mg "enumerate" = none) (ha : PA X [e] ta) (hs : starEach [e] X.env = [(false, eval e X.env)] := by rfl) :
    PI X (.Tuple elts kk tpos) (.Call (.Name "enumerate" p) [e] [] pos) (iEnumS X.K ta) := ⟨fun pins s σ H R I h => by
  refine PyProof.Rows.Call_ (ld_blt I hg hm PyProof.Rows.boot_enumerate (PyProof.Rows.callWith_type1 (thn (ha.run pos pins s σ H _ I h) fun us s1 ⟨vs, H1, I1, r1, q1⟩ => ?_) hs rfl))
  obtain ⟨a, xs, rfl, q⟩ := q1
  obtain ⟨u, rfl, ru⟩ := vals1 r1
  cases ru
  have fps : ∀ b ∈ [s1.heap.objs.size + 1, s1.heap.objs.size], FpOk X pins H1 b := fun b hb => by
    have hle : s1.heap.objs.size ≤ b := by
      rcases List.mem_cons.mp hb with z | hb
      · exact z ▸ Nat.le_succ _
      · exact (List.mem_singleton.mp hb) ▸ Nat.le_refl _
    exact I1.fpOk hle (I1.hok.fresh hle)
  rcases q with ⟨hq, q⟩ | ⟨hq, q⟩
  · obtain ⟨its, rv, p', hz⟩ := I1.list hq
    exact call_enumerate_list p'.isList fun h' he hit hsz hk => wpAny_pyIter_enum he ⟨_, [_, _], _, _, H1, rfl, I1.kept (t' := s1.toks) hk, turn_enum a (s1.heap.objs.size + 1) s1.heap.objs.size, ⟨⟨.none, he⟩, hit, Nat.succ_ne_self _⟩, fps, q⟩
  · obtain ⟨its, rv, p', hz⟩ := I1.tuple hq
    have tup : s1.heap.IsTuple a its.toArray := p'
    have hal : a < s1.heap.objs.size := by obtain ⟨o, ho, _⟩ := tup; exact Heap.lt_size ho
    exact enum_starts (begins_tuple a its.toArray) tup fun h' he hit hk => wpAny_pyIter_enum he ⟨_, [_, _], _, _, H1, rfl, I1.kept (t' := s1.toks) hk, turn_enumT a (s1.heap.objs.size + 1) s1.heap.objs.size, ⟨⟨.none, he⟩, ⟨_, hit, rfl, rfl⟩, Nat.succ_ne_self _, Nat.ne_of_lt hal, Nat.ne_of_gt (Nat.lt_succ_of_lt hal)⟩, fps, q⟩⟩
end Z
set_option Elab.async false
set_option linter.all false
set_option maxRecDepth 100000
set_option maxHeartbeats 4000000
/-! Z6: promises where no repr is running around (for repr); the end. -/
namespace Z
open PySem PySem.Spec PyProof.Rows L2
/-- a def's promise, called where no repr runs -/
structure FnG (P : Program) (w : World) (K : PySem.W.Frag) (mg : Str → Option Value) (base : Heap) (k : Nat) (f : Addr) (fd : FuncData) (ps : List Str) (sp : Sp) : Prop where
  len : ∀ vs H Q E, sp vs H Q E → vs.length = ps.length
  run : ∀ (A : Around) (outer : List Env) (s : Shared) (H : Hp) (args : Args) (us : List Value) (vs : List V) (Q : VK) (E : XK), Room k A → A.guards = some [] → Env0 P w K mg base A outer s H → BindsTo s fd args (ps.zip us) → Vals vs us → sp vs H Q E →
    codeAny (model P w) A (.call (.ref f) args) (CR CX0 outer P w H s Q E) s
theorem FnG.mono {P : Program} {w : World} {K : PySem.W.Frag} {mg : Str → Option Value} {base : Heap} {j k : Nat} {f : Addr} {fd : FuncData} {ps : List Str} {sp : Sp} (F : FnG P w K mg base j f fd ps sp) (h : j ≤ k) : FnG P w K mg base k f fd ps sp :=
  ⟨F.len, fun A outer s H args us vs Q E r => F.run A outer s H args us vs Q E (r.mono h)⟩
/-- a name of the module that holds a def with a promise over data -/
structure FnAt (P : Program) (w : World) (K : PySem.W.Frag) (mg : Str → Option Value) (base : Heap) (x : Str) (k : Nat) (n : Nat) (sp : Sp) : Prop where
  ex : ∃ (f : Addr) (fd : FuncData) (ps : List Str), ps.length = n ∧ mg x = some (.ref f) ∧ PySem.W.keepIn K (.ref f) = true ∧ Binds K fd ps [] ∧ FnG P w K mg base k f fd ps sp
section
variable {X : Cx} {k n : Nat} {sp : Sp} {x : Str} {p pos : Pos} {e : Expr} {es : List Expr} {t : TA}
theorem pe_callG (F : FnAt X.prog X.w X.K X.mg X.base x k n sp) (hr : Room k X.A) (hgd : X.A.guards = some []) (hg : Gl X x) (ha : PA X (e :: es) t) (hdb : (x == ("__debug__" : Str)) = false := by decide)
    (he : starEach (e :: es) X.env = (false, eval e X.env) :: starEach es X.env := by rfl) (hpl : (backTo pos (starEach es X.env)).any (·.1) = false := by rfl) : PE X (.Call (.Name x p) (e :: es) [] pos) (tCall sp [] E0 t) := ⟨fun pins s σ H Q I h => by
  obtain ⟨f, fd, ps, _, hm, hk, hb, G⟩ := F.ex
  refine wpAny_Call_Name_kw (ld_glob I hg hm ?_ hdb)
  refine PySem.W.callWith_K (h₀ := X.base) I.ok.mod.kin hk (thn (ha.run pos pins s σ H _ I h) fun us s1 ⟨vs, H1, I1, r, q⟩ => ⟨I1.kIn, ?_⟩) he hpl
  have q : sp vs H1 Q E0 := by
    have q0 : sp (vs ++ []) H1 Q E0 := q
    rwa [List.append_nil] at q0
  have hl : (us ++ []).length = ps.length := by rw [List.append_nil, ← r.length]; exact G.len _ _ _ _ q
  have hb' := hb s1 us I1.kIn hl
  rw [List.append_nil] at hb'
  refine wpAny_call (codeAny_mono (G.run X.A X.stack s1 H1 ⟨us, []⟩ us vs Q E0 hr hgd I1.env0 hb' r q) fun r' s' hq => ?_)
  cases r' with
  | error e => exact False.elim hq
  | ok fl =>
    cases fl with
    | ret u => exact I1.after hq
    | next => exact False.elim hq
    | brk => exact False.elim hq
    | cont => exact False.elim hq⟩
end
section
variable {P : Program} {w : World} {K : PySem.W.Frag} {mg : Str → Option Value} {base : Heap}
/-- a def of the text: its body's reading keeps the promise -/
theorem fnG_of {x qual : Str} {st : Stmt} {f : Addr} {fd : FuncData} {N ps : List Str} {k : Nat} {sp : Sp} (F : Fun K x qual st f fd) (S : FnScope N ps (defScope st)) (len : ∀ vs H Q E, sp vs H Q E → vs.length = ps.length)
    (hbody : ∀ (cdv : Value) (A : Around) (outer : List Env) (s : Shared) (H : Hp) (vs : List V) (Q : VK) (E : XK), Room k (A.deeper (envOfC qual (defScope st) s.heap.objs.size f cdv)) → A.guards = some [] → sp vs H Q E →
      ∃ t, PSs (cxOf CX0 P w K mg base N qual (defScope st) f cdv A outer s H E).nox (defBody st) t ∧ t { nx := fun _ H' => Q .non H', rt := Q } (L2.start N vs) H) : FnG P w K mg base (k + 1) f fd ps sp := by
  obtain ⟨oc, od, kV, doc, pm, an, cdv, ct, osl, rfl, lk, hcd⟩ := F.ex
  refine ⟨len, fun A outer s H args us vs Q E hr hgd e0 hb r hsp => ?_⟩
  have hl := len _ _ _ _ hsp
  have kept : ∀ b o, base.get? b = some o → s.heap.get? b = some o := fun b o e => (e0.bs b o e).1
  have KX : K.In s.heap := e0.mod.kin.keeps kept
  have lim : s.heap.NoLimit := e0.mod.nolimit.keeps kept
  have kinds : ∀ y ∈ ps.zip us, (defScope st).names.lookup y.1 = some .local ∨ ((defScope st).names.lookup y.1 = some .cell ∧ ((cellsFrom (s.heap.objs.size + 1) (defScope st).names []).lookup y.1).isSome = true) := fun y hy =>
    (S.par y.1 (List.of_mem_zip (a := y.1) (b := y.2) hy).1).imp id fun q => ⟨q, PySem.W.cellsFrom_some _ _ _ (.inl q)⟩
  refine codeAny_call_function hr.depth (KX _ _ lk) rfl S.co S.gen rfl (PySem.W.codeRec_of KX hcd) (hb _ _ _ _ (wpAny_newFunctionEnv_cells S.kind kinds fun env he s1 nw => ?_))
  subst he
  refine ⟨lim.keeps nw.toInCall.keep, codeAny_func ?_⟩
  obtain ⟨t, ht, hq⟩ := hbody cdv A outer s H vs Q E (hr.deeper _) hgd hsp
  have I := inv_start (P := P) (w := w) (CX := CX0) (E := E) S hr.hd e0 hl r nw
  refine wpAny_mono (ht.nox.run [] s1 (L2.start N vs) H _ I hq) (fun fl s' hs => ?_) fun e s' hs => hs
  cases fl with
  | ret u =>
    obtain ⟨v, σ', H', J, rv, q⟩ := hs
    exact ⟨v, H', J.os, J.bare, J.base, J.hok, rv, q⟩
  | next =>
    obtain ⟨σ', H', J, q⟩ := hs
    exact ⟨.non, H', J.os, J.bare, J.base, J.hok, rfl, q⟩
  | brk =>
    obtain ⟨_, _, _, q⟩ := hs
    exact False.elim q
  | cont =>
    obtain ⟨_, _, _, q⟩ := hs
    exact False.elim q
theorem fnAt_of {x : Str} {st : Stmt} {f : Addr} {fd : FuncData} {ps : List Str} {k n : Nat} {sp : Sp} (hm : mg x = some (.ref f)) (F : Fun K x x st f fd) (hn : ps.length = n) (hb : Binds K fd ps []) (G : FnG P w K mg base k f fd ps sp) : FnAt P w K mg base x k n sp :=
  ⟨f, fd, ps, hn, hm, F.kp, hb, G⟩
/-! ### the law's own call -/
theorem lawG {k : Nat} {mb : Str → Option Value} {fa a : Addr} {fd : FuncData} {x : Str} {sp : Sp} {s1 : Shared} {vs : List Value} {ns : List Int}
    (KX : K.In s1.heap) (hns : s1.heap.Ns mainGlobals mg) (hb : s1.heap.Ns builtinsNs mb) (hbb : ∀ x : Str, x ≠ "__name__" → mb x = bootBuiltins x) (hlim : s1.heap.NoLimit) (hg : s1.gens = #[])
    (ha : s1.heap.get? a = some { cls := .type "list", data := .seq vs.toArray }) (hi : PyProof.Rows.IntsAre vs ns) (hl : ns.length ≤ sizeLine) (hr : Room k callerA)
    (F : ∀ base : Heap, K.In base → base.Ns mainGlobals mg → FnG P w K mg base k fa fd [x] sp) (hbind : ∀ (s : Shared) (u : Value), BindsTo s fd ⟨[u], []⟩ [(x, u)])
    (hsp : ∀ H : Hp, Only H → SqL K H a (ns.map V.int) → sp [.ref a] H (fun v _ => v = .bl true) fun _ _ _ => False) :
    codeAny (model P w) callerA (.call (.ref fa) ⟨[.ref a], []⟩) (fun r s' => r = .ok (.ret (.bool true)) ∧ OldK s1.heap s'.heap ∧ s'.os = s1.os ∧ AllBare s'.gens) s1 := by
  have rv := vals_ints hi
  have hlen := hi.length
  have core : ∀ H : Hp, Only H → SqL K H a (ns.map V.int) → HOk P w H s1.heap → (∀ b, H b ≠ none → b = a) → (H a ≠ none → K.lookup a = none) →
      codeAny (model P w) callerA (.call (.ref fa) ⟨[.ref a], []⟩) (fun r s' => r = .ok (.ret (.bool true)) ∧ OldK s1.heap s'.heap ∧ s'.os = s1.os ∧ AllBare s'.gens) s1 := by
    intro H hO hS hok hA hK
    have away : ∀ b : Addr, (∀ o, s1.heap.get? b = some o → b = a → False) → (∃ o, s1.heap.get? b = some o) → H b = none := fun b hne ⟨o, ho⟩ => by
      cases q : H b with
      | none => rfl
      | some u => exact (hne o ho (hA b (by rw [q]; exact fun z => nomatch z))).elim
    have dicts : ∀ {b : Addr} {m : Str → Option Value}, s1.heap.Ns b m → (hidT s1.heap H).Ns b m := fun {b m} ⟨o, es, ep, e, d, r⟩ => ⟨o, es, ep, hidT_get e (away b (fun o' h' hba => by
      subst hba
      rw [e] at h'
      cases h'
      rw [ha] at e
      cases e
      exact nomatch (show Data.seq vs.toArray _ = Data.dict es ep from d)) ⟨o, e⟩), d, r⟩
    have hKb : K.In (hidT s1.heap H) := fun b o e => hidT_get (KX b o e) (by
      cases q : H b with
      | none => rfl
      | some u =>
        have hba : b = a := hA b (by rw [q]; exact fun z => nomatch z)
        subst hba
        rw [hK (by rw [q]; exact fun z => nomatch z)] at e
        cases e)
    obtain ⟨mc, n1, n2⟩ := hlim
    have hM : Mod K mg (hidT s1.heap H) := ⟨hKb, dicts hns, ⟨mb, dicts hb, hbb⟩, mc, dicts n1, n2⟩
    have e0 : Env0 P w K mg (hidT s1.heap H) callerA [] s1 H := ⟨rfl, hM, fun b o e => of_hidT e, Nat.le_of_eq (hidT_size _ _), trivial, (fun b hb => nomatch (show b ∈ ([] : List Addr) from hb)), hok, .of_eq hg⟩
    refine codeAny_mono ((F _ hKb (dicts hns)).run callerA [] s1 H ⟨[.ref a], []⟩ [.ref a] [.ref a] _ _ hr rfl e0 (hbind s1 (.ref a)) (.cons rfl .nil) (hsp H hO hS)) fun r s' h => ?_
    cases r with
    | error e => exact False.elim h
    | ok fl =>
      cases fl with
      | next => exact False.elim h
      | brk => exact False.elim h
      | cont => exact False.elim h
      | ret u =>
        obtain ⟨v, H', os, bare, un, hok', r', q⟩ := h
        obtain rfl : v = .bl true := q
        obtain rfl : u = Value.bool true := r'
        refine ⟨rfl, OldK.of_keep fun b o e => ?_, os, bare⟩
        cases q : H b with
        | none => exact un.keep b o e q (fun z => nomatch (show b ∈ ([] : List Addr) from z)) (fun z => nomatch z)
        | some u =>
          rcases hO b with z | ⟨ob, xs, z⟩
          · rw [q] at z; cases z
          · obtain ⟨e1, _⟩ := hok b _ z
            obtain ⟨e2, _⟩ := hok' b _ (un.frzs b ob _ z)
            rw [e] at e1
            cases e1
            exact e2
  cases hk : K.lookup a with
  | some o =>
    have e := KX a o hk
    rw [ha] at e
    cases e
    exact core (fun _ => none) (fun _ => .inl rfl) (.inr ⟨_, vs.toArray, _, hk, rfl, rfl, rfl, by rw [List.size_toArray, hlen]; exact hl, by simpa using rv⟩) (fun b u z => nomatch (show (none : Option HO) = some u from z)) (fun b z => absurd rfl z) fun z => absurd rfl z
  | none =>
    refine core (fun b => if b = a then some (.frz { cls := .type "list", data := .seq vs.toArray } (.lst (ns.map V.int))) else none) (fun b => ?_) (.inl (.inr ⟨_, if_pos rfl⟩)) (fun b u z => ?_) (fun b z => ?_) fun _ => hk
    · by_cases hb : b = a
      · exact .inr ⟨_, _, if_pos hb⟩
      · exact .inl (if_neg hb)
    · by_cases hb : b = a
      · cases (if_pos hb).symm.trans z
        subst hb
        exact ⟨ha, by rw [List.length_map]; exact hl, vs, _, rv, ha⟩
      · cases (if_neg hb).symm.trans z
    · by_cases hb : b = a
      · exact hb
      · exact absurd (if_neg hb) z
end
theorem walkG {l : PySem.W.OpenLaw} {n k : Nat} {q : Program} {loose : List Str} {XP : (Str → Option Value) → Heap → Prop} {YP : World → Heap → Prop} {d : DefRec} {K : Params → PySem.W.Frag} {sp : PySem.W.Frag → Sp} {x : Str}
    (hn : l.most = some n) (hn2 : n ≤ sizeLine) (hdf : d.params.defaults = []) (hr : Room k callerA) (hY : ∀ (w : World) (h : Heap), YP w h → (K w.params).In h)
    (F : ∀ (w : World) (mg : Str → Option Value) (fa : Addr) (h : Heap), (K w.params).In h → h.Ns mainGlobals mg → mg d.name = some (.ref fa) →
      ∃ fd : FuncData, (∀ (s : Shared) (u : Value), BindsTo s fd ⟨[u], []⟩ [(x, u)]) ∧ ∀ base : Heap, (K w.params).In base → base.Ns mainGlobals mg → FnG l.prog w (K w.params) mg base k fa fd [x] (sp (K w.params)))
    (hsp : ∀ (K : PySem.W.Frag) (H : Hp) (a : Addr) (ns : List Int), ns.length ≤ n → Only H → SqL K H a (ns.map V.int) → sp K [.ref a] H (fun v _ => v = .bl true) fun _ _ _ => False) :
    PySem.W.WalkO q loose XP YP l.row.toRowW d [] (fun f vs => PySem.call f vs) :=
  Att.attach_call hn hdf fun w s0 s1 mg mb fa o pm cd doc a vs ns G Y ho hd hcd hmg hobj hints hlen hg => by
    obtain ⟨fd, hb, hF⟩ := F w mg fa _ (hY w _ Y) G.T.g hmg
    exact lawG (hY w _ Y) G.T.g G.T.b G.T.builtins G.T.nolimit hg hobj hints (Nat.le_trans hlen hn2) hr hF hb fun H hO hS => hsp (K w.params) H a ns hlen hO hS
end Z
set_option Elab.async false
set_option linter.all false
set_option maxRecDepth 100000
set_option maxHeartbeats 4000000
/-! Z7: rules over data: ==, repr, index, sum, len, tuple, int, repeat, enumerate. -/
namespace Z
open PySem PySem.Spec PyProof.Rows L2
/-! ### a value that stands for plain data, as the layer's Dp -/
section
variable {c : Zc} {H : Hp}
mutual
theorem Rp.dp : ∀ (d : D) (v : V) (fp : List Addr), Rp c H d v fp → d.plain = true → Dp c.K H v d
  | .none, v, fp, h, _ => by simp only [Rp] at h; rw [h.1]; exact .non
  | .bool b, v, fp, h, _ => by simp only [Rp] at h; rw [h.1]; exact .bl b
  | .int i, v, fp, h, _ => by simp only [Rp] at h; rw [h.1]; exact .int i
  | .str x, v, fp, h, _ => by simp only [Rp] at h; rw [h.1]; exact .str x
  | .list ds, v, fp, h, p => by
    simp only [Rp] at h
    obtain ⟨a, xs, gp, rfl, rfl, h1, h2⟩ := h
    exact .lst (.of h1) (Rps.dp ds xs gp h2 (by simpa only [PyData.plain] using p))
  | .tuple ds, v, fp, h, p => by
    simp only [Rp] at h
    obtain ⟨a, xs, rfl, h1, h2⟩ := h
    exact .tup h1.t (Rps.dp ds xs fp h2 (by simpa only [PyData.plain] using p))
  | .dict kvs, v, fp, h, p => by simp [PyData.plain] at p
theorem Rps.dp : ∀ (ds : List D) (xs : List V) (fp : List Addr), Rps c H ds xs fp → PyData.plainAll ds = true → DpAll c.K H xs ds
  | [], xs, fp, h, _ => by simp only [Rps] at h; rw [h.1]; exact .nil
  | d :: ds, xs, fp, h, p => by
    simp only [Rps] at h
    simp only [PyData.plainAll, Bool.and_eq_true] at p
    obtain ⟨x, ys, f1, f2, rfl, rfl, h1, h2⟩ := h
    exact .cons (Rp.dp d x f1 h1 p.1) (Rps.dp ds ys f2 h2 p.2)
end
end
/-! ### == and != -/
def rEqZ (K : PySem.W.Frag) (neg : Bool) : R2 := fun x y H Q => ∃ d e, Dp K H x d ∧ Dp K H y e ∧ d.plain = true ∧ e.plain = true ∧ min d.depth e.depth ≤ 60 ∧ Q (.bl (if neg then !PyData.eqv d e else PyData.eqv d e)) H
section
variable {X : Cx}
theorem op_eqZ (hu : X.A.units + 64 < cLine) : OpR X (compareOp .Eq) (rEqZ X.K false) := fun pins s σ H x y v u Q I rx ry h => by
  obtain ⟨d, e, hd, he, pd, pe, hz, q⟩ := h
  obtain ⟨as, r1⟩ := Dp.reads I d x v hd rx
  obtain ⟨bs, r2⟩ := Dp.reads I e y u he ry
  exact SeqAt.eq_plain r1 r2 pd pe (by omega) ⟨.bl _, H, I, rfl, q⟩
theorem op_neZ (hu : X.A.units + 64 < cLine) : OpR X (compareOp .NotEq) (rEqZ X.K true) := fun pins s σ H x y v u Q I rx ry h => by
  obtain ⟨d, e, hd, he, pd, pe, hz, q⟩ := h
  obtain ⟨as, r1⟩ := Dp.reads I d x v hd rx
  obtain ⟨bs, r2⟩ := Dp.reads I e y u he ry
  exact SeqAt.ne_plain r1 r2 pd pe (by omega) ⟨.bl _, H, I, rfl, q⟩
end
/-! ### how great a datum is -/
/-- plain, at most k deep, shown by at most w signs -/
structure Ok (k w : Nat) (d : D) : Prop where
  plain : d.plain = true
  depth : d.depth ≤ k
  show' : d.showable = true
  len : d.shown.length ≤ w
theorem Ok.mono {k w k' w' : Nat} {d : D} (h : Ok k w d) (a : k ≤ k') (b : w ≤ w') : Ok k' w' d := ⟨h.plain, Nat.le_trans h.depth a, h.show', Nat.le_trans h.len b⟩
theorem Ok.int {i : Int} (h : i.natAbs < 10 ^ 12) : Ok 0 13 (.int i) := ⟨by simp [PyData.plain, PyData.canLay0], by simp [PyData.depth], by
    simp only [PyData.showable, decide_eq_true_eq]
    exact log2_small (Nat.lt_of_lt_of_le h (by decide)), PyData.shown_int_le h⟩
theorem Ok.bool {b : Bool} : Ok 0 5 (.bool b) := by
  cases b <;> exact ⟨by decide, by decide, by decide, by decide⟩
theorem Ok.none : Ok 0 4 .none := ⟨by decide, by decide, by decide, by decide⟩
theorem plainAll_of : ∀ {ds : List D}, (∀ d ∈ ds, d.plain = true) → PyData.plainAll ds = true
  | [], _ => by simp [PyData.plainAll]
  | d :: ds, h => by
    simp only [PyData.plainAll, Bool.and_eq_true]
    exact ⟨h d (List.mem_cons_self ..), plainAll_of fun e he => h e (List.mem_cons_of_mem _ he)⟩
theorem depthAll_of {k : Nat} : ∀ {ds : List D}, (∀ d ∈ ds, d.depth ≤ k) → PyData.depthAll ds ≤ k
  | [], _ => by simp [PyData.depthAll]
  | d :: ds, h => by
    simp only [PyData.depthAll]
    exact Nat.max_le.mpr ⟨h d (List.mem_cons_self ..), depthAll_of fun e he => h e (List.mem_cons_of_mem _ he)⟩
theorem showableAll_of : ∀ {ds : List D}, (∀ d ∈ ds, d.showable = true) → PyData.showableAll ds = true
  | [], _ => by simp [PyData.showableAll]
  | d :: ds, h => by
    simp only [PyData.showableAll, Bool.and_eq_true]
    exact ⟨h d (List.mem_cons_self ..), showableAll_of fun e he => h e (List.mem_cons_of_mem _ he)⟩
theorem shownAll_map : ∀ ds : List D, PyData.shownAll ds = ds.map PyData.shown
  | [] => by simp [PyData.shownAll]
  | d :: ds => by simp only [PyData.shownAll, List.map_cons, shownAll_map ds]
theorem sum_le {w : Nat} : ∀ {ds : List D}, (∀ d ∈ ds, d.shown.length ≤ w) → ((PyData.shownAll ds).map (·.length)).sum ≤ ds.length * w
  | [], _ => by simp [PyData.shownAll]
  | d :: ds, h => by
    have h1 := h d (List.mem_cons_self ..)
    have h2 := sum_le fun e he => h e (List.mem_cons_of_mem _ he)
    simp only [PyData.shownAll, List.map_cons, List.sum_cons, List.length_cons, Nat.succ_mul]
    omega
theorem Ok.tuple {k w n : Nat} {ds : List D} (h : ∀ d ∈ ds, Ok k w d) (hn : ds.length ≤ n) : Ok (k + 1) (n * (w + 2) + 3) (.tuple ds) := by
  refine ⟨?_, ?_, ?_, ?_⟩
  · simp only [PyData.plain]; exact plainAll_of fun d hd => (h d hd).plain
  · simp only [PyData.depth]
    have := depthAll_of fun d hd => (h d hd).depth
    omega
  · simp only [PyData.showable]; exact showableAll_of fun d hd => (h d hd).show'
  · have h1 := tupleText_len_le (PyData.shownAll ds)
    have h2 := sum_le fun d hd => (h d hd).len
    have h3 : (PyData.shownAll ds).length = ds.length := by rw [shownAll_map, List.length_map]
    have h4 : ds.length * w ≤ n * w := Nat.mul_le_mul_right _ hn
    simp only [PyData.shown]
    rw [Nat.mul_add]
    omega
theorem Ok.list {k w n : Nat} {ds : List D} (h : ∀ d ∈ ds, Ok k w d) (hn : ds.length ≤ n) : Ok (k + 1) (n * (w + 2) + 3) (.list ds) := by
  refine ⟨?_, ?_, ?_, ?_⟩
  · simp only [PyData.plain]; exact plainAll_of fun d hd => (h d hd).plain
  · simp only [PyData.depth]
    have := depthAll_of fun d hd => (h d hd).depth
    omega
  · simp only [PyData.showable]; exact showableAll_of fun d hd => (h d hd).show'
  · have h1 := listText_len_le (PyData.shownAll ds)
    have h2 := sum_le fun d hd => (h d hd).len
    have h3 : (PyData.shownAll ds).length = ds.length := by rw [shownAll_map, List.length_map]
    have h4 : ds.length * w ≤ n * w := Nat.mul_le_mul_right _ hn
    simp only [PyData.shown]
    rw [Nat.mul_add]
    omega
/-! ### repr -/
def rRepr (K : PySem.W.Frag) : List V → Hp → VK → Prop := fun vs H Q => ∃ x d, vs = [x] ∧ Dp K H x d ∧ Ok 40 10000000 d ∧ Q (.str d.shown) H
theorem hasDict_plain : ∀ d : D, d.plain = true → d.hasDict = false := by
  have all : ∀ n : Nat, (∀ d : D, sizeOf d ≤ n → d.plain = true → d.hasDict = false) := by
    intro n
    induction n with
    | zero => intro d hd; cases d <;> simp at hd <;> omega
    | succ n ih =>
      have lst : ∀ xs : List D, sizeOf xs ≤ n → PyData.plainAll xs = true → PyData.hasDictAll xs = false := by
        intro xs
        induction xs with
        | nil => intro _ _; simp [PyData.hasDictAll]
        | cons x xs ihx =>
          intro hs hp
          simp only [List.cons.sizeOf_spec] at hs
          simp only [PyData.plainAll, Bool.and_eq_true] at hp
          simp only [PyData.hasDictAll, ih x (by omega) hp.1, ihx (by omega) hp.2, Bool.or_self]
      intro d hd hp
      cases d with
      | none => simp [PyData.hasDict]
      | bool b => simp [PyData.hasDict]
      | int i => simp [PyData.hasDict]
      | str x => simp [PyData.hasDict]
      | list xs =>
        simp only [PyData.list.sizeOf_spec] at hd
        simp only [PyData.hasDict]
        exact lst xs (by omega) (by simpa only [PyData.plain] using hp)
      | tuple xs =>
        simp only [PyData.tuple.sizeOf_spec] at hd
        simp only [PyData.hasDict]
        exact lst xs (by omega) (by simpa only [PyData.plain] using hp)
      | dict kvs => simp [PyData.plain] at hp
  exact fun d => all (sizeOf d) d (Nat.le_refl _)
theorem cr_repr {X : Cx} (hg : X.A.guards = some []) (hu : X.A.units + 64 < cLine) : CallR X (.builtin "repr") (rRepr X.K) := fun pins s σ H vs us Q I r h => by
  obtain ⟨x, d, rfl, hd, ok, q⟩ := h
  obtain ⟨u, rfl, ru⟩ := vals1 r
  have sz := lim_ok ok.len
  cases hd with
  | non => cases ru; exact P.repr_of_none ⟨.str _, H, I.tok _, ⟨_, rfl⟩, by simpa only [PyData.shown] using q⟩
  | bl b => cases ru; exact P.repr_of_bool ⟨.str _, H, I.tok _, ⟨_, rfl⟩, by simpa only [PyData.shown] using q⟩
  | int i =>
    obtain ⟨t, rfl⟩ := ru
    have hs := ok.show'
    simp only [PyData.showable, decide_eq_true_eq] at hs
    exact P.repr_of_int hs ⟨.str _, H, I.tok _, ⟨_, rfl⟩, by simpa only [PyData.shown] using q⟩
  | str z =>
    obtain ⟨t, rfl⟩ := ru
    exact P.repr_of_str ⟨.str _, H, I.tok _, ⟨_, rfl⟩, by simpa only [PyData.shown] using q⟩ (by simpa only [PyData.shown] using sz)
  | @lst a xs ds hs ha =>
    obtain ⟨as, rr⟩ := Dp.reads I _ _ _ (.lst hs ha) ru
    cases ru
    exact repr_of_reads' rr ok.show' (fun z => by rw [hasDict_plain _ ok.plain] at z; cases z) hg (by have := ok.depth; omega) (fun _ _ e => e) (fun h' u tk hk => ⟨.str _, H, I.kept hk, ⟨_, rfl⟩, q⟩) sz
  | @tup a xs ds hs ha =>
    obtain ⟨as, rr⟩ := Dp.reads I _ _ _ (.tup hs ha) ru
    cases ru
    exact repr_of_reads' rr ok.show' (fun z => by rw [hasDict_plain _ ok.plain] at z; cases z) hg (by have := ok.depth; omega) (fun _ _ e => e) (fun h' u tk hk => ⟨.str _, H, I.kept hk, ⟨_, rfl⟩, q⟩) sz
/-- tuple(list): a known object; tuple(tuple) -/
def rTupF (K : PySem.W.Frag) : List V → Hp → VK → Prop := fun xs H Q => ∃ p ys, xs = [.ref p] ∧ ((SqL K H p ys ∧ ∀ l o, H l = none → o.dict = none → Q (.ref l) (upd H l (.frz o (.tup ys)))) ∨ (SqT K H p ys ∧ Q (.ref p) H))
theorem call_tupF {X : Cx} : CallR X (.type "tuple") (rTupF X.K) := fun pins s σ H vs us Q I r h => by
  obtain ⟨p, ys, rfl, h⟩ := h
  obtain ⟨u, rfl, rx⟩ := vals1 r
  rcases h with ⟨hl, q⟩ | ⟨ht, q⟩
  · cases rx
    obtain ⟨its, rv, pl, hz⟩ := I.list hl
    refine call_tuple_list pl.isList (fun h' kp => ?_) (by rw [List.size_toArray, ← rv.length]; exact hz)
    have J : Inv X pins σ H { s with heap := h' } := I.kept (t' := s.toks) kp
    have e := Heap.get?_push_size h' (o := { cls := .type "tuple", data := .seq its.toArray }) rfl
    exact ⟨.ref h'.objs.size, _, J.laid (t' := s.toks) (o := .frz { cls := .type "tuple", data := .seq its.toArray } (.tup ys)) (fun b o k => Heap.get?_push_of_some _ k) (Nat.le_refl _) ⟨e, hz, its, rv, ⟨_, e, rfl, _, rfl⟩⟩, rfl, q _ _ (J.hok.fresh (Nat.le_refl _)) rfl⟩
  · exact call_tuple_of pins s σ H [.ref p] _ Q I r ⟨p, ys, rfl, .inr ⟨ht, q⟩⟩
/-! ### t * k -/
theorem tuple_mul_one (l : Addr) (items : Array Value) (n : Nat) (dd : Option Addr) (sl : Array (Option Value)) (u : Tok) :
    Meets (Builtin.«tuple.__mul__» ⟨[.ref l, .int 1 u], []⟩) (fun _ R s => s.heap.get? l = some { cls := .type "tuple", dict := dd, data := .seq items n, slots := sl } ∧ R (.ok (.ret (Value.ref l))) s) :=
  .of_wp fun prog w A R s h => by
    obtain ⟨hp, g, d, tk, os⟩ := s
    obtain ⟨hl, h⟩ := h
    have f1 := AutoSeq1.idx_int
    wp_walk using wpAny_loadPart' hl
    repeat (first
      | (refine wpAny_ite_false (by decide) ?_; wp_walk using wpAny_loadPart' hl)
      | (refine wpAny_ite_true (by simp) ?_; wp_walk using wpAny_loadPart' hl))
    exact ⟨_, rfl, h⟩
/-- a tuple, not empty, from 1 to 1,000 times -/
def rRepA (K : PySem.W.Frag) : R2 := fun x y H Q => ∃ l k xs, x = .ref l ∧ y = .int k ∧ SqT K H l xs ∧ xs ≠ [] ∧ xs.length ≤ 1000 ∧ ((k = 1 ∧ Q (.ref l) H) ∨ (2 ≤ k ∧ k ≤ 1000 ∧ ∀ p o, H p = none → o.dict = none → Q (.ref p) (upd H p (.frz o (.tup (List.replicate k.toNat xs).flatten)))))
theorem flat_small {α : Type} {its : List α} {k : Int} (hz : its.length ≤ 1000) (h2 : k ≤ 1000) : (List.replicate k.toNat its).flatten.length ≤ sizeLine :=
  lim_ok (by
    have a := Nat.mul_le_mul (show k.toNat ≤ 1000 by omega) hz
    rw [PyProof.Rows.lm_len_rep_flat]
    omega)
/-- from 2 to 1,000 times -/
theorem op_repF {X : Cx} : OpR X (binaryOp .Mult) (fun x y H Q => ∃ l k xs, x = .ref l ∧ y = .int k ∧ SqT X.K H l xs ∧ xs ≠ [] ∧ 2 ≤ k ∧ k ≤ 1000 ∧ xs.length ≤ 1000 ∧ ∀ p o, H p = none → o.dict = none → Q (.ref p) (upd H p (.frz o (.tup (List.replicate k.toNat xs).flatten)))) := fun pins s σ H x y v u Q I rx ry h => by
  obtain ⟨l, k, xs, rfl, rfl, hT, hne, h1, h2, hz, q⟩ := h
  cases rx
  obtain ⟨t, rfl⟩ := ry
  obtain ⟨its, r, ⟨⟨cls, dd, data, sl⟩, ho, hc, n, hd⟩, hs⟩ := I.tuple hT
  simp only at hc hd
  subst hc hd
  have el : its.length = xs.length := r.length.symm
  have full : its.toArray.isEmpty = false := by
    cases its with
    | nil => exact (hne (List.eq_nil_of_length_eq_zero el.symm)).elim
    | cons _ _ => rfl
  have es : its.toArray.size = xs.length := by rw [List.size_toArray, el]
  have many : ((its.toArray.size : Nat) : Int) * k ≤ 1000000 := by
    rw [es]
    have a : ((xs.length : Nat) : Int) * k ≤ 1000 * k := Int.mul_le_mul_of_nonneg_right (by omega) (by omega)
    omega
  have small : (List.replicate k.toNat its).flatten.length ≤ sizeLine := flat_small (by rw [el]; exact hz) h2
  have c4 : Builtin.Tuple.tupleTooMany (((its.toArray.size : Nat) : Int) * k) = false := by
    unfold Builtin.Tuple.tupleTooMany
    rw [sizeLine_eq, decide_eq_false_iff_not]
    omega
  refine wpAny_binaryOp_repeat_ref (T := "tuple") (U := "int") (by decide) ⟨_, ho, rfl⟩ (fun s' => typeIs_int s' k t) noFill_tuple_mul F.fills_int_mul F.slot_int_rmul repeat_tuple F.slot_int_index.lookup
    (call_meets F.slot_int_rmul (typeIs_int s k t) F.entry_int_rmul (F.args_int_rmul_2 _ _) (int_rmul_tuple k t l its.toArray n dd sl)
      ⟨ho, rfl, ⟨_, ho, rfl⟩, call_meets F.slot_tuple_mul ⟨_, ho, rfl⟩ F.entry_tuple_mul (F.args_tuple_mul_2 _ _) (tuple_mulW l its.toArray n dd sl k t (by rw [decide_eq_false (by omega), decide_eq_false (by omega)]; rfl)
        (by rw [full, Bool.false_or]; exact beq_eq_false_iff_ne.mpr (by omega)) (by rw [full, Bool.or_false]; exact decide_eq_false (by omega)) (by omega) c4 (by rw [size_rep, List.size_toArray]; exact small)) ⟨ho, ?_⟩⟩)
  rw [size_rep]
  have e := Heap.get?_push_size s.heap (o := { cls := .type "tuple", data := .seq (List.replicate k.toNat its).flatten.toArray }) rfl
  exact ⟨.ref s.heap.objs.size, _, I.laid (t' := s.toks) (o := .frz { cls := .type "tuple", data := .seq (List.replicate k.toNat its).flatten.toArray } (.tup (List.replicate k.toNat xs).flatten)) (fun b ob w => Heap.get?_push_of_some _ w) (Nat.le_refl _) ⟨e, flat_small hz h2, _, r.rep k.toNat, ⟨_, e, rfl, _, rfl⟩⟩, rfl, q _ _ (I.hok.fresh (Nat.le_refl _)) rfl⟩
theorem op_repA {X : Cx} : OpR X (binaryOp .Mult) (rRepA X.K) := fun pins s σ H x y v u Q I rx ry h => by
  obtain ⟨l, k, xs, rfl, rfl, hT, hne, hz, q⟩ := h
  rcases q with ⟨rfl, q⟩ | ⟨h1, h2, q⟩
  · cases rx
    obtain ⟨t, rfl⟩ := ry
    obtain ⟨its, r, ⟨⟨cls, dd, data, sl⟩, ho, hc, n, hd⟩, hs⟩ := I.tuple hT
    simp only at hc hd
    subst hc hd
    exact wpAny_binaryOp_repeat_ref (T := "tuple") (U := "int") (by decide) ⟨_, ho, rfl⟩ (fun s' => typeIs_int s' 1 t) noFill_tuple_mul F.fills_int_mul F.slot_int_rmul repeat_tuple F.slot_int_index.lookup
      (call_meets F.slot_int_rmul (typeIs_int s 1 t) F.entry_int_rmul (F.args_int_rmul_2 _ _) (int_rmul_tuple 1 t l its.toArray n dd sl)
        ⟨ho, rfl, ⟨_, ho, rfl⟩, call_meets F.slot_tuple_mul ⟨_, ho, rfl⟩ F.entry_tuple_mul (F.args_tuple_mul_2 _ _) (tuple_mul_one l its.toArray n dd sl t) ⟨ho, .ref l, H, I, rfl, q⟩⟩)
  · exact op_repF pins s σ H _ _ v u Q I rx ry ⟨l, k, xs, rfl, rfl, hT, hne, h1, h2, hz, q⟩
/-- ints, or a tuple so often -/
def rMul (K : PySem.W.Frag) : R2 := fun x y H Q => rI CMul (fun i j => .int (i * j)) x y H Q ∨ rRepA K x y H Q ∨ rRep x y H Q
theorem op_mulZ {X : Cx} : OpR X (binaryOp .Mult) (rMul X.K) := op_mul.or (op_repA.or op_rep)
/-! ### the same over data -/
section
variable {K : PySem.W.Frag} {S : Option (Addr × Addr)}
def fEq (neg : Bool) : D → D → (D → Prop) → Prop := fun x y R => x.plain = true ∧ y.plain = true ∧ min x.depth y.depth ≤ 60 ∧ R (.bool (if neg then !PyData.eqv x y else PyData.eqv x y))
theorem od_eq {neg : Bool} : OpD K S (rEqZ K neg) (fEq neg) := .pure fun H x y d e f1 f2 r1 r2 R hf Q q => by
  obtain ⟨h1, h2, h3, hR⟩ := hf
  exact ⟨d, e, r1.dp _ _ _ h1, r2.dp _ _ _ h2, h1, h2, h3, q _ _ hR bl_rp⟩
def fRepr : List D → (D → Prop) → Prop := fun ds R => match ds with
  | [d] => Ok 40 10000000 d ∧ R (.str d.shown)
  | _ => False
theorem rps_one {c : Zc} {H : Hp} {d : D} {xs : List V} {fp : List Addr} (h : Rps c H [d] xs fp) : ∃ x, xs = [x] ∧ Rp c H d x fp := by
  simp only [Rps] at h
  obtain ⟨x, ys, f1, f2, rfl, rfl, h1, rfl, rfl⟩ := h
  exact ⟨x, rfl, by rwa [List.append_nil]⟩
theorem rps_two {c : Zc} {H : Hp} {d e : D} {xs : List V} {fp : List Addr} (h : Rps c H [d, e] xs fp) : ∃ x y f1 f2, xs = [x, y] ∧ fp = f1 ++ f2 ∧ Rp c H d x f1 ∧ Rp c H e y f2 := by
  simp only [Rps] at h
  obtain ⟨x, ys, f1, f2, rfl, rfl, h1, y, zs, f3, f4, rfl, rfl, h2, rfl, rfl⟩ := h
  exact ⟨x, y, f1, f3, rfl, by rw [List.append_nil], h1, h2⟩
theorem cd_repr : CallD K S (rRepr K) fRepr := .pure fun H xs ds fp r R hf Q q => by
  unfold fRepr at hf
  split at hf
  · rename_i d
    obtain ⟨x, rfl, rx⟩ := rps_one r
    exact ⟨x, d, rfl, rx.dp _ _ _ hf.1.plain, hf.1, q _ _ hf.2 str_rp⟩
  · exact hf.elim
/-- x[i] -/
def fIx : D → D → (D → Prop) → Prop := fun x y R => asI y fun i => match x with
  | .list ds => ∃ d, atI ds i = some d ∧ R d
  | .tuple ds => ∃ d, atI ds i = some d ∧ R d
  | .str z => z.length ≤ 10000000 ∧ ∃ c, atI z.cps.toList i = some c ∧ R (.str ⟨#[c]⟩)
  | _ => False
theorem rps_atI {c : Zc} {H : Hp} {ds : List D} {xs : List V} {fp : List Addr} {i : Int} {d : D} (h : Rps c H ds xs fp) (e : atI ds i = some d) : ∃ x gp, atI xs i = some x ∧ Rp c H d x gp ∧ (∀ a ∈ gp, a ∈ fp) ∧ (fp.Nodup → gp.Nodup) := by
  unfold atI at e ⊢
  rw [h.len]
  cases hn : ixN ds.length i with
  | none => rw [hn] at e; cases e
  | some j =>
    rw [hn] at e
    exact h.at (i := j) e
theorem oa_ix : OpA K S (rIx K) fIx := fun H x y d e f1 f2 s r1 n1 r2 n2 R hf Q q => by
  obtain ⟨i, rfl, hf⟩ := asI_ok hf
  have ey := rp_int r2
  subst ey
  cases d with
  | list ds =>
    obtain ⟨z, hz, hR⟩ := hf
    simp only [Rp] at r1
    obtain ⟨a, xs, gp, rfl, rfl, h1, h2⟩ := r1
    obtain ⟨v, kp, e1, e2, e3, e4⟩ := rps_atI h2 hz
    exact .inl ⟨a, xs, i, v, rfl, rfl, .of h1, e1, q z v kp hR e2 (fun b hb => List.mem_cons_of_mem _ (e3 b hb)) fun nd => e4 (List.nodup_cons.mp nd).2⟩
  | tuple ds =>
    obtain ⟨z, hz, hR⟩ := hf
    simp only [Rp] at r1
    obtain ⟨a, xs, rfl, h1, h2⟩ := r1
    obtain ⟨v, kp, e1, e2, e3, e4⟩ := rps_atI h2 hz
    exact .inr (.inl ⟨a, xs, i, v, rfl, rfl, h1.t, e1, q z v kp hR e2 e3 e4⟩)
  | str z =>
    obtain ⟨hl, c, hc, hR⟩ := hf
    simp only [Rp] at r1
    obtain ⟨rfl, rfl⟩ := r1
    exact .inr (.inr ⟨z, i, c, rfl, rfl, lim_ok hl, hc, q _ _ [] hR (str_rp H) (fun b hb => hb) fun nd => nd⟩)
  | none => exact hf.elim
  | bool b => exact hf.elim
  | int j => exact hf.elim
  | dict kvs => exact hf.elim
/-- sum of a list of ints -/
def fSum : List D → (D → Prop) → Prop := fun ds R => match ds with
  | [.list xs] => ∃ ns : List Int, xs = ns.map .int ∧ R (.int ns.sum)
  | _ => False
theorem rps_ints {c : Zc} {H : Hp} : ∀ {ns : List Int} {xs : List V} {fp : List Addr}, Rps c H (ns.map .int) xs fp → xs = ns.map .int ∧ fp = []
  | [], xs, fp, h => by simpa [Rps] using h
  | n :: ns, xs, fp, h => by
    simp only [List.map_cons, Rps] at h
    obtain ⟨x, ys, f1, f2, rfl, rfl, h1, h2⟩ := h
    simp only [Rp] at h1
    obtain ⟨rfl, rfl⟩ := h1
    obtain ⟨rfl, rfl⟩ := rps_ints h2
    exact ⟨rfl, rfl⟩
/-- len of a list, a tuple -/
def fLen : List D → (D → Prop) → Prop := fun ds R => match ds with
  | [.list xs] => R (.int xs.length)
  | [.tuple xs] => R (.int xs.length)
  | [.str z] => z.length ≤ 10000000 ∧ R (.int z.length)
  | _ => False
theorem cd_len : CallD K S (fun xs H Q => ∃ x n, xs = [x] ∧ LenV K x H n ∧ Q (.int n) H) fLen := .pure fun H xs ds fp r R hf Q q => by
  unfold fLen at hf
  split at hf
  · rename_i es
    obtain ⟨x, rfl, rx⟩ := rps_one r
    simp only [Rp] at rx
    obtain ⟨a, ys, gp, rfl, rfl, h1, h2⟩ := rx
    exact ⟨_, es.length, rfl, .inl ⟨ys, .of h1, h2.len.symm⟩, q _ _ hf int_rp⟩
  · rename_i es
    obtain ⟨x, rfl, rx⟩ := rps_one r
    simp only [Rp] at rx
    obtain ⟨a, ys, rfl, h1, h2⟩ := rx
    exact ⟨_, es.length, rfl, .inr ⟨ys, h1.t, h2.len.symm⟩, q _ _ hf int_rp⟩
  · rename_i z
    obtain ⟨x, rfl, rx⟩ := rps_one r
    simp only [Rp] at rx
    obtain ⟨rfl, rfl⟩ := rx
    exact ⟨_, z.length, rfl, ⟨lim_ok hf.1, rfl⟩, q _ _ hf.2 int_rp⟩
  · exact hf.elim
/-- tuple(list), tuple(tuple), nothing in it that may change -/
def fTuple : List D → (D → Prop) → Prop := fun ds R => match ds with
  | [.list xs] => solids xs = true ∧ R (.tuple xs)
  | [.tuple xs] => solids xs = true ∧ R (.tuple xs)
  | _ => False
theorem cd_tuple : CallD K S (rTupF K) fTuple := fun H xs ds fp s r n R hf Q q => by
  unfold fTuple at hf
  split at hf
  · rename_i es
    obtain ⟨x, rfl, rx⟩ := rps_one r
    simp only [Rp] at rx
    obtain ⟨a, ys, gp, rfl, rfl, h1, h2⟩ := rx
    have z := h2.solid _ _ _ hf.1
    subst z
    refine ⟨a, ys, rfl, .inl ⟨.of h1, fun l o hl ho => ?_⟩⟩
    have e := Ext.new (c := ⟨K, S⟩) (o := .frz o (.tup ys)) hl
    refine q (.tuple es) (.ref l) _ [] hf.2 e (s.new hl) ?_ .nil List.nodup_nil fun b hb => by cases hb
    simp only [Rp]
    exact ⟨l, ys, rfl, .new ho, h2.ext .nil e s⟩
  · rename_i es
    obtain ⟨x, rfl, rx⟩ := rps_one r
    have z := rx.solid _ _ _ (by simp only [solid]; exact hf.1)
    subst z
    have rx' := rx
    simp only [Rp] at rx
    obtain ⟨a, ys, rfl, h1, h2⟩ := rx
    exact ⟨a, ys, rfl, .inr ⟨h1.t, q _ _ H [] hf.2 (Ext.refl _ _) s rx' .nil List.nodup_nil fun b hb => by cases hb⟩⟩
  · exact hf.elim
/-- int(int), int(bool) -/
def fInt : List D → (D → Prop) → Prop := fun ds R => match ds with
  | [.int i] => R (.int i)
  | [.bool b] => R (.int (if b then 1 else 0))
  | _ => False
theorem cd_int : CallD K S (fun xs H Q => (∃ i, xs = [.int i] ∧ Q (.int i) H) ∨ ∃ k, xs = [.bl k] ∧ Q (.int (if k then 1 else 0)) H) fInt := .pure fun H xs ds fp r R hf Q q => by
  unfold fInt at hf
  split at hf
  · obtain ⟨x, rfl, rx⟩ := rps_one r
    exact .inl ⟨_, by rw [rp_int rx], q _ _ hf int_rp⟩
  · obtain ⟨x, rfl, rx⟩ := rps_one r
    exact .inr ⟨_, by rw [rp_bl rx], q _ _ hf int_rp⟩
  · exact hf.elim
/-- ints; a tuple k times -/
def fMul : D → D → (D → Prop) → Prop := fun x y R => asI y fun j => match x with
  | .int i => CMul i j ∧ R (.int (i * j))
  | .tuple xs => xs ≠ [] ∧ xs.length ≤ 1000 ∧ solids xs = true ∧ 1 ≤ j ∧ j ≤ 1000 ∧ R (.tuple (List.replicate j.toNat xs).flatten)
  | .list xs => xs.length ≤ 1000 ∧ solids xs = true ∧ j ≤ 1000 ∧ -1000 ≤ j ∧ R (.list (List.replicate j.toNat xs).flatten)
  | _ => False
theorem rps_rep {c : Zc} {H : Hp} {ds : List D} {xs : List V} (h : Rps c H ds xs []) : ∀ n : Nat, Rps c H (List.replicate n ds).flatten (List.replicate n xs).flatten []
  | 0 => .nil
  | n + 1 => by
    rw [List.replicate_succ, List.replicate_succ, List.flatten_cons, List.flatten_cons]
    exact h.app (rps_rep h n)
theorem od_mul : OpD K S (rMul K) fMul := fun H x y d e f1 f2 s r1 n1 r2 n2 R hf Q q => by
  obtain ⟨j, rfl, hf⟩ := asI_ok hf
  have ey := rp_int r2
  subst ey
  cases d with
  | int i => exact .inl ⟨i, j, rp_int r1, rfl, hf.1, q _ _ H [] hf.2 (Ext.refl _ _) s (int_rp H) .nil List.nodup_nil fun b hb => by cases hb⟩
  | tuple ds =>
    obtain ⟨h1, h2, h3, h4, h5, hR⟩ := hf
    have z := r1.solid _ _ _ (by simp only [solid]; exact h3)
    subst z
    have r1' := r1
    simp only [Rp] at r1
    obtain ⟨a, xs, rfl, hT, hs⟩ := r1
    have hne : xs ≠ [] := fun z => h1 (by
      have := hs.len
      rw [z] at this
      exact List.eq_nil_of_length_eq_zero this.symm)
    refine .inr (.inl ⟨a, j, xs, rfl, rfl, hT.t, hne, by rw [hs.len]; exact h2, ?_⟩)
    by_cases hj : j = 1
    · subst hj
      exact .inl ⟨rfl, q _ _ H [] (by simpa using hR) (Ext.refl _ _) s r1' .nil List.nodup_nil fun b hb => by cases hb⟩
    · refine .inr ⟨by omega, h5, fun p o hp ho => ?_⟩
      have e := Ext.new (c := ⟨K, S⟩) (o := .frz o (.tup (List.replicate j.toNat xs).flatten)) hp
      refine q _ (.ref p) _ [] hR e (s.new hp) ?_ .nil List.nodup_nil fun b hb => by cases hb
      simp only [Rp]
      exact ⟨p, _, rfl, .new ho, (rps_rep hs _).ext .nil e s⟩
  | list ds =>
    obtain ⟨h2, h3, h5, h6, hR⟩ := hf
    simp only [Rp] at r1
    obtain ⟨a, xs, gp, rfl, rfl, hT, hs⟩ := r1
    have z := hs.solid _ _ _ h3
    subst z
    have hz : xs.length * j.toNat ≤ sizeLine := lim_ok (by
      have h7 : xs.length ≤ 1000 := by rw [hs.len]; exact h2
      have := Nat.mul_le_mul h7 (show j.toNat ≤ 1000 by omega)
      omega)
    refine .inr (.inr ⟨a, j, xs, rfl, rfl, hT, by omega, by omega, hz, fun p hp => ?_⟩)
    have e := Ext.new (c := ⟨K, S⟩) (o := .lst (List.replicate j.toNat xs).flatten) hp
    refine q _ (.ref p) _ [p] hR e (s.new hp) ?_ (fun b hb => by rw [List.mem_singleton.mp hb]; exact s.fresh hp) (List.pairwise_singleton _ _) fun b hb => by rw [List.mem_singleton.mp hb]; exact hp
    simp only [Rp]
    exact ⟨p, _, [], rfl, rfl, upd_same, (rps_rep hs _).ext .nil e s⟩
  | _ => exact hf.elim
/-- enumerate -/
def enumD (ds : List D) : List D := (List.range ds.length).map fun i => .tuple [.int (i : Nat), ds.getD i .none]
def dEnum (ms : DMs) : DMs := fun ρ R => ms ρ fun ds => match ds with
  | [.list xs] => R (enumD xs)
  | [.tuple xs] => R (enumD xs)
  | _ => False
theorem enum_at {ds : List D} {i : Nat} {d : D} (h : ds[i]? = some d) : (enumD ds)[i]? = some (.tuple [.int (i : Nat), d]) := by
  have hi := (List.getElem?_eq_some_iff.mp h).1
  unfold enumD
  rw [List.getElem?_map, List.getElem?_range hi]
  show some (PyData.tuple [.int (i : Nat), ds.getD i .none]) = _
  rw [List.getD_eq_getElem?_getD, h]
  rfl
theorem iter_pairs {c : Zc} {H1 : Hp} {J : It} {ds : List D} {xs : List V} {gp FP : List Addr} {G : Hp → Prop} (w : Walk J xs.length G (YPair (fun i => some (.int (i : Nat))) fun i => xs[i]?)) (r : Rps c H1 ds xs gp) (sub : ∀ b ∈ gp, b ∈ FP)
    (hG : ∀ H', Tk H1 H' → (∀ b ∈ FP, H' b = H1 b) → G H') (nF : NoS c FP) : IterOk true c J H1 (enumD ds) FP := by
  have el : (enumD ds).length = xs.length := by simp [enumD, r.len]
  unfold IterOk
  rw [el]
  refine w.mono (fun H' g => hG H' g.1 g.2.1) fun i H' x H'' hi g y => ?_
  obtain ⟨T, a, b, rfl, hT, rfl, ha, hb⟩ := y
  cases ha
  have e := Ext.new (c := c) (o := .tup [.int (i : Nat), b]) hT
  obtain ⟨d, fp, e1, e2, e3⟩ := (r.mono g.1 _ _ _ fun b hb => g.2.1 b (sub b hb)).atV hb
  refine ⟨e, g.2.2.new hT, .tuple [.int (i : Nat), d], fp, enum_at e1, .inr ⟨rfl, _, T, _, rfl, rfl, .of upd_same, ?_⟩, fun b hb => sub b (e3 b hb)⟩
  have h1 : Rps c (upd H' T (.tup [.int (i : Nat), b])) [.int (i : Nat), d] [.int (i : Nat), b] ([] ++ fp) := .cons (int_rp _) (.one (e2.ext (fun a ha => nF a (sub a (e3 a ha))) e g.2.2))
  exact h1
theorem walk_enumT {a : Addr} {xs : List V} : Walk (IteT K a) xs.length (fun H => SqT K H a xs) (YPair (fun i => some (.int (i : Nat))) (fun i => xs[i]?)) where
  goes := fun i H hi h => ⟨xs, xs[i], h, List.getElem?_eq_getElem hi⟩
  stops := fun H h => ⟨xs, h, rfl⟩
  yields := fun i H v H' _ h y => by
    obtain ⟨T, x, e1, e2, e3, e4⟩ := y
    exact ⟨T, .int (i : Nat), x, e1, e2, e3, rfl, e4 xs h⟩
theorem di_enum {t : TA} {ms : DMs} {U : List Nat} (h : DA K S t ms U) : DI true K S (iEnumS K t) (dEnum ms) U := fun G H ρ σ fps E R hm Q q =>
  h G H ρ σ fps E _ hm _ fun ds vs H1 fp hR e1 s1 r1 n1 f1 => by
    have th : ∀ a ∈ fp, ∃ o, H1 a = some o := fun a ha => let ⟨o, ho, _⟩ := r1.there _ _ _ a ha; ⟨o, ho⟩
    split at hR
    · rename_i es
      obtain ⟨x, rfl, rx⟩ := rps_one r1
      simp only [Rp] at rx
      obtain ⟨a, xs, gp, rfl, rfl, h1, h2⟩ := rx
      exact ⟨a, xs, rfl, .inl ⟨.of h1, q _ _ H1 _ hR e1 s1 (iter_pairs walk_enum h2 (fun b hb => List.mem_cons_of_mem _ hb) (fun H' _ k => .of (by rw [k a (List.mem_cons_self ..)]; exact h1)) n1) n1 th f1⟩⟩
    · rename_i es
      obtain ⟨x, rfl, rx⟩ := rps_one r1
      simp only [Rp] at rx
      obtain ⟨a, xs, rfl, h1, h2⟩ := rx
      exact ⟨a, xs, rfl, .inr ⟨h1.t, q _ _ H1 _ hR e1 s1 (iter_pairs walk_enumT h2 (fun b hb => hb) (fun H' tk _ => tk.sq h1.t) n1) n1 th f1⟩⟩
    · exact hR.elim
end
end Z
set_option Elab.async false
set_option linter.all false
set_option maxRecDepth 100000
set_option maxHeartbeats 4000000
/-! Z8: the law's own source of draws: its reading. -/
namespace Z
open PySem PySem.Spec PyProof.Rows L2
abbrev srcKv (sc : Addr) (l m t : Int) : List (Key × V) := [(Sum.inr "cells", .ref sc), (Sum.inr "left", .int l), (Sum.inr "mixed", .int m), (Sum.inr "turn", .int t)]
theorem kv_cells {sc : Addr} {l m t : Int} : valV (srcKv sc l m t) (Sum.inr "cells") = some (.ref sc) := rfl
theorem kv_left {sc : Addr} {l m t : Int} : valV (srcKv sc l m t) (Sum.inr "left") = some (.int l) := rfl
theorem kv_mixed {sc : Addr} {l m t : Int} : valV (srcKv sc l m t) (Sum.inr "mixed") = some (.int m) := rfl
theorem kv_turn {sc : Addr} {l m t : Int} : valV (srcKv sc l m t) (Sum.inr "turn") = some (.int t) := rfl
abbrev gtR : R2 := rI0 fun i j => .bl (decide (j < i))
abbrev ltR : R2 := rI0 fun i j => .bl (decide (i < j))
abbrev addR : R2 := rI0 fun i j => .int (i + j)
abbrev mulR : R2 := rI CMul fun i j => .int (i * j)
abbrev modR : R2 := rI (fun _ j => 0 < j) fun i j => .int (i % j)
abbrev divR : R2 := rI CDiv fun i j => .int (i / j)
abbrev max2R : List V → Hp → VK → Prop := fun xs H Q => ∃ i j, xs = [.int i, .int j] ∧ Q (.int (if j > i then j else i)) H
abbrev int1R : List V → Hp → VK → Prop := fun xs H Q => (∃ i, xs = [.int i] ∧ Q (.int i) H) ∨ ∃ k, xs = [.bl k] ∧ Q (.int (if k then 1 else 0)) H
abbrev lenR (K : PySem.W.Frag) : List V → Hp → VK → Prop := fun xs H Q => ∃ x n, xs = [x] ∧ LenV K x H n ∧ Q (.int n) H
abbrev tKey (x : Str) : TE := tDGet (tVar 0) (tC (.str x))
/-- the body of _law_pick -/
def tPick (K : PySem.W.Frag) : TS :=
  tSeq (tWhile (tAnd (tTest (tOp gtR (tVar 1) (tC (.int 1)))) (tAnd (tTest (tOp ltR (tKey "left") (tC (.int 2)))) (tTest (tOp gtR (tCB (lenR K) (tCons (tKey "cells") tNil)) (tC (.int 0))))))
      (sDPut (tVar 0) (tC (.str "left")) (tBM0 K "list" rPop (tKey "cells"))))
  (tSeq (tAsg (tKey "left") (gName 2))
  (tSeq (tIfS (tOr (tTest (tOp ltR (tVar 1) (tC (.int 2)))) (tTest (tOp gtR (tVar 2) (tC (.int 1)))))
      (tSeq (sDPut (tVar 0) (tC (.str "left")) (tOp divR (tVar 2) (tCB max2R (tCons (tC (.int 1)) (tCons (tVar 1) tNil)))))
        (tRet (tOp modR (tCB int1R (tCons (tVar 2) tNil)) (tCB max2R (tCons (tC (.int 1)) (tCons (tVar 1) tNil))))))
      tNext)
  (tSeq (sDPut (tVar 0) (tC (.str "turn")) (tOp addR (tKey "turn") (tC (.int 1))))
  (tSeq (tAsg (tOp modR (tCB int1R (tCons (tOp addR (tKey "mixed") (tOp mulR (tKey "turn") (tC (.int 104729)))) tNil)) (tC (.int 998244353))) (gName 3))
  (tSeq (tAsg (tOp modR (tCB int1R (tCons (tOp addR (tOp mulR (tVar 3) (tVar 3)) (tOp mulR (tKey "turn") (tC (.int 17)))) tNil)) (tC (.int 2147483647))) (gName 3))
  (tSeq (sDPut (tVar 0) (tC (.str "mixed")) (tVar 3))
    (tRet (tOp modR (tCB int1R (tCons (tOp divR (tVar 3) (tC (.int 16))) tNil)) (tVar 1)))))))))
def specPick : List D → (D → Prop) → Prop := fun ds R => ∃ n : Int, ds = [srcD, .int n] ∧ n ≤ 1000000000 ∧ ∀ k : Int, 0 ≤ k → (k < n ∨ k = 0) → R (.int k)
section
variable {K : PySem.W.Frag} {S : Option (Addr × Addr)}
theorem rp_src {c : Zc} {H : Hp} {v : V} {fp : List Addr} (h : Rp c H srcD v fp) : ∃ p, c.S = some p ∧ v = .ref p.1 ∧ fp = [] := by
  unfold srcD at h
  simp only [Rp, isSrc] at h
  simpa using h
theorem src_rp {c : Zc} {H : Hp} {p : Addr × Addr} (h : c.S = some p) : Rp c H srcD (.ref p.1) [] := by
  simp only [srcD, Rp]
  rw [if_pos (show isSrc [(.none, .none)] = true from rfl)]
  exact ⟨p, h, rfl, trivial⟩
/-- the source's own objects stand so -/
structure SrcSt (p : Addr × Addr) (H : Hp) (ns : List Int) (l m t : Int) : Prop where
  d : H p.1 = some (.dK (srcKv p.2 l m t))
  c : H p.2 = some (.lst (ns.map V.int))
  len : ns.length ≤ 63
  nn : ∀ n ∈ ns, 0 ≤ n
  l0 : 0 ≤ l
  m0 : 0 ≤ m
  m1 : m < 2147483648
  t0 : 0 ≤ t
theorem SrcSt.at {p : Addr × Addr} {H : Hp} {ns : List Int} {l m t : Int} (s : SrcSt p H ns l m t) (hne : p.1 ≠ p.2) : SrcAt ⟨K, some p⟩ H := fun q hq => by
  cases hq
  exact ⟨hne, ns, l, m, t, s.len, s.nn, s.l0, s.m0, s.m1, s.t0, s.d, s.c⟩
theorem SrcSt.putD {p : Addr × Addr} {H : Hp} {ns : List Int} {l m t l' m' t' : Int} (s : SrcSt p H ns l m t) (hne : p.1 ≠ p.2) (a : 0 ≤ l') (b : 0 ≤ m') (c : m' < 2147483648) (d : 0 ≤ t') : SrcSt p (upd H p.1 (.dK (srcKv p.2 l' m' t'))) ns l' m' t' :=
  ⟨upd_same, by rw [upd_ne (Ne.symm hne)]; exact s.c, s.len, s.nn, a, b, c, d⟩
theorem ext_src {p : Addr × Addr} {H H1 : Hp} {a : Addr} {o : HO} (e : Ext ⟨K, some p⟩ H H1) (ha : a = p.1 ∨ a = p.2) : Ext ⟨K, some p⟩ H (upd H1 a o) := fun b u hb hn => by
  rw [upd_ne fun z => hn ⟨p, rfl, by rw [z]; exact ha⟩]
  exact e b u hb hn
theorem get_of {p : Addr × Addr} {H : Hp} {ns : List Int} {l m t : Int} (s : SrcSt p H ns l m t) {x : Str} {v : V} (e : valV (srcKv p.2 l m t) (Sum.inr x) = some v) : DGet H p.1 (.str x) (some v) := by
  rw [← e]
  exact DGet.k (k := Sum.inr x) s.d
theorem key_of {p : Addr × Addr} {H : Hp} {ns : List Int} {l m t : Int} {σ : L2.St} {Q : VK} (s : SrcSt p H ns l m t) (h0 : σ[0]? = some (some (.ref p.1))) {x : Str} {v : V} (e : valV (srcKv p.2 l m t) (Sum.inr x) = some v) (q : Q v H) : tKey x σ H Q :=
  ⟨_, h0, p.1, v, rfl, get_of s e, q⟩
theorem small4 : (4 : Nat) < sizeLine := Nat.lt_of_lt_of_le (by decide : 4 < 10000000) (lim_ok (Nat.le_refl _))
theorem pick_reading {vs : List V} {H : Hp} {Q : VK} {E : XK} (h : spD K specPick vs H Q E) : tPick K { nx := fun _ H' => Q .non H', rt := Q } (L2.start ["source", "many", "left", "mixed"] vs) H := by
  obtain ⟨S, ds, fp, R, r, ns0, s, ⟨n, rfl, hn, hR⟩, q⟩ := h
  obtain ⟨v, w, f1, f2, rfl, rfl, rv, rw'⟩ := rps_two r
  obtain ⟨p, hp, rfl, rfl⟩ := rp_src rv
  have hp' : S = some p := hp
  subst hp'
  have ew := rp_int rw'
  subst ew
  have q' : ∀ k H', 0 ≤ k → (k < n ∨ k = 0) → Ext ⟨K, some p⟩ H H' → SrcAt ⟨K, some p⟩ H' → Q (.int k) H' := fun k H' h1 h2 e s' => q (.int k) (.int k) H' [] (hR k h1 h2) e s' (int_rp H') .nil List.nodup_nil fun a h => by cases h
  obtain ⟨hne, ns, l, m, t, z1, z2, z3, z4, z5, z6, z7, z8⟩ := s p rfl
  have st0 : SrcSt p H ns l m t := ⟨z7, z8, z1, z2, z3, z4, z5, z6⟩
  have hst : L2.start ["source", "many", "left", "mixed"] [V.ref p.1, .int n] = [some (.ref p.1), some (.int n), none, none] := rfl
  rw [hst]
  -- the loop
  refine ⟨fun k σ H1 => σ = [some (.ref p.1), some (.int n), none, none] ∧ ∃ ns l, k = ns.length ∧ SrcSt p H1 ns l m t ∧ Ext ⟨K, some p⟩ H H1, ⟨ns.length, rfl, ns, l, rfl, st0, Ext.refl _ _⟩, ?_⟩
  rintro k σ H1 ⟨rfl, ns, l, rfl, st, ex⟩
  -- behind the loop
  have after : (tSeq (tAsg (tKey "left") (gName 2))
      (tSeq (tIfS (tOr (tTest (tOp ltR (tVar 1) (tC (.int 2)))) (tTest (tOp gtR (tVar 2) (tC (.int 1)))))
        (tSeq (sDPut (tVar 0) (tC (.str "left")) (tOp divR (tVar 2) (tCB max2R (tCons (tC (.int 1)) (tCons (tVar 1) tNil)))))
          (tRet (tOp modR (tCB int1R (tCons (tVar 2) tNil)) (tCB max2R (tCons (tC (.int 1)) (tCons (tVar 1) tNil))))))
        tNext)
      (tSeq (sDPut (tVar 0) (tC (.str "turn")) (tOp addR (tKey "turn") (tC (.int 1))))
      (tSeq (tAsg (tOp modR (tCB int1R (tCons (tOp addR (tKey "mixed") (tOp mulR (tKey "turn") (tC (.int 104729)))) tNil)) (tC (.int 998244353))) (gName 3))
      (tSeq (tAsg (tOp modR (tCB int1R (tCons (tOp addR (tOp mulR (tVar 3) (tVar 3)) (tOp mulR (tKey "turn") (tC (.int 17)))) tNil)) (tC (.int 2147483647))) (gName 3))
      (tSeq (sDPut (tVar 0) (tC (.str "mixed")) (tVar 3))
        (tRet (tOp modR (tCB int1R (tCons (tOp divR (tVar 3) (tC (.int 16))) tNil)) (tVar 1))))))))) { nx := fun _ H' => Q .non H', rt := Q } [some (.ref p.1), some (.int n), none, none] H1 := by
    refine key_of st rfl kv_left ?_
    -- if many < 2 or left > 1
    have yes : (n < 2 ∨ 1 < l) → (tSeq (sDPut (tVar 0) (tC (.str "left")) (tOp divR (tVar 2) (tCB max2R (tCons (tC (.int 1)) (tCons (tVar 1) tNil)))))
          (tRet (tOp modR (tCB int1R (tCons (tVar 2) tNil)) (tCB max2R (tCons (tC (.int 1)) (tCons (tVar 1) tNil)))))) { nx := fun _ H' => Q .non H', rt := Q } [some (.ref p.1), some (.int n), some (.int l), none] H1 := fun hy => by
      have hm1 : (1 : Int) ≤ (if n > 1 then n else 1) := by split <;> omega
      have hm2 : (if n > 1 then n else 1) ≤ 1000000000 := by split <;> omega
      refine ⟨.int l, rfl, .int n, rfl, 1, n, rfl, l, _, rfl, rfl, ⟨by omega, by omega⟩, .ref p.1, rfl, p.1, _, rfl, DPut.k (k := Sum.inr "left") st.d small4, ?_⟩
      have st2 := st.putD hne (l' := l / (if n > 1 then n else 1)) (m' := m) (t' := t) (Int.ediv_nonneg st.l0 (by omega)) st.m0 st.m1 st.t0
      refine ⟨.int l, rfl, .inl ⟨l, rfl, .int n, rfl, 1, n, rfl, l, _, rfl, rfl, by omega, ?_⟩⟩
      refine q' _ _ (Int.emod_nonneg _ (by omega)) ?_ (ext_src ex (.inl rfl)) (st2.at hne)
      have h3 := Int.emod_lt_of_pos l (show (0 : Int) < (if n > 1 then n else 1) by omega)
      have h4 := Int.emod_nonneg l (show (if n > 1 then n else 1) ≠ (0 : Int) by omega)
      by_cases h : n > 1
      · rw [if_pos h] at h3 ⊢
        exact .inl h3
      · rw [if_neg h] at h3 h4 ⊢
        exact .inr (by omega)
    refine ⟨.int n, rfl, n, 2, rfl, rfl, _, rfl, ite2 (fun hlt => ?_) (fun hlt => ?_)⟩
    · exact iteT (yes (.inl (of_decide_eq_true hlt)))
    · have hn2 : ¬ n < 2 := fun z => hlt (decide_eq_true z)
      refine ⟨.int l, rfl, l, 1, rfl, rfl, _, rfl, ite2 (fun hl => ?_) (fun hl => ?_)⟩
      · exact yes (.inr (of_decide_eq_true hl))
      · -- a number mixed anew
        refine key_of st rfl kv_turn ⟨t, 1, rfl, rfl, .ref p.1, rfl, p.1, _, rfl, DPut.k (k := Sum.inr "turn") st.d small4, ?_⟩
        have st2 := st.putD hne (l' := l) (m' := m) (t' := t + 1) st.l0 st.m0 st.m1 (by have := st.t0; omega)
        refine key_of st2 rfl kv_mixed (key_of st2 rfl kv_turn ⟨t + 1, 104729, rfl, rfl, .inr ⟨by omega, by omega⟩, m, _, rfl, rfl, .inl ⟨_, rfl, _, 998244353, rfl, rfl, by omega, ?_⟩⟩)
        show tSeq _ _ _ [some (.ref p.1), some (.int n), some (.int l), some (.int ((m + (t + 1) * 104729) % 998244353))] _
        generalize hx : (m + (t + 1) * 104729) % 998244353 = x
        have x0 : 0 ≤ x := by rw [← hx]; exact Int.emod_nonneg _ (by omega)
        have x1 : x < 998244353 := by rw [← hx]; exact Int.emod_lt_of_pos _ (by omega)
        refine ⟨.int x, rfl, .int x, rfl, x, x, rfl, rfl, .inl ⟨by omega, by omega⟩, key_of st2 rfl kv_turn ⟨t + 1, 17, rfl, rfl, .inr ⟨by omega, by omega⟩, _, _, rfl, rfl, .inl ⟨_, rfl, _, 2147483647, rfl, rfl, by omega, ?_⟩⟩⟩
        show tSeq _ _ _ [some (.ref p.1), some (.int n), some (.int l), some (.int ((x * x + (t + 1) * 17) % 2147483647))] _
        generalize hy : (x * x + (t + 1) * 17) % 2147483647 = y
        have y0 : 0 ≤ y := by rw [← hy]; exact Int.emod_nonneg _ (by omega)
        have y1 : y < 2147483647 := by rw [← hy]; exact Int.emod_lt_of_pos _ (by omega)
        refine ⟨.int y, rfl, .ref p.1, rfl, p.1, _, rfl, DPut.k (k := Sum.inr "mixed") st2.d small4, ?_⟩
        have st3 := st2.putD hne (l' := l) (m' := y) (t' := t + 1) st.l0 y0 (by omega) st2.t0
        refine ⟨.int y, rfl, y, 16, rfl, rfl, ⟨by omega, by omega⟩, .inl ⟨_, rfl, .int n, rfl, _, n, rfl, rfl, by omega, ?_⟩⟩
        exact q' _ _ (Int.emod_nonneg _ (by omega)) (.inl (Int.emod_lt_of_pos _ (by omega))) (ext_src (ext_src ex (.inl rfl)) (.inl rfl)) (st3.at hne)
  -- the loop's test
  refine ⟨.int n, rfl, n, 1, rfl, rfl, _, rfl, ite2 (fun h1 => ?_) (fun h1 => ?_)⟩
  · refine key_of st rfl kv_left ⟨l, 2, rfl, rfl, _, rfl, ite2 (fun h2 => ?_) (fun h2 => ?_)⟩
    · refine key_of st rfl kv_cells ⟨.ref p.2, ns.length, rfl, .inl ⟨_, .of st.c, by simp⟩, _, 0, rfl, rfl, _, rfl, ite2 (fun h3 => ?_) (fun h3 => ?_)⟩
      · -- source["left"] = source["cells"].pop()
        have hpos : 0 < ns.length := by
          have := of_decide_eq_true h3
          omega
        obtain ⟨ms, y, rfl⟩ : ∃ ms y, ns = ms ++ [y] := ⟨ns.dropLast, ns.getLast (fun z => by rw [z] at hpos; cases hpos), (List.dropLast_concat_getLast _).symm⟩
        refine ⟨fun σ' H' => ∃ m', m' < (ms ++ [y]).length ∧ (σ' = [some (.ref p.1), some (.int n), none, none] ∧ ∃ ns l, m' = ns.length ∧ SrcSt p H' ns l m t ∧ Ext ⟨K, some p⟩ H H'), fun σ' H' h => h, ?_⟩
        refine key_of st rfl kv_cells ⟨.inl ⟨rfl, _, .of st.c⟩, p.2, _, .int y, rfl, rfl, st.c, by simp, .ref p.1, rfl, p.1, _, rfl, DPut.k (k := Sum.inr "left") (kvs := srcKv p.2 l m t) (by rw [upd_ne hne]; exact st.d) small4, ?_⟩
        refine ⟨ms.length, by simp, rfl, ms, y, rfl, ⟨upd_same, ?_, ?_, fun k hk => st.nn k (List.mem_append_left _ hk), st.nn y (by simp), st.m0, st.m1, st.t0⟩, ext_src (ext_src ex (.inr rfl)) (.inl rfl)⟩
        · rw [upd_ne (Ne.symm hne), upd_same]
          simp
        · have := st.len
          simp at this
          omega
      · exact after
    · exact iteF after
  · exact iteF after
end
end Z
set_option Elab.async false
set_option linter.all false
set_option maxRecDepth 100000
set_option maxHeartbeats 4000000
/-! Z9: the source made; the law's body. -/
namespace Z
open PySem PySem.Spec PyProof.Rows L2
abbrev absR : List V → Hp → VK → Prop := fun xs H Q => ∃ i, xs = [.int i] ∧ Q (.int (if i < 0 then -i else i)) H
/-- the body of _law_source -/
def tSource (K : PySem.W.Frag) : TS :=
  tSeq (tAsg (tC (.int 11)) (gName 1))
  (tSeq (tFor (iList K (tVar 0)) (gName 2) (tAsg (tOp modR (tCB int1R (tCons (tOp addR (tOp addR (tOp mulR (tVar 1) (tC (.int 69069))) (tOp mulR (tVar 2) (tC (.int 31)))) (tC (.int 5))) tNil)) (tC (.int 2147483629))) (gName 1)))
    (tRet (tDisp [(tC (.str "cells"), tRevL K (tLc (iList K (tVar 0)) (gName 2) tYes (tCB absR (tCons (tVar 2) tNil)) [2])), (tC (.str "left"), tC (.int 1)), (tC (.str "mixed"), tVar 1), (tC (.str "turn"), tC (.int 0))])))
/-- a new source, all else as it was -/
def spSource (K : PySem.W.Frag) : Sp := fun vs H Q _ => ∃ (a : Addr) (ns : List Int), vs = [.ref a] ∧ SqL K H a (ns.map V.int) ∧ ns.length ≤ 63 ∧
  ∀ p H', Same H H' → p.1 ≠ p.2 → H p.1 = none → H p.2 = none → (∃ ns l m t, SrcSt p H' ns l m t) → Q (.ref p.1) H'
theorem same_new {H H' : Hp} {p : Addr} {o : HO} (s : Same H H') (h : H' p = none) : Same H (upd H' p o) := fun b u e => by
  rw [upd_ne (ne_of_none (s b u e) h)]
  exact s b u e
theorem abs_nat (i : Int) : (if i < 0 then -i else i) = (i.natAbs : Int) := by split <;> omega
theorem source_reading {K : PySem.W.Frag} {vs : List V} {H : Hp} {Q : VK} {E : XK} (h : spSource K vs H Q E) : tSource K { nx := fun _ H' => Q .non H', rt := Q } (L2.start ["script", "mixed", "cell"] vs) H := by
  obtain ⟨a, ns, rfl, hS, hlen, q⟩ := h
  have hst : L2.start ["script", "mixed", "cell"] [V.ref a] = [some (.ref a), none, none] := rfl
  rw [hst]
  have item : ∀ (i : Nat) (x : V), (ns.map V.int)[i]? = some x → ∃ c, x = .int c := fun i x e => by
    rw [List.getElem?_map] at e
    cases hc : ns[i]? with
    | none => rw [hc] at e; cases e
    | some c => rw [hc] at e; cases e; exact ⟨c, rfl⟩
  refine ⟨.ref a, rfl, a, rfl, ⟨_, hS⟩, for_list (K := K) (a := a) (xs := ns.map V.int) (fun i σ H1 => ∃ m y, σ = [some (.ref a), some (.int m), y] ∧ 0 ≤ m ∧ m < 2147483648 ∧ H1 = H) ⟨11, none, rfl, by omega, by omega, rfl⟩ ?_ ?_ ?_⟩
  · rintro i σ H1 _ ⟨m, y, rfl, _, _, rfl⟩
    exact hS
  · rintro i x σ H1 hi ⟨m, y, rfl, m0, m1, rfl⟩
    obtain ⟨c, rfl⟩ := item i x hi
    refine ⟨.int m, rfl, m, 69069, rfl, rfl, .inl ⟨by omega, by omega⟩, .int c, rfl, c, 31, rfl, rfl, .inr ⟨by omega, by omega⟩, _, _, rfl, rfl, _, 5, rfl, rfl, .inl ⟨_, rfl, _, 2147483629, rfl, rfl, by omega, ?_⟩⟩
    have h1 := Int.emod_nonneg (m * 69069 + c * 31 + 5) (show (2147483629 : Int) ≠ 0 by omega)
    have h2 := Int.emod_lt_of_pos (m * 69069 + c * 31 + 5) (show (0 : Int) < 2147483629 by omega)
    exact ⟨_, some (.int c), rfl, h1, by omega, rfl⟩
  · rintro σ H1 ⟨m, y, rfl, m0, m1, rfl⟩
    -- the dict
    intro p hp
    refine ⟨.ref a, rfl, a, rfl, ⟨_, (show Same H1 (upd H1 p (.dK [])) from same_new (Same.refl _) hp).seq hS⟩, fun Dd hD => ?_⟩
    have s1 : Same H1 (upd H1 p (.dK [])) := same_new (Same.refl _) hp
    have hpD : p ≠ Dd := ne_of_none upd_same hD
    refine lc_list (K := K) (a := a) (xs := ns.map V.int) (fun i H2 => ∃ acc : List Int, H2 = upd (upd H1 p (.dK [])) Dd (.lst (acc.map V.int)) ∧ acc.length = i ∧ ∀ k ∈ acc, 0 ≤ k) ⟨[], rfl, rfl, fun k hk => by cases hk⟩ ?_ ?_ ?_
    · rintro i H2 _ ⟨acc, rfl, _, _⟩
      exact (same_new s1 hD).seq hS
    · rintro i x H2 hi ⟨acc, rfl, hacc, hnn⟩
      obtain ⟨c, rfl⟩ := item i x hi
      have hil : i < ns.length := by
        have := (List.getElem?_eq_some_iff.mp hi).1
        simpa using this
      refine ⟨rfl, ?_⟩
      unfold tYes
      dsimp only
      rw [if_pos rfl]
      refine ⟨.int c, rfl, c, rfl, acc.map V.int, upd_same, ?_, acc ++ [if c < 0 then -c else c], ?_, by simp [hacc], fun k hk => ?_⟩
      · rw [List.length_map, hacc]
        exact Nat.lt_of_lt_of_le (by omega : i < 10000000) (lim_ok (Nat.le_refl _))
      · rw [upd_upd, List.map_append]
        rfl
      · rcases List.mem_append.mp hk with hk | hk
        · exact hnn k hk
        · rw [List.mem_singleton.mp hk, abs_nat]
          exact Int.natCast_nonneg _
    · rintro H2 ⟨acc, rfl, hacc, hnn⟩
      refine ⟨Dd, _, rfl, .of upd_same, fun r hr => ?_⟩
      have hrp : r ≠ p := fun z => by
        rw [z, upd_ne hpD, upd_same] at hr
        cases hr
      refine ⟨.int m, rfl, ?_⟩
      have hdk : upd (upd (upd H1 p (.dK [])) Dd (.lst (acc.map V.int))) r (.lst (acc.map V.int).reverse) p = some (.dK []) := by
        rw [upd_ne (Ne.symm hrp), upd_ne hpD, upd_same]
      refine ⟨hdk, [(Sum.inr "cells", .ref r), (Sum.inr "left", .int 1), (Sum.inr "mixed", .int m), (Sum.inr "turn", .int 0)], rfl, (show 4 ≤ 15 by decide), ?_⟩
      have s2 : Same H1 (upd (upd (upd H1 p (.dK [])) Dd (.lst (acc.map V.int))) r (.lst (acc.map V.int).reverse)) := same_new (same_new s1 hD) hr
      refine q (p, r) _ (fun b u e => ?_) (Ne.symm hrp) hp ((same_new s1 hD).free hr) ⟨acc.reverse, 1, m, 0, ⟨?_, ?_, ?_, fun k hk => hnn k (List.mem_reverse.mp hk), by omega, m0, m1, by omega⟩⟩
      · rw [upd_ne (ne_of_none e hp)]
        exact s2 b u e
      · exact upd_same
      · rw [upd_ne hrp, upd_same, List.map_reverse]
      · rw [List.length_reverse, hacc, List.length_map]
        exact hlen
/-- the law: a list of ints, at most 63, and True -/
def spLaw (K : PySem.W.Frag) : Sp := fun vs H Q _ => ∃ (a : Addr) (ns : List Int), vs = [.ref a] ∧ SqL K H a (ns.map V.int) ∧ ns.length ≤ 63 ∧ ∀ H', Q (.bl true) H'
def startL (n : Nat) : En := .unk :: .val srcD :: List.replicate n .unk
def lawE : DEnds := { nx := fun _ => False, rt := fun d => d = .bool true }
theorem law_reading {K : PySem.W.Frag} {rest : TS} {m : DMS} {W : List Nat} {N : List Str} {n : Nat} {vs : List V} {H : Hp} {Q : VK} {E : XK} (hN : N.length = n + 2) (hs : ∀ S, DS K S rest m W) (hm : m (startL n) lawE) (h : spLaw K vs H Q E) :
    (tSeq (tAsg (tCall (spSource K) [] E0 (tCons (tVar 0) tNil)) (gName 1)) rest) { nx := fun _ H' => Q .non H', rt := Q } (L2.start N vs) H := by
  obtain ⟨a, ns, rfl, hS, hlen, q⟩ := h
  have hst : L2.start N [V.ref a] = some (.ref a) :: none :: List.replicate n none := by
    unfold L2.start
    rw [hN]
    rfl
  rw [hst]
  refine ⟨.ref a, rfl, a, ns, rfl, hS, hlen, fun p H' sm hne f1 f2 hsrc => ?_⟩
  obtain ⟨ns', l, mm, t, st⟩ := hsrc
  have E0 : EnvAt ⟨K, some p⟩ (fun _ => none) H' (startL n) (some (.ref a) :: some (.ref p.1) :: List.replicate n none) (fun _ => []) := by
    refine ⟨by simp [startL], fun b u h _ => (by cases h), st.at hne, fun i sl h => ?_, fun i j _ _ _ _ b hb => by cases hb⟩
    match i, h with
    | 0, h => cases h; rfl
    | 1, h => cases h; exact ⟨.ref p.1, rfl, src_rp rfl, .nil⟩
    | i + 2, h =>
      have : sl = .unk := List.eq_of_mem_replicate (List.mem_of_getElem? (show (List.replicate n Sl.unk)[i]? = some sl from h))
      subst this
      rfl
  refine hs (some p) _ _ _ _ _ E0 _ hm _ ⟨fun _ _ _ _ h => False.elim h, fun _ _ _ _ h => False.elim h, fun _ _ _ _ h => False.elim h, fun d v H2 fp hd _ _ r _ _ _ => ?_⟩
  have hd' : d = .bool true := hd
  subst hd'
  rw [rp_bl r]
  exact q H2
theorem law_of {X : Cx} {body : List Stmt} {K : PySem.W.Frag} {rest : TS} {m : DMS} {W : List Nat} {n : Nat} {vs : List V} {H : Hp} {Q : VK} {E : XK} (N : List Str) (hN : N.length = n + 2)
    (hp : PSs X body (tSeq (tAsg (tCall (spSource K) [] E0 (tCons (tVar 0) tNil)) (gName 1)) rest)) (hs : ∀ S, DS K S rest m W) (hm : m (startL n) lawE) (h : spLaw K vs H Q E) : ∃ t, PSs X body t ∧ t { nx := fun _ H' => Q .non H', rt := Q } (L2.start N vs) H :=
  ⟨_, hp, law_reading hN hs hm h⟩
end Z
set_option Elab.async false
set_option linter.all false
set_option maxRecDepth 100000
set_option maxHeartbeats 4000000
/-! Z10: more rules over data: +, unpacking a list, x op= e. -/
namespace Z
open PySem PySem.Spec PyProof.Rows L2
/-- tuple + tuple: a known object, or the one that is not empty -/
def rCatF (K : PySem.W.Frag) : R2 := fun x y H Q => ∃ a b xs ys, x = .ref a ∧ y = .ref b ∧ SqT K H a xs ∧ SqT K H b ys ∧ xs.length + ys.length ≤ sizeLine ∧
  (xs = [] → Q (.ref b) H) ∧ (xs ≠ [] → ys = [] → Q (.ref a) H) ∧ (xs ≠ [] → ys ≠ [] → ∀ p o, H p = none → o.dict = none → Q (.ref p) (upd H p (.frz o (.tup (xs ++ ys)))))
theorem op_catF {X : Cx} : OpR X (binaryOp .Add) (rCatF X.K) := fun pins s σ H x y v u Q I rx ry h => by
  obtain ⟨a, b, xs, ys, rfl, rfl, ha, hb, hz, q0, q1, q2⟩ := h
  by_cases hx : xs = []
  · exact op_catA pins s σ H _ _ v u Q I rx ry ⟨a, b, xs, ys, rfl, rfl, ha, hb, hz, q0, fun z => (z hx).elim, fun z => (z hx).elim⟩
  by_cases hy : ys = []
  · exact op_catA pins s σ H _ _ v u Q I rx ry ⟨a, b, xs, ys, rfl, rfl, ha, hb, hz, q0, q1, fun _ z => (z hy).elim⟩
  cases rx
  cases ry
  obtain ⟨its, r1, p1, _⟩ := I.tuple ha
  obtain ⟨jts, r2, p2, _⟩ := I.tuple hb
  have ne : its ≠ [] ∧ jts ≠ [] := ⟨fun z => hx (List.eq_nil_of_length_eq_zero (by rw [r1.length, z]; rfl)), fun z => hy (List.eq_nil_of_length_eq_zero (by rw [r2.length, z]; rfl))⟩
  refine HT.cat_tup p1 p2 ne.1 (fun z => (ne.2 z).elim) (fun _ => ?_) (by rw [← r1.length, ← r2.length]; exact hz)
  have e := Heap.get?_push_size s.heap (o := { cls := .type "tuple", data := .seq (its ++ jts).toArray }) rfl
  exact ⟨.ref s.heap.objs.size, _, I.laid (t' := s.toks) (o := .frz { cls := .type "tuple", data := .seq (its ++ jts).toArray } (.tup (xs ++ ys))) (fun b ob k => Heap.get?_push_of_some _ k) (Nat.le_refl _) ⟨e, by rw [List.length_append]; exact hz, _, r1.append r2, ⟨_, e, rfl, _, rfl⟩⟩, rfl, q2 hx hy _ _ (I.hok.fresh (Nat.le_refl _)) rfl⟩
/-- ints, texts, tuples, lists -/
def rAddZ (K : PySem.W.Frag) : R2 := fun x y H Q => rI0 (fun i j => .int (i + j)) x y H Q ∨ (∃ i j, x = .str i ∧ y = .str j ∧ i.length + j.length ≤ sizeLine ∧ Q (.str (i ++ j)) H) ∨ rCatF K x y H Q ∨ rCat x y H Q
theorem op_addZ {X : Cx} : OpR X (binaryOp .Add) (rAddZ X.K) := op_add.or (op_add_str.or (op_catF.or op_cat))
section
variable {K : PySem.W.Frag} {S : Option (Addr × Addr)}
def fAdd : D → D → (D → Prop) → Prop := fun x y R => match x with
  | .int i => asI y fun j => R (.int (i + j))
  | .str a => match y with
    | .str b => a.length + b.length ≤ 10000000 ∧ R (.str (a ++ b))
    | _ => False
  | .tuple a => match y with
    | .tuple b => solids a = true ∧ solids b = true ∧ a.length + b.length ≤ 10000000 ∧ R (.tuple (a ++ b))
    | _ => False
  | .list a => match y with
    | .list b => solids a = true ∧ solids b = true ∧ a.length + b.length ≤ 10000000 ∧ R (.list (a ++ b))
    | _ => False
  | _ => False
theorem od_add : OpD K S (rAddZ K) fAdd := fun H x y d e f1 f2 s r1 n1 r2 n2 R hf Q q => by
  cases d with
  | int i =>
    obtain ⟨j, rfl, hR⟩ := asI_ok (show asI e _ from hf)
    exact .inl ⟨i, j, rp_int r1, rp_int r2, q _ _ H [] hR (Ext.refl _ _) s (int_rp H) .nil List.nodup_nil fun b hb => by cases hb⟩
  | str a =>
    cases e with
    | str b =>
      obtain ⟨hl, hR⟩ := hf
      simp only [Rp] at r1 r2
      exact .inr (.inl ⟨a, b, r1.1, r2.1, lim_ok hl, q _ _ H [] hR (Ext.refl _ _) s (str_rp H) .nil List.nodup_nil fun b hb => by cases hb⟩)
    | _ => exact False.elim hf
  | tuple a =>
    cases e with
    | tuple b =>
      obtain ⟨h1, h2, hl, hR⟩ := hf
      have z1 := r1.solid _ _ _ (by simp only [solid]; exact h1)
      have z2 := r2.solid _ _ _ (by simp only [solid]; exact h2)
      subst z1 z2
      have r1' := r1
      have r2' := r2
      simp only [Rp] at r1 r2
      obtain ⟨l, xs, rfl, hl1, hs1⟩ := r1
      obtain ⟨k, ys, rfl, hl2, hs2⟩ := r2
      have both := hs1.app hs2
      refine .inr (.inr (.inl ⟨l, k, xs, ys, rfl, rfl, hl1.t, hl2.t, by rw [hs1.len, hs2.len]; exact lim_ok hl, fun hx => ?_, fun _ hy => ?_, fun _ _ p o hp ho => ?_⟩))
      · have ha : a = [] := List.eq_nil_of_length_eq_zero (by rw [← hs1.len, hx]; rfl)
        subst ha
        exact q _ _ H [] hR (Ext.refl _ _) s r2' .nil List.nodup_nil fun b hb => by cases hb
      · have hb : b = [] := List.eq_nil_of_length_eq_zero (by rw [← hs2.len, hy]; rfl)
        subst hb
        rw [List.append_nil] at hR
        exact q _ _ H [] hR (Ext.refl _ _) s r1' .nil List.nodup_nil fun b hb => by cases hb
      · have e := Ext.new (c := ⟨K, S⟩) (o := .frz o (.tup (xs ++ ys))) hp
        refine q _ (.ref p) _ [] hR e (s.new hp) ?_ .nil List.nodup_nil fun b hb => by cases hb
        simp only [Rp]
        exact ⟨p, _, rfl, .new ho, both.ext .nil e s⟩
    | _ => exact False.elim hf
  | list a =>
    cases e with
    | list b =>
      obtain ⟨h1, h2, hl, hR⟩ := hf
      simp only [Rp] at r1 r2
      obtain ⟨l, xs, g1, rfl, rfl, hl1, hs1⟩ := r1
      obtain ⟨k, ys, g2, rfl, rfl, hl2, hs2⟩ := r2
      have z1 := hs1.solid _ _ _ h1
      have z2 := hs2.solid _ _ _ h2
      subst z1 z2
      have both := hs1.app hs2
      refine .inr (.inr (.inr ⟨l, k, xs, ys, rfl, rfl, hl1, hl2, by rw [hs1.len, hs2.len]; exact lim_ok hl, fun p hp => ?_⟩))
      have e := Ext.new (c := ⟨K, S⟩) (o := .lst (xs ++ ys)) hp
      refine q _ (.ref p) _ [p] hR e (s.new hp) ?_ (fun b hb => by rw [List.mem_singleton.mp hb]; exact s.fresh hp) (List.pairwise_singleton _ _) fun b hb => by rw [List.mem_singleton.mp hb]; exact hp
      simp only [Rp]
      exact ⟨p, _, [], rfl, rfl, upd_same, both.ext .nil e s⟩
    | _ => exact False.elim hf
  | none => exact False.elim hf
  | bool b => exact False.elim hf
  | dict kvs => exact False.elim hf
/-- a, b = a list of that length -/
def asL (d : D) (k : List D → Prop) : Prop := match d with
  | .list ds => k ds
  | _ => False
def dgUnl (n : Nat) (ms : DMgs) : DMg := fun d ρ R => asL d fun ds => ds.length = n ∧ ms ds ρ R
/-- x op= e over ints -/
def sAugI (i : Nat) (f : Int → Int → Int) (m : DM) : DMS := fun ρ R => look ρ[i]? fun d => asI d fun a => m ρ fun e => asI e fun b => R.nx (ρ.set i (.own (.int (f a b))))
end
end Z
set_option Elab.async false
set_option linter.all false
set_option maxRecDepth 100000
set_option maxHeartbeats 4000000
/-! Z11: helps for the plain part. -/
namespace Z
open PySem PySem.Spec PyProof.Rows L2
/-! ### comprehensions -/
section
variable {tg : DMg} {mt : DMt} {me : DM} {ρ : En} {R : List D → Prop}
theorem compD_acc {α : Type} (enc f : α → D) : ∀ (ys : List α) (acc : List D), (∀ y ∈ ys, ∀ (k : D → Prop) (k0 : Prop), k (f y) → tg (enc y) ρ fun ρ' => mt ρ' fun b => cond b (me ρ' k) k0) → R (acc ++ ys.map f) → compD tg mt me ρ R (ys.map enc) acc
  | [], acc, _, h => by simpa [compD] using h
  | y :: ys, acc, hs, h => by
    show tg (enc y) ρ fun ρ' => mt ρ' fun b => cond b (me ρ' fun z => compD tg mt me ρ R (ys.map enc) (acc ++ [z])) (compD tg mt me ρ R (ys.map enc) acc)
    exact hs y (List.mem_cons_self ..) _ _ (compD_acc enc f ys (acc ++ [f y]) (fun z hz => hs z (List.mem_cons_of_mem _ hz)) (by simpa using h))
/-- each item gives one -/
theorem compD_map {α : Type} {ys : List α} {enc : α → D} (f : α → D) (hs : ∀ y ∈ ys, ∀ (k : D → Prop) (k0 : Prop), k (f y) → tg (enc y) ρ fun ρ' => mt ρ' fun b => cond b (me ρ' k) k0) (h : R (ys.map f)) : compD tg mt me ρ R (ys.map enc) [] :=
  compD_acc enc f ys [] hs (by simpa using h)
theorem compD_facc {α : Type} (enc f : α → D) (p : α → Bool) : ∀ (ys : List α) (acc : List D), (∀ y ∈ ys, ∀ (k : D → Prop) (k0 : Prop), (p y = true → k (f y)) → (p y = false → k0) → tg (enc y) ρ fun ρ' => mt ρ' fun b => cond b (me ρ' k) k0) → R (acc ++ (ys.filter p).map f) → compD tg mt me ρ R (ys.map enc) acc
  | [], acc, _, h => by simpa [compD] using h
  | y :: ys, acc, hs, h => by
    show tg (enc y) ρ fun ρ' => mt ρ' fun b => cond b (me ρ' fun z => compD tg mt me ρ R (ys.map enc) (acc ++ [z])) (compD tg mt me ρ R (ys.map enc) acc)
    refine hs y (List.mem_cons_self ..) _ _ (fun hp => ?_) (fun hp => ?_)
    · exact compD_facc enc f p ys (acc ++ [f y]) (fun z hz => hs z (List.mem_cons_of_mem _ hz)) (by simpa [hp] using h)
    · exact compD_facc enc f p ys acc (fun z hz => hs z (List.mem_cons_of_mem _ hz)) (by simpa [hp] using h)
/-- those items that p takes give one each -/
theorem compD_filter {α : Type} {ys : List α} {enc : α → D} (f : α → D) (p : α → Bool) (hs : ∀ y ∈ ys, ∀ (k : D → Prop) (k0 : Prop), (p y = true → k (f y)) → (p y = false → k0) → tg (enc y) ρ fun ρ' => mt ρ' fun b => cond b (me ρ' k) k0) (h : R ((ys.filter p).map f)) : compD tg mt me ρ R (ys.map enc) [] :=
  compD_facc enc f p ys [] hs (by simpa using h)
theorem compD_dacc {α : Type} (enc : α → D) (A : α → Prop) : ∀ (xs : List D) (acc : List D), (∀ x ∈ xs, ∀ (k : D → Prop) (k0 : Prop), (∀ z, A z → k (enc z)) → tg x ρ fun ρ' => mt ρ' fun b => cond b (me ρ' k) k0) →
    (∀ zs : List α, zs.length = xs.length → (∀ z ∈ zs, A z) → R (acc ++ zs.map enc)) → compD tg mt me ρ R xs acc
  | [], acc, _, h => by
    have := h [] rfl (fun z hz => by cases hz)
    simpa [compD] using this
  | x :: xs, acc, hs, h => hs x (List.mem_cons_self ..) _ _ fun z hz => compD_dacc enc A xs (acc ++ [enc z]) (fun y hy => hs y (List.mem_cons_of_mem _ hy)) fun zs hl ha => by
    have := h (z :: zs) (by simp [hl]) (fun y hy => (List.mem_cons.mp hy).elim (fun e => e ▸ hz) (ha y))
    simpa using this
/-- each item gives one that is drawn -/
theorem compD_draw {α : Type} {xs : List D} {enc : α → D} {A : α → Prop} (hs : ∀ x ∈ xs, ∀ (k : D → Prop) (k0 : Prop), (∀ z, A z → k (enc z)) → tg x ρ fun ρ' => mt ρ' fun b => cond b (me ρ' k) k0)
    (h : ∀ zs : List α, zs.length = xs.length → (∀ z ∈ zs, A z) → R (zs.map enc)) : compD tg mt me ρ R xs [] :=
  compD_dacc enc A xs [] hs fun zs hl ha => by simpa using h zs hl ha
end
/-! ### loops -/
/-- I: what holds ahead of each turn -/
theorem forD_inv {mg : DMg} {mb : DMS} {F : List Nat} {R : DEnds} (I : Nat → En → Prop) : ∀ (xs : List D) (n : Nat) (ρ : En), I n ρ →
    (∀ i x ρ (Nx : En → Prop), xs[i]? = some x → I (n + i) ρ → (∀ ρ', I (n + i + 1) (hide F ρ') → Nx ρ') → mg x ρ fun ρ1 => mb ρ1 ⟨Nx, R.rt, fun ρ' => R.nx (hide F ρ'), Nx⟩) → (∀ ρ, I (n + xs.length) ρ → R.nx ρ) → forD mg mb F R xs ρ
  | [], n, ρ, h0, _, hd => hd ρ h0
  | x :: xs, n, ρ, h0, hs, hd => hs 0 x ρ _ rfl h0 fun ρ' h' => forD_inv I xs (n + 1) (hide F ρ') h' (fun i y ρ2 Nx e h2 h3 => by
      have := hs (i + 1) y ρ2 Nx (by simpa using e) (by rw [← Nat.add_assoc, Nat.add_right_comm]; exact h2) (fun ρ' h => h3 ρ' (by rw [← Nat.add_assoc, Nat.add_right_comm n i 1] at h; exact h))
      exact this) (fun ρ2 h2 => hd ρ2 (by rw [List.length_cons, Nat.add_comm xs.length 1, ← Nat.add_assoc]; exact h2))
/-! ### data of a shape -/
abbrev tI (xs : List Int) : D := .tuple (xs.map .int)
abbrev tII (xss : List (List Int)) : D := .tuple (xss.map tI)
theorem solids_of {α : Type} {f : α → D} : ∀ {xs : List α}, (∀ x ∈ xs, solid (f x) = true) → solids (xs.map f) = true
  | [], _ => by simp [solids]
  | x :: xs, h => by
    simp only [List.map_cons, solids, Bool.and_eq_true]
    exact ⟨h x (List.mem_cons_self ..), solids_of fun y hy => h y (List.mem_cons_of_mem _ hy)⟩
theorem solids_ints (xs : List Int) : solids (xs.map .int) = true := solids_of fun x _ => by simp [solid]
theorem solid_tI (xs : List Int) : solid (tI xs) = true := by simp only [solid]; exact solids_ints xs
theorem solids_tII (xss : List (List Int)) : solids (xss.map tI) = true := solids_of fun x _ => solid_tI x
theorem solid_tII (xss : List (List Int)) : solid (tII xss) = true := by simp only [solid]; exact solids_tII xss
theorem solid_int (i : Int) : solid (.int i) = true := by simp [solid]
theorem solid_bool (i : Bool) : solid (.bool i) = true := by simp [solid]
theorem solid_str (i : Str) : solid (.str i) = true := by simp [solid]
theorem solid_none : solid .none = true := by simp [solid]
theorem solid_tup (xs : List D) : solid (.tuple xs) = solids xs := by simp [solid]
theorem solids_cons (x : D) (xs : List D) : solids (x :: xs) = (solid x && solids xs) := by simp [solids]
theorem solids_nil : solids [] = true := by simp [solids]
theorem enumD_map {α : Type} (f : α → D) (xs : List α) : enumD (xs.map f) = xs.zipIdx.map fun p => .tuple [.int (p.2 : Nat), f p.1] := by
  unfold enumD
  apply List.ext_getElem?
  intro i
  rw [List.getElem?_map, List.getElem?_map, List.length_map]
  by_cases hi : i < xs.length
  · rw [List.getElem?_range hi, List.getElem?_zipIdx, List.getElem?_eq_getElem hi]
    simp [List.getD_eq_getElem?_getD, hi]
  · rw [List.getElem?_eq_none (by simpa using hi), List.getElem?_eq_none (by simpa using hi)]
    rfl
theorem rangeD_len (lo : Int) (n : Nat) (c : Int) : (rangeD lo n c).length = n := by simp [rangeD]
theorem atI_ok {α : Type} {xs : List α} {j : Nat} {i : Int} {x : α} (h : xs[j]? = some x) (e : i = (j : Int)) : atI xs i = some x := by
  subst e
  exact atI_nat h
theorem eqv_int (i j : Int) : PyData.eqv (.int i) (.int j) = (i == j) := by simp [PyData.eqv]
theorem eqv_str (i j : Str) : PyData.eqv (.str i) (.str j) = (i == j) := by simp [PyData.eqv]
/-- ints, texts, bools compared -/
def flat : D → Bool
  | .list _ | .tuple _ | .dict _ => false
  | _ => true
theorem flat_plain {d : D} (h : flat d = true) : d.plain = true ∧ d.depth = 0 := by
  cases d <;> first | (simp [flat] at h; done) | (exact ⟨by simp [PyData.plain, PyData.canLay0], by simp [PyData.depth]⟩)
theorem fEq_flat {neg : Bool} {x y : D} {R : D → Prop} (h1 : flat x = true) (h2 : flat y = true) (h : R (.bool (if neg then !PyData.eqv x y else PyData.eqv x y))) : fEq neg x y R :=
  ⟨(flat_plain h1).1, (flat_plain h2).1, by rw [(flat_plain h1).2]; omega, h⟩
theorem fEq_int {neg : Bool} {i j : Int} {R : D → Prop} (h : R (.bool (if neg then !(i == j) else (i == j)))) : fEq neg (.int i) (.int j) R := fEq_flat rfl rfl (by rw [eqv_int]; exact h)
theorem fEq_str {neg : Bool} {i j : Str} {R : D → Prop} (h : R (.bool (if neg then !(i == j) else (i == j)))) : fEq neg (.str i) (.str j) R := fEq_flat rfl rfl (by rw [eqv_str]; exact h)
end Z
set_option Elab.async false
set_option linter.all false
set_option maxRecDepth 100000
set_option maxHeartbeats 4000000
/-! Z12: in, index, slices, list(), zip. -/
namespace Z
open PySem PySem.Spec PyProof.Rows L2
/-! ### in -/
def rInZ (K : PySem.W.Frag) (neg : Bool) : R2 := fun x y H Q => ∃ d ds, Dp K H x d ∧ (Dp K H y (.list ds) ∨ Dp K H y (.tuple ds)) ∧ d.plain = true ∧ PyData.plainAll ds = true ∧ min (PyData.depthAll ds) d.depth ≤ 60 ∧
  Q (.bl (if neg then !ds.any fun z => PyData.eqv z d else ds.any fun z => PyData.eqv z d)) H
section
variable {X : Cx}
theorem op_notInZ (hu : X.A.units + 64 < cLine) : OpR X (compareOp .NotIn) (rInZ X.K true) := fun pins s σ H x y v u Q I rx ry h => by
  obtain ⟨d, ds, hd, he, pd, pe, hz, q⟩ := h
  obtain ⟨as, r1⟩ := Dp.reads I d x v hd rx
  rcases he with he | he
  · obtain ⟨bs, r2⟩ := Dp.reads I _ y u he ry
    exact SeqAt.notIn_list_data r2 r1 pe pd (by omega) ⟨.bl _, H, I, rfl, q⟩
  · obtain ⟨bs, r2⟩ := Dp.reads I _ y u he ry
    exact SeqAt.notIn_tuple_data r2 r1 pe pd (by omega) ⟨.bl _, H, I, rfl, q⟩
/-! ### t.index(x), l.index(x), ints -/
theorem SqD.typeIs {pins : List (Addr × Obj)} {σ : L2.St} {H : Hp} {s : Shared} {a : Addr} {xs : List V} (I : Inv X pins σ H s) (h : SqD X.K H a xs) : s.TypeIs (.ref a) "tuple" ∧ ∃ ob, s.heap.get? a = some ob ∧ ob.dict = none := by
  rcases h with ⟨o, h, e⟩ | ⟨o, its, n, h1, h2, h3, h4, h5, h6⟩
  · obtain ⟨ho, _, its, rv, o', ho', hc, hd⟩ := I.hok a _ h
    have eo : o = o' := by rw [ho] at ho'; exact Option.some.inj ho'
    subst eo
    exact ⟨⟨o, ho, hc⟩, o, ho, e⟩
  · have ho : s.heap.get? a = some o := I.kIn _ _ h1
    exact ⟨⟨o, ho, h2⟩, o, ho, h3⟩
end
section
variable {K : PySem.W.Frag} {S : Option (Addr × Addr)}
def fIn (neg : Bool) : D → D → (D → Prop) → Prop := fun x y R => match y with
  | .list ds => x.plain = true ∧ PyData.plainAll ds = true ∧ min (PyData.depthAll ds) x.depth ≤ 60 ∧ R (.bool (if neg then !ds.any fun z => PyData.eqv z x else ds.any fun z => PyData.eqv z x))
  | .tuple ds => x.plain = true ∧ PyData.plainAll ds = true ∧ min (PyData.depthAll ds) x.depth ≤ 60 ∧ R (.bool (if neg then !ds.any fun z => PyData.eqv z x else ds.any fun z => PyData.eqv z x))
  | _ => False
theorem od_in {neg : Bool} : OpD K S (rInZ K neg) (fIn neg) := .pure fun H x y d e f1 f2 r1 r2 R hf Q q => by
  cases e with
  | list ds =>
    obtain ⟨h1, h2, h3, hR⟩ := hf
    exact ⟨d, ds, r1.dp _ _ _ h1, .inl (r2.dp _ _ _ (by simpa only [PyData.plain] using h2)), h1, h2, h3, q _ _ hR bl_rp⟩
  | tuple ds =>
    obtain ⟨h1, h2, h3, hR⟩ := hf
    exact ⟨d, ds, r1.dp _ _ _ h1, .inr (r2.dp _ _ _ (by simpa only [PyData.plain] using h2)), h1, h2, h3, q _ _ hR bl_rp⟩
  | _ => exact False.elim hf
def dIndex (m : DM) (ms : DMs) : DM := fun ρ R => m ρ fun d => match d with
  | .list xs => ms ρ fun ys => ∃ (k : Int) (ns : List Int), ys = [.int k] ∧ xs = ns.map .int ∧ k ∈ ns ∧ R (.int (ns.idxOf k : Nat))
  | .tuple xs => ms ρ fun ys => ∃ (k : Int) (ns : List Int), ys = [.int k] ∧ xs = ns.map .int ∧ k ∈ ns ∧ R (.int (ns.idxOf k : Nat))
  | _ => False
end
/-! ### slices -/
/-- the items that a slice takes -/
def cutL {α : Type} (xs : List α) (lo hi : Option Int) : List α := (xs.drop (HT.sIx xs.length 0 lo)).take (HT.sIx xs.length xs.length hi - HT.sIx xs.length 0 lo)
def IsAll (n : Nat) (lo hi : Option Int) : Prop := HT.sIx n 0 lo = 0 ∧ HT.sIx n n hi = n
theorem cutL_all {α : Type} {xs : List α} {lo hi : Option Int} (h : IsAll xs.length lo hi) : cutL xs lo hi = xs := by
  unfold cutL
  rw [h.1, h.2]
  simp
def rSlZ (K : PySem.W.Frag) : V → Option Int → Option Int → Hp → VK → Prop := fun x lo hi H Q =>
  (∃ a xs, x = .ref a ∧ SqL K H a xs ∧ ∀ p, H p = none → Q (.ref p) (upd H p (.lst (cutL xs lo hi)))) ∨
  (∃ a xs, x = .ref a ∧ SqT K H a xs ∧ (IsAll xs.length lo hi → Q (.ref a) H) ∧ (¬ IsAll xs.length lo hi → ∀ p o, H p = none → o.dict = none → Q (.ref p) (upd H p (.frz o (.tup (cutL xs lo hi)))))) ∨
  (∃ z, x = .str z ∧ z.length ≤ sizeLine ∧ Q (.str (cutS z lo hi)) H)
theorem sl_cutT {X : Cx} : SlR X (fun x lo hi H Q => ∃ a xs, x = .ref a ∧ SqT X.K H a xs ∧ (IsAll xs.length lo hi → Q (.ref a) H) ∧ (¬ IsAll xs.length lo hi → ∀ p o, H p = none → o.dict = none → Q (.ref p) (upd H p (.frz o (.tup (cutL xs lo hi)))))) := fun pins s σ H x v vl vu lo hi sl Q I rx hs pl pu h => by
  obtain ⟨a, xs, rfl, hx, q1, q2⟩ := h
  by_cases hw : IsAll xs.length lo hi
  · exact sl_tupA pins s σ H _ v vl vu lo hi sl Q I rx hs pl pu ⟨a, xs, rfl, hx, fun _ => q1 hw, fun z => (z hw).elim⟩
  · cases rx
    obtain ⟨its, r, ht, hz⟩ := I.tuple hx
    have el : its.toArray.size = xs.length := by rw [List.size_toArray]; exact r.length.symm
    refine ⟨"tuple", _, PyProof.Rows.slot_tuple_getitem.lookup, ht.typeIs, HT.getItem_tuple_cut ht hs pl pu (by rw [el]; exact hw) ?_ (by rw [el]; exact hz)⟩
    rw [el]
    have cr := (r.drop (HT.sIx xs.length 0 lo)).take (HT.sIx xs.length xs.length hi - HT.sIx xs.length 0 lo)
    have e := Heap.get?_push_size s.heap (o := { cls := .type "tuple", data := .seq ((its.drop (HT.sIx xs.length 0 lo)).take (HT.sIx xs.length xs.length hi - HT.sIx xs.length 0 lo)).toArray }) rfl
    exact ⟨.ref s.heap.objs.size, _, I.laid (t' := s.toks) (o := .frz { cls := .type "tuple", data := .seq ((its.drop (HT.sIx xs.length 0 lo)).take (HT.sIx xs.length xs.length hi - HT.sIx xs.length 0 lo)).toArray } (.tup (cutL xs lo hi))) (fun b ob w => Heap.get?_push_of_some _ w) (Nat.le_refl _)
      ⟨e, Nat.le_trans (cutV_length xs lo hi) hz, _, cr, ⟨_, e, rfl, _, rfl⟩⟩, rfl, q2 hw _ _ (I.hok.fresh (Nat.le_refl _)) rfl⟩
theorem sl_cut {X : Cx} : SlR X (rSlZ X.K) := SlR.or sl_list (SlR.or sl_cutT sl_str)
section
variable {K : PySem.W.Frag} {S : Option (Addr × Addr)}
abbrev DMo := En → (Option Int → Prop) → Prop
def DO (K : PySem.W.Frag) (S : Option (Addr × Addr)) (t : TO) (m : DMo) : Prop :=
  ∀ (G H : Hp) (ρ : En) (σ : L2.St) (fps : Nat → List Addr), EnvAt ⟨K, S⟩ G H ρ σ fps → ∀ R : Option Int → Prop, m ρ R → ∀ Q : Option Int → Hp → Prop,
    (∀ o H', R o → Ext ⟨K, S⟩ H H' → SrcAt ⟨K, S⟩ H' → Q o H') → t σ H Q
def dNo : DMo := fun _ R => R none
def dPart (m : DM) : DMo := fun ρ R => m ρ fun d => asI d fun i => R (some i)
theorem do_no : DO K S tNoPart dNo := fun G H ρ σ fps E R hm Q q => q none H hm (Ext.refl _ _) E.src
theorem do_part {t : TE} {m : DM} {U : List Nat} (h : DE K S t m U) : DO K S (tPart t) (dPart m) := fun G H ρ σ fps E R hm Q q =>
  h G H ρ σ fps E _ hm _ fun d v H1 fp hR e1 s1 r1 n1 f1 => by
    obtain ⟨i, rfl, hR⟩ := asI_ok hR
    exact ⟨i, rp_int r1, q _ H1 hR e1 s1⟩
/-- a slice of a list, a tuple without lists in it, a text -/
def fCut (d : D) (lo hi : Option Int) (R : D → Prop) : Prop := match d with
  | .list ds => solids ds = true ∧ R (.list (cutL ds lo hi))
  | .tuple ds => solids ds = true ∧ R (.tuple (cutL ds lo hi))
  | .str z => z.length ≤ 10000000 ∧ R (.str (cutS z lo hi))
  | _ => False
def dSlice (m : DM) (ml mh : DMo) : DM := fun ρ R => m ρ fun d => ml ρ fun lo => mh ρ fun hi => fCut d lo hi R
theorem Rps.drop {c : Zc} {H : Hp} : ∀ {ds : List D} {xs : List V}, Rps c H ds xs [] → ∀ n, Rps c H (ds.drop n) (xs.drop n) []
  | ds, xs, h, 0 => by simpa using h
  | [], xs, h, n + 1 => by
    simp only [Rps] at h
    rw [h.1]
    simp [Rps]
  | d :: ds, xs, h, n + 1 => by
    simp only [Rps] at h
    obtain ⟨x, ys, f1, f2, rfl, e, h1, h2⟩ := h
    obtain ⟨rfl, rfl⟩ := List.append_eq_nil_iff.mp e.symm
    exact Rps.drop h2 n
theorem Rps.take {c : Zc} {H : Hp} : ∀ {ds : List D} {xs : List V}, Rps c H ds xs [] → ∀ n, Rps c H (ds.take n) (xs.take n) []
  | ds, xs, h, 0 => by simp [Rps]
  | [], xs, h, n + 1 => by
    simp only [Rps] at h
    rw [h.1]
    simp [Rps]
  | d :: ds, xs, h, n + 1 => by
    simp only [Rps] at h
    obtain ⟨x, ys, f1, f2, rfl, e, h1, h2⟩ := h
    obtain ⟨rfl, rfl⟩ := List.append_eq_nil_iff.mp e.symm
    exact Rps.cons h1 (Rps.take h2 n)
theorem Rps.cut {c : Zc} {H : Hp} {ds : List D} {xs : List V} (h : Rps c H ds xs []) (lo hi : Option Int) : Rps c H (cutL ds lo hi) (cutL xs lo hi) [] := by
  unfold cutL
  rw [h.len]
  exact (h.drop _).take _
theorem de_slice {te : TE} {tl th : TO} {m : DM} {ml mh : DMo} {U : List Nat} (h : DE K S te m U) (hl : DO K S tl ml) (hh : DO K S th mh) : DE K S (tSl (rSlZ K) te tl th) (dSlice m ml mh) [] := fun G H ρ σ fps E R hm Q q =>
  h G H ρ σ fps E _ hm _ fun d v H1 fp hR e1 s1 r1 n1 f1 => hl G H1 ρ σ fps (E.step e1 s1) _ hR _ fun lo H2 hR e2 s2 => hh G H2 ρ σ fps (E.step (e1.trans e2) s2) _ hR _ fun hi H3 hR e3 s3 => by
    have r3 := (r1.ext n1 (e2.trans e3) s1)
    have ee := e1.trans (e2.trans e3)
    cases d with
    | list ds =>
      simp only [Rp] at r3
      obtain ⟨a, xs, gp, rfl, rfl, ha, hv⟩ := r3
      have z := hv.solid _ _ _ hR.1
      subst z
      refine .inl ⟨a, xs, rfl, .of ha, fun p hp => ?_⟩
      have e := Ext.new (c := ⟨K, S⟩) (o := .lst (cutL xs lo hi)) hp
      have hpn := s3.fresh hp
      refine q _ (.ref p) _ [p] hR.2 (ee.trans e) (s3.new hp) ?_ (fun b hb => by rw [List.mem_singleton.mp hb]; exact hpn) (.new (ee.free hp hpn))
      simp only [Rp]
      exact ⟨p, _, [], rfl, rfl, upd_same, (hv.cut lo hi).ext .nil e s3⟩
    | tuple ds =>
      have z := r3.solid _ _ _ (by simp only [solid]; exact hR.1)
      subst z
      have r3' := r3
      simp only [Rp] at r3
      obtain ⟨a, xs, rfl, ha, hv⟩ := r3
      refine .inr (.inl ⟨a, xs, rfl, ha.t, fun w => ?_, fun w p o hp ho => ?_⟩)
      · rw [hv.len] at w
        have hR2 := hR.2
        rw [cutL_all w] at hR2
        exact q _ _ H3 [] hR2 ee s3 r3' .nil (.fresh (fun b hb => by cases hb) List.nodup_nil)
      · have e := Ext.new (c := ⟨K, S⟩) (o := .frz o (.tup (cutL xs lo hi))) hp
        refine q _ (.ref p) _ [] hR.2 (ee.trans e) (s3.new hp) ?_ .nil (.fresh (fun b hb => by cases hb) List.nodup_nil)
        simp only [Rp]
        exact ⟨p, _, rfl, .new ho, (hv.cut lo hi).ext .nil e s3⟩
    | str z =>
      simp only [Rp] at r3
      obtain ⟨rfl, rfl⟩ := r3
      exact .inr (.inr ⟨z, rfl, lim_ok hR.1, q _ _ H3 [] hR.2 ee s3 (str_rp H3) .nil (.fresh (fun b hb => by cases hb) List.nodup_nil)⟩)
    | _ => exact False.elim hR
/-! ### list(xs), list(range(..)) -/
def fList : List D → (D → Prop) → Prop := fun ds R => match ds with
  | [.list xs] => solids xs = true ∧ R (.list xs)
  | [.tuple xs] => solids xs = true ∧ R (.list xs)
  | _ => False
theorem cd_list : CallD K S (fun xs H Q => ∃ p ys, xs = [.ref p] ∧ (SqL K H p ys ∨ SqT K H p ys) ∧ ∀ l, H l = none → Q (.ref l) (upd H l (.lst ys))) fList := fun H xs ds fp s r n R hf Q q => by
  have fin : ∀ (p : Addr) (ys : List V) (es : List D), (SqL K H p ys ∨ SqT K H p ys) → Rps ⟨K, S⟩ H es ys [] → R (.list es) → ∃ p' ys', [V.ref p] = [.ref p'] ∧ (SqL K H p' ys' ∨ SqT K H p' ys') ∧ ∀ l, H l = none → Q (.ref l) (upd H l (.lst ys')) := fun p ys es h1 h2 hR => by
    refine ⟨p, ys, rfl, h1, fun l hl => ?_⟩
    have e := Ext.new (c := ⟨K, S⟩) (o := .lst ys) hl
    refine q (.list es) (.ref l) _ [l] hR e (s.new hl) ?_ (fun b hb => by rw [List.mem_singleton.mp hb]; exact s.fresh hl) (List.pairwise_singleton _ _) fun b hb => by rw [List.mem_singleton.mp hb]; exact hl
    simp only [Rp]
    exact ⟨l, ys, [], rfl, rfl, upd_same, h2.ext .nil e s⟩
  unfold fList at hf
  split at hf
  · obtain ⟨x, rfl, rx⟩ := rps_one r
    simp only [Rp] at rx
    obtain ⟨a, ys, gp, rfl, rfl, h1, h2⟩ := rx
    have z := h2.solid _ _ _ hf.1
    subst z
    exact fin a ys _ (.inl (.of h1)) h2 hf.2
  · obtain ⟨x, rfl, rx⟩ := rps_one r
    have z := rx.solid _ _ _ (by simp only [solid]; exact hf.1)
    subst z
    simp only [Rp] at rx
    obtain ⟨a, ys, rfl, h1, h2⟩ := rx
    exact fin a ys _ (.inr h1.t) h2 hf.2
  · exact False.elim hf
def dListRg (m : DM) : DM := fun ρ R => m ρ fun d => asI d fun j => (-1000000000 ≤ j ∧ j ≤ 10000000) ∧ R (.list (rangeD 0 j.toNat 1))
end
end Z
set_option Elab.async false
set_option linter.all false
set_option maxRecDepth 100000
set_option maxHeartbeats 4000000
/-! Z13: sorted, zip. -/
namespace Z
open PySem PySem.Spec PyProof.Rows L2
/-! ### sorted(x): what x gives is collected, then sorted -/
section
open PySem.W
variable {prog : Program} {w : World} {A : Around} {E : Value → Shared → Prop} {s : Shared} {β : Type} {vs : List Value} {bs : List β} {enc : β → PyData} {R : Value → β → Prop}
/-- sorted's keywords: none, or reverse=b -/
inductive Rev : Bool → List (Str × Value) → Prop
  | no : Rev false []
  | of (b : Bool) : Rev b [(Str.ofString "reverse", .bool b)]
theorem sorted_any {x : Value} {b : Bool} {kw : List (Str × Value)} {Q : Value → Shared → Prop} (hr : Rev b kw)
    (col : ∀ (E' : Value → Shared → Prop) (Q' : List Value → Shared → Prop), (∀ h', (∀ c o, s.heap.get? c = some o → h'.get? c = some o) → Q' vs { s with heap := h' }) → wpAny (model prog w) A.in1 (collect x) Q' E' s)
    (e : EachIs R vs bs) (er : EachIs (fun v b => ∃ as, Reads s.heap v (enc b) as) vs bs) (hal : AllAlike (bs.map enc)) (hk : Sortable (bs.map enc)) (hL : bs.length ≤ sizeLine) (hu : ∀ b, b ∈ bs → A.units + 2 + (enc b).depth < cLine)
    (h : ∀ (out : List Value) (h1 h' : Heap) (n : Nat), EachIs R out (bs.mergeSort (dataLe b enc)) → (∀ c o, s.heap.get? c = some o → h1.get? c = some o) → (∀ c o, h1.get? c = some o → h'.get? c = some o) → h'.get? h1.objs.size = some (seqObj "list" (List.toArray out) n) → Q (.ref h1.objs.size) { s with heap := h' }) :
    wpAny (model prog w) A (call (.builtin "sorted") [x] kw) Q E s := by
  have hl : vs.length ≤ sizeLine := by rw [e.length]; exact hL
  refine call_function_entry_kw kind_sorted plain_sorted entry_sorted (by cases hr with | no => exact args_sorted1 _ | of b => exact args_sorted_rev _ _) ?_
  unfold Builtin.«sorted»
  refine wpAny_bind (m := checkCount "sorted" 1 1 _) (wpAny_pure ?_)
  refine wpAny_bind (col _ _ fun h1 k1 => ?_)
  refine wpAny_bind (wpAny_newList ?_ hl)
  have ho : (h1.push (seqObj "list" vs.toArray 0)).get? h1.objs.size = some (seqObj "list" vs.toArray 0) := Heap.get?_push_size _ rfl
  have keep : ∀ c o, s.heap.get? c = some o → (h1.push (seqObj "list" vs.toArray 0)).get? c = some o ∧ c ≠ h1.objs.size := fun c o q => ⟨Heap.get?_push_of_some _ (k1 c o q), Nat.ne_of_lt (Heap.lt_size (k1 c o q))⟩
  have er' : EachIs (fun v b => ∃ as, Reads (sortingHeap (h1.push (seqObj "list" vs.toArray 0)) h1.objs.size vs) v (enc b) as) vs bs :=
    er.mono fun _ _ ⟨as, r⟩ => ⟨as, PyProof.Rows.Reads.keeps (fun c o q => sortingHeap_old (keep c o q).2 (keep c o q).1) r⟩
  have S := SortsAt.data (prog := prog) (w := w) (A := A.in1.in1) (s := { s with heap := sortingHeap (h1.push (seqObj "list" vs.toArray 0)) h1.objs.size vs })
    (each_map (R := fun v d => ∃ as, Reads (sortingHeap (h1.push (seqObj "list" vs.toArray 0)) h1.objs.size vs) v d as) enc er') hal hk (bound_map hu)
  have fin : Q (.ref h1.objs.size) { s with heap := sortedHeap (h1.push (seqObj "list" vs.toArray 0)) h1.objs.size vs (sortVals (dataKind (sortingHeap (h1.push (seqObj "list" vs.toArray 0)) h1.objs.size vs) (bs.map enc)) b vs vs).toArray } := by
    obtain ⟨n, hn⟩ := sortedHeap_at (out := (sortVals (dataKind (sortingHeap (h1.push (seqObj "list" vs.toArray 0)) h1.objs.size vs) (bs.map enc)) b vs vs).toArray) ho
    refine h _ h1 _ n (sortVals_data b e er' hal) k1 (fun c o q => ?_) hn
    have lt := Heap.lt_size q
    rw [sortedHeap_old (Nat.ne_of_lt lt) (by rw [Heap.size_push]; exact Nat.lt_succ_of_lt lt)]
    exact Heap.get?_push_of_some _ q
  refine wpAny_bind (wpAny_holding (wpAny_call_entry_kw slot_list_sort ⟨_, ho, rfl⟩ entry_list_sort ?body (by cases hr with | no => exact args_list_sort _ | of b => exact args_list_sort_rev _ _)))
  case body =>
    cases hr with
    | no => exact list_sort_vals (s := { s with heap := h1.push (seqObj "list" vs.toArray 0) }) ho S hl ⟨_, rfl, wpAny_pure ⟨_, rfl, fin⟩⟩
    | of b => exact list_sort_rev_vals (s := { s with heap := h1.push (seqObj "list" vs.toArray 0) }) ho S hl ⟨_, rfl, wpAny_pure ⟨_, rfl, fin⟩⟩
end
/-! ### sorted over the layer -/
theorem vals_each : ∀ {xs : List V} {us : List Value} {ds : List D}, Vals xs us → xs.length = ds.length → PySem.W.EachIs (fun v (p : V × D) => RelV p.1 v) us (xs.zip ds)
  | [], _, [], .nil, _ => .nil
  | _ :: _, _, _ :: _, .cons r t, h => .cons r (vals_each t (by simpa using h))
  | [], _, _ :: _, _, h => by simp at h
  | _ :: _, _, [], _, h => by simp at h
theorem each_vals : ∀ {ps : List (V × D)} {us : List Value}, PySem.W.EachIs (fun v (p : V × D) => RelV p.1 v) us ps → Vals (ps.map (·.1)) us
  | [], _, .nil => .nil
  | _ :: _, _, .cons r t => .cons r (each_vals t)
theorem reads_each {h : Heap} : ∀ {xs : List V} {us : List Value} {ds : List D} {as : List Addr}, xs.length = ds.length → ReadsAll h us ds as → PySem.W.EachIs (fun v (p : V × D) => ∃ as, Reads h v p.2 as) us (xs.zip ds)
  | [], _, [], _, _, .nil => .nil
  | _ :: _, _, _ :: _, _, h, .cons r t => .cons ⟨_, r⟩ (reads_each (by simpa using h) t)
  | [], _, _ :: _, _, h, _ => by simp at h
  | _ :: _, _, [], _, h, _ => by simp at h
/-- the values, sorted as the data are -/
def sortV (b : Bool) (xs : List V) (ds : List D) : List V := ((xs.zip ds).mergeSort (PySem.W.dataLe b (·.2))).map (·.1)
def sortD (b : Bool) (ds : List D) : List D := ds.mergeSort (PySem.W.dataLe b id)
def SortOk (ds : List D) : Prop := PyData.plainAll ds = true ∧ PySem.W.AllAlike ds ∧ PySem.W.Sortable ds ∧ ds.length ≤ 10000000 ∧ PyData.depthAll ds ≤ 50
def rSortZ (K : PySem.W.Frag) (b : Bool) : List V → Hp → VK → Prop := fun vs H Q => ∃ a xs ds, vs = [V.ref a] ∧ (SqL K H a xs ∨ SqT K H a xs) ∧ DpAll K H xs ds ∧ xs.length = ds.length ∧ SortOk ds ∧ ∀ p, H p = none → Q (.ref p) (upd H p (.lst (sortV b xs ds)))
theorem depth_le {k : Nat} : ∀ {ds : List D}, PyData.depthAll ds ≤ k → ∀ d ∈ ds, d.depth ≤ k
  | d :: ds, h, e, he => by
    simp only [PyData.depthAll] at h
    rcases List.mem_cons.mp he with rfl | he
    · exact Nat.le_trans (Nat.le_max_left _ _) h
    · exact depth_le (Nat.le_trans (Nat.le_max_right _ _) h) e he
section
variable {X : Cx}
theorem sort_run {b : Bool} {kw : List (Str × Value)} (hr : Rev b kw) (hu : X.A.units + 64 < cLine) {pins : List (Addr × Obj)} {s : Shared} {σ : L2.St} {H : Hp} {vs : List V} {us : List Value} {Q : VK} (I : Inv X pins σ H s) (r : Vals vs us) (h : rSortZ X.K b vs H Q) :
    wpAny (model X.prog X.w) X.A (call (.builtin "sorted") us kw) (EP X pins σ Q) X.xe s := by
  obtain ⟨a, xs, ds, rfl, hs, hd, hl, ⟨h1, h2, h3, h4, h5⟩, q⟩ := h
  obtain ⟨u, rfl, ru⟩ := vals1 r
  cases ru
  have go : ∀ its : List Value, Vals xs its → (∀ (E' : Value → Shared → Prop) (Q' : List Value → Shared → Prop), (∀ h', (∀ c o, s.heap.get? c = some o → h'.get? c = some o) → Q' its { s with heap := h' }) → wpAny (model X.prog X.w) X.A.in1 (collect (.ref a)) Q' E' s) →
      wpAny (model X.prog X.w) X.A (call (.builtin "sorted") [.ref a] kw) (EP X pins σ Q) X.xe s := fun its rv col => by
    obtain ⟨as, rr⟩ := Dp.readsAll I ds _ its hd rv
    have emap : (xs.zip ds).map (·.2) = ds := by rw [List.map_snd_zip (Nat.le_of_eq hl.symm)]
    refine sorted_any (bs := xs.zip ds) (enc := (·.2)) hr col (vals_each rv hl) (reads_each hl rr) (by rw [emap]; exact h2) (by rw [emap]; exact h3) (by rw [List.length_zip]; exact Nat.le_trans (Nat.min_le_right _ _) (lim_ok h4)) (fun p hp => ?_) fun out g1 h' n e k1 k2 ho => ?_
    · have := depth_le h5 p.2 (List.of_mem_zip hp).2
      show X.A.units + 2 + p.2.depth < cLine
      omega
    · have J : Inv X pins σ H { s with heap := g1 } := I.kept (t' := s.toks) k1
      have rv' := each_vals e
      have hlen : (sortV b xs ds).length ≤ sizeLine := by
        unfold sortV
        rw [List.length_map, List.length_mergeSort, List.length_zip]
        exact Nat.le_trans (Nat.min_le_right _ _) (lim_ok h4)
      exact ⟨.ref g1.objs.size, _, J.laid (t' := s.toks) (o := .lst (sortV b xs ds)) k2 (Nat.le_refl _) ⟨hlen, out, n, rv', ho⟩, rfl, q _ (J.hok.fresh (Nat.le_refl _))⟩
  rcases hs with hs | hs
  · obtain ⟨its, rv, ⟨o, n, ho, hc, _, hdt⟩, hz⟩ := I.list hs
    exact go its rv fun E' Q' k => wpAny_collect_seq a (.inl rfl) ho hc hdt k (by rw [List.size_toArray, ← rv.length]; exact hz)
  · obtain ⟨its, rv, ⟨o, ho, hc, n, hdt⟩, hz⟩ := I.tuple hs
    exact go its rv fun E' Q' k => wpAny_collect_seq a (.inr rfl) ho hc hdt k (by rw [List.size_toArray, ← rv.length]; exact hz)
theorem cr_sortZ (hu : X.A.units + 64 < cLine) : CallR X (.builtin "sorted") (rSortZ X.K false) := fun pins s σ H vs us Q I r h => sort_run .no hu I r h
end
section
variable {K : PySem.W.Frag} {S : Option (Addr × Addr)}
def fSorted (b : Bool) : List D → (D → Prop) → Prop := fun ds R => match ds with
  | [.list xs] => solids xs = true ∧ SortOk xs ∧ R (.list (sortD b xs))
  | [.tuple xs] => solids xs = true ∧ SortOk xs ∧ R (.list (sortD b xs))
  | _ => False
theorem rps_pairs {c : Zc} {H : Hp} : ∀ {ps : List (V × D)}, (∀ p ∈ ps, Rp c H p.2 p.1 []) → Rps c H (ps.map (·.2)) (ps.map (·.1)) []
  | [], _ => .nil
  | p :: ps, h => Rps.cons (h p (List.mem_cons_self ..)) (rps_pairs fun q hq => h q (List.mem_cons_of_mem _ hq))
theorem pairs_rps {c : Zc} {H : Hp} : ∀ {ds : List D} {xs : List V}, Rps c H ds xs [] → ∀ p ∈ xs.zip ds, Rp c H p.2 p.1 []
  | [], xs, h, p, hp => by simp at hp
  | d :: ds, xs, h, p, hp => by
    simp only [Rps] at h
    obtain ⟨x, ys, f1, f2, rfl, e, h1, h2⟩ := h
    obtain ⟨rfl, rfl⟩ := List.append_eq_nil_iff.mp e.symm
    rw [List.zip_cons_cons] at hp
    rcases List.mem_cons.mp hp with rfl | hp
    · exact h1
    · exact pairs_rps h2 p hp
theorem rps_sort {c : Zc} {H : Hp} {ds : List D} {xs : List V} (b : Bool) (h : Rps c H ds xs []) : Rps c H (sortD b ds) (sortV b xs ds) [] := by
  have e : sortD b ds = ((xs.zip ds).mergeSort (PySem.W.dataLe b (·.2))).map (·.2) := by
    have e1 : (xs.zip ds).map (·.2) = ds := by rw [List.map_snd_zip (Nat.le_of_eq h.len.symm)]
    have e2 := List.map_mergeSort (r := PySem.W.dataLe b (fun p : V × D => p.2)) (s := PySem.W.dataLe b id) (f := fun p : V × D => p.2) (l := xs.zip ds) (fun a _ b' _ => rfl)
    rw [e2, e1]
    rfl
  rw [e]
  exact rps_pairs fun p hp => pairs_rps h p (List.mem_mergeSort.mp hp)
theorem sorted_fin {b : Bool} {H : Hp} {x : V} {xs : List D} {f : List Addr} (s : SrcAt ⟨K, S⟩ H) (rx : Rp ⟨K, S⟩ H (.list xs) x f ∨ Rp ⟨K, S⟩ H (.tuple xs) x f) (hs : solids xs = true) (ok : SortOk xs) {R : D → Prop} (hR : R (.list (sortD b xs))) {Q : VK}
    (q : ∀ z v H' fp, R z → Ext ⟨K, S⟩ H H' → SrcAt ⟨K, S⟩ H' → Rp ⟨K, S⟩ H' z v fp → NoS ⟨K, S⟩ fp → fp.Nodup → (∀ a ∈ fp, H a = none) → Q v H') : rSortZ K b [x] H Q := by
  have fin : ∀ (a : Addr) (ys : List V), (SqL K H a ys ∨ SqT K H a ys) → Rps ⟨K, S⟩ H xs ys [] → rSortZ K b [.ref a] H Q := fun a ys h1 h2 => by
    refine ⟨a, ys, xs, rfl, h1, h2.dp _ _ _ ok.1, h2.len, ok, fun l hl => ?_⟩
    have e := Ext.new (c := ⟨K, S⟩) (o := .lst (sortV b ys xs)) hl
    refine q _ (.ref l) _ [l] hR e (s.new hl) ?_ (fun c hc => by rw [List.mem_singleton.mp hc]; exact s.fresh hl) (List.pairwise_singleton _ _) fun c hc => by rw [List.mem_singleton.mp hc]; exact hl
    simp only [Rp]
    exact ⟨l, _, [], rfl, rfl, upd_same, (rps_sort b h2).ext .nil e s⟩
  rcases rx with rx | rx
  · simp only [Rp] at rx
    obtain ⟨a, ys, gp, rfl, rfl, h1, h2⟩ := rx
    have z := h2.solid _ _ _ hs
    subst z
    exact fin a ys (.inl (.of h1)) h2
  · have z := rx.solid _ _ _ (by simp only [solid]; exact hs)
    subst z
    simp only [Rp] at rx
    obtain ⟨a, ys, rfl, h1, h2⟩ := rx
    exact fin a ys (.inr h1.t) h2
theorem cd_sorted {b : Bool} : CallD K S (rSortZ K b) (fSorted b) := fun H xs ds fp s r n R hf Q q => by
  unfold fSorted at hf
  split at hf
  · obtain ⟨x, rfl, rx⟩ := rps_one r
    exact sorted_fin s (.inl rx) hf.1 hf.2.1 hf.2.2 q
  · obtain ⟨x, rfl, rx⟩ := rps_one r
    exact sorted_fin s (.inr rx) hf.1 hf.2.1 hf.2.2 q
  · exact False.elim hf
end
end Z
set_option Elab.async false
set_option linter.all false
set_option maxRecDepth 100000
set_option maxHeartbeats 4000000
/-! Z14: things in a drawn sequence: its reading; zip. -/
namespace Z
open PySem PySem.Spec PyProof.Rows L2
/-! ### zip of two lists, of two tuples -/
section
variable {K : PySem.W.Frag} {S : Option (Addr × Addr)}
def zipD (ds es : List D) : List D := List.zipWith (fun a b => .tuple [a, b]) ds es
def dZip (ms : DMs) : DMs := fun ρ R => ms ρ fun ds => match ds with
  | [.list xs, .list ys] => R (zipD xs ys)
  | [.tuple xs, .tuple ys] => R (zipD xs ys)
  | _ => False
theorem iter_zip {c : Zc} {H1 : Hp} {J : It} {ds es : List D} {xs ys : List V} {g1 g2 FP : List Addr} {G : Hp → Prop} (w : Walk J (min xs.length ys.length) G (YPair (fun i => xs[i]?) fun i => ys[i]?)) (r1 : Rps c H1 ds xs g1) (r2 : Rps c H1 es ys g2) (s1 : ∀ b ∈ g1, b ∈ FP) (s2 : ∀ b ∈ g2, b ∈ FP)
    (hG : ∀ H', Tk H1 H' → (∀ b ∈ FP, H' b = H1 b) → G H') (nF : NoS c FP) : IterOk true c J H1 (zipD ds es) FP := by
  have el : (zipD ds es).length = min xs.length ys.length := by rw [r1.len, r2.len]; simp [zipD]
  unfold IterOk
  rw [el]
  refine w.mono (fun H' g => hG H' g.1 g.2.1) fun i H' x H'' hi g y => ?_
  obtain ⟨T, a, b, rfl, hT, rfl, ha, hb⟩ := y
  have e := Ext.new (c := c) (o := .tup [a, b]) hT
  obtain ⟨d1, f1, e1, q1, k1⟩ := (r1.mono g.1 _ _ _ fun b hb => g.2.1 b (s1 b hb)).atV ha
  obtain ⟨d2, f2, e2, q2, k2⟩ := (r2.mono g.1 _ _ _ fun b hb => g.2.1 b (s2 b hb)).atV hb
  have n1 : NoS c f1 := fun z hz => nF z (s1 z (k1 z hz))
  have n2 : NoS c f2 := fun z hz => nF z (s2 z (k2 z hz))
  exact ⟨e, g.2.2.new hT, .tuple [d1, d2], f1 ++ f2, by simp [zipD, List.getElem?_zipWith, e1, e2], .inr ⟨rfl, _, T, _, rfl, rfl, .of upd_same, Rps.cons (q1.ext n1 e g.2.2) (.one (q2.ext n2 e g.2.2))⟩,
    fun z hz => (List.mem_append.mp hz).elim (fun h => s1 z (k1 z h)) fun h => s2 z (k2 z h)⟩
theorem walk_zipT {a b : Addr} {xs ys : List V} : Walk (RZ.ItzT K a b) (min xs.length ys.length) (fun H => SqT K H a xs ∧ SqT K H b ys) (YPair (fun i => xs[i]?) (fun i => ys[i]?)) where
  goes := fun i H hi h => ⟨xs, ys, xs[i]'(by omega), ys[i]'(by omega), h.1, h.2, List.getElem?_eq_getElem _, List.getElem?_eq_getElem _⟩
  stops := fun H h => ⟨xs, ys, h.1, h.2, by omega⟩
  yields := fun i H v H' _ h y => by
    obtain ⟨T, x, y, e1, e2, e3, e4, e5⟩ := y
    exact ⟨T, x, y, e1, e2, e3, e4 xs h.1, e5 ys h.2⟩
theorem di_zip {t : TA} {ms : DMs} {U : List Nat} (h : DA K S t ms U) : DI true K S (RZ.iZipA K t) (dZip ms) U := fun G H ρ σ fps E R hm Q q =>
  h G H ρ σ fps E _ hm _ fun ds vs H1 fp hR e1 s1 r1 n1 f1 => by
    have th : ∀ a ∈ fp, ∃ o, H1 a = some o := fun a ha => let ⟨o, ho, _⟩ := r1.there _ _ _ a ha; ⟨o, ho⟩
    split at hR
    · obtain ⟨x, y, f2, f3, rfl, rfl, rx, ry⟩ := rps_two r1
      simp only [Rp] at rx ry
      obtain ⟨a, xs, g1, rfl, rfl, h1, h2⟩ := rx
      obtain ⟨b, ys, g2, rfl, rfl, h3, h4⟩ := ry
      exact ⟨a, b, xs, ys, rfl, .inl ⟨.of h1, .of h3, q _ _ H1 _ hR e1 s1 (iter_zip (walk_zip rfl) h2 h4 (fun z hz => List.mem_append_left _ (List.mem_cons_of_mem _ hz)) (fun z hz => List.mem_append_right _ (List.mem_cons_of_mem _ hz))
        (fun H' _ k => ⟨.of (by rw [k a (by simp)]; exact h1), .of (by rw [k b (by simp)]; exact h3)⟩) n1) n1 th f1⟩⟩
    · obtain ⟨x, y, f2, f3, rfl, rfl, rx, ry⟩ := rps_two r1
      simp only [Rp] at rx ry
      obtain ⟨a, xs, rfl, h1, h2⟩ := rx
      obtain ⟨b, ys, rfl, h3, h4⟩ := ry
      exact ⟨a, b, xs, ys, rfl, .inr ⟨h1.t, h3.t, q _ _ H1 _ hR e1 s1 (iter_zip walk_zipT h2 h4 (fun z hz => List.mem_append_left _ hz) (fun z hz => List.mem_append_right _ hz)
        (fun H' tk _ => ⟨tk.sq h1.t, tk.sq h3.t⟩) n1) n1 th f1⟩⟩
    · exact False.elim hR
end
end Z
set_option Elab.async false
set_option linter.all false
set_option maxRecDepth 100000
set_option maxHeartbeats 4000000
/-! Z15: the truth of a value; xs[i] = e. -/
namespace Z
open PySem PySem.Spec PyProof.Rows L2
section
variable {K : PySem.W.Frag} {S : Option (Addr × Addr)}
def tru (d : D) (R : Bool → Prop) : Prop := match d with
  | .none => R false
  | .bool b => R b
  | .int i => R (i != 0)
  | .list xs => R (!xs.isEmpty)
  | .tuple xs => R (!xs.isEmpty)
  | .str z => z.length ≤ 10000000 ∧ R ((z.length : Int) != 0)
  | _ => False
def dTru (m : DM) : DMt := fun ρ R => m ρ fun d => tru d R
theorem empty_eq {c : Zc} {H : Hp} {ds : List D} {xs : List V} {fp : List Addr} (h : Rps c H ds xs fp) : (!ds.isEmpty) = !xs.isEmpty := by
  have := h.len
  cases ds <;> cases xs <;> simp_all
theorem dt_tru {te : TE} {m : DM} {U : List Nat} (h : DE K S te m U) : DT K S (fun σ H Q => te σ H fun x H' => ∃ k, TruV K x H' k ∧ Q k H') (dTru m) := fun G H ρ σ fps E R hm Q q =>
  h G H ρ σ fps E _ hm _ fun d v H' fp hR e s r ns f => by
    cases d with
    | none => rw [show v = .non by simpa [Rp] using r.1]; exact ⟨false, rfl, q _ H' hR e s⟩
    | bool b => rw [rp_bl r]; exact ⟨b, rfl, q _ H' hR e s⟩
    | int i => rw [rp_int r]; exact ⟨_, rfl, q _ H' hR e s⟩
    | str z =>
      simp only [Rp] at r
      rw [r.1]
      exact ⟨_, ⟨lim_ok hR.1, rfl⟩, q _ H' hR.2 e s⟩
    | list ds =>
      simp only [Rp] at r
      obtain ⟨a, xs, gp, rfl, rfl, h1, h2⟩ := r
      exact ⟨_, .inl ⟨xs, .of h1, empty_eq h2⟩, q _ H' hR e s⟩
    | tuple ds =>
      simp only [Rp] at r
      obtain ⟨a, xs, rfl, h1, h2⟩ := r
      exact ⟨_, .inr (.inl ⟨xs, h1.t, empty_eq h2⟩), q _ H' hR e s⟩
    | dict kvs => exact False.elim hR
end
/-- a loop that folds: I, what holds at each state -/
theorem forD_fold {α τ : Type} {mg : DMg} {mb : DMS} {F : List Nat} {R : DEnds} (enc : α → D) (step : τ → α → τ) (I : τ → En → Prop) : ∀ (ys : List α) (t : τ) (ρ : En), I t ρ →
    (∀ y ∈ ys, ∀ t ρ (Nx Bk : En → Prop), I t ρ → (∀ ρ', I (step t y) (hide F ρ') → Nx ρ') → mg (enc y) ρ fun ρ1 => mb ρ1 ⟨Nx, R.rt, Bk, Nx⟩) → (∀ ρ, I (ys.foldl step t) ρ → R.nx ρ) → forD mg mb F R (ys.map enc) ρ
  | [], t, ρ, h0, _, hd => hd ρ h0
  | y :: ys, t, ρ, h0, hs, hd => hs y (List.mem_cons_self ..) t ρ _ _ h0 fun ρ' h' => forD_fold enc step I ys (step t y) (hide F ρ') h' (fun z hz => hs z (List.mem_cons_of_mem _ hz)) hd
/-- .. whose turns all go on to the next one -/
theorem forD_nx {mg : DMg} {mb : DMS} {F : List Nat} {R : DEnds} (I : Nat → En → Prop) (xs : List D) (n : Nat) (ρ : En) (h0 : I n ρ)
    (hs : ∀ i x ρ (E : DEnds), xs[i]? = some x → I (n + i) ρ → (∀ ρ', I (n + i + 1) (hide F ρ') → E.nx ρ') → mg x ρ fun ρ1 => mb ρ1 E) (hd : ∀ ρ, I (n + xs.length) ρ → R.nx ρ) : forD mg mb F R xs ρ :=
  forD_inv I xs n ρ h0 (fun i x ρ Nx hx hI hN => hs i x ρ _ hx hI hN) hd
theorem range_at {n : Nat} {i : Nat} {x : D} (h : (rangeD 0 n 1)[i]? = some x) : i < n ∧ x = .int ((i : Nat) : Int) := by
  have hi : i < n := by
    have := (List.getElem?_eq_some_iff.mp h).1
    rwa [rangeD_len] at this
  refine ⟨hi, ?_⟩
  unfold rangeD at h
  rw [List.getElem?_map, List.getElem?_range hi] at h
  have := Option.some.inj h
  rw [← this]
  simp
end Z
set_option Elab.async false
set_option linter.all false
set_option maxRecDepth 100000
set_option maxHeartbeats 4000000
/-! Z16: max, min, abs, chains, is None. -/
namespace Z
open PySem PySem.Spec PyProof.Rows L2
section
variable {K : PySem.W.Frag} {S : Option (Addr × Addr)}
def f2L (f : Int → Int → Int) : List D → (D → Prop) → Prop := fun ds R => match ds with
  | [x, y] => asI x fun i => asI y fun j => R (.int (f i j))
  | _ => False
theorem cd_2I {r : List V → Hp → VK → Prop} {f : Int → Int → Int} (h : ∀ i j H Q, Q (.int (f i j)) H → r [.int i, .int j] H Q) : CallD K S r (f2L f) := .pure fun H xs ds fp r' R hf Q q => by
  unfold f2L at hf
  split at hf
  · obtain ⟨i, e1, h2⟩ := asI_ok hf
    obtain ⟨j, e2, hR⟩ := asI_ok h2
    subst e1 e2
    obtain ⟨x, y, f1, f2, rfl, rfl, rx, ry⟩ := rps_two r'
    rw [rp_int rx, rp_int ry]
    exact h i j H Q (q _ _ hR int_rp)
  · exact False.elim hf
theorem cd_min2 : CallD K S (fun xs H Q => ∃ i j, xs = [.int i, .int j] ∧ Q (.int (if j < i then j else i)) H) (f2L fun i j => if j < i then j else i) := cd_2I fun i j H Q q => ⟨i, j, rfl, q⟩
def fAbs : List D → (D → Prop) → Prop := fun ds R => match ds with
  | [.int i] => R (.int (if i < 0 then -i else i))
  | _ => False
/-- x is None -/
def isNone : D → Bool
  | .none => true
  | _ => false
def fIsN (neg : Bool) : D → D → (D → Prop) → Prop := fun x y R => match y with
  | .none => R (.bool (if neg then !isNone x else isNone x))
  | _ => False
/-- x op y op' z -/
def dChain (f f' : D → D → (D → Prop) → Prop) (ma mb mc : DM) : DM := fun ρ R => ma ρ fun x => mb ρ fun y => f x y fun z => asB z fun k => cond k (mc ρ fun w => f' y w R) (R (.bool false))
end
end Z
set_option Elab.async false
set_option linter.all false
set_option maxRecDepth 100000
set_option maxHeartbeats 4000000
/-! Z17: zip(a, b, strict=True) of sequences of one length. -/
namespace Z
open PySem PySem.Spec PyProof.Rows L2
section
variable {prog : Program} {w : World} {A : Around} {E : Value → Shared → Prop} {s : Shared} {it : Addr} {fp : List Addr} {n : Nat} {P : Nat → Value → Prop} {St : Nat → Heap → Prop}
theorem stop_sub : isSubtype (.type "StopIteration") (.type "StopIteration") = pure true := by rw [isSubtype_type]; kernel_rfl
theorem next_item (D : Draws prog w A it fp n P St) {i : Nat} {Q : Option Value → Shared → Prop} (hi : i < n) (st : St i s.heap)
    (h : ∀ x h' tk, P i x → St (i + 1) h' → Heap.SameBut it s.heap h' → Q (some x) { s with heap := h', toks := tk }) : wpAny (model prog w) A (Builtin.SmallTypes.nextOrEnd (.ref it)) Q E s := by
  unfold Builtin.SmallTypes.nextOrEnd
  exact wpAny_bind (wpAny_attempt (D.item i s _ _ hi st fun x h' tk a b c => wpAny_pure (h x h' tk a b c)))
theorem next_done (D : Draws prog w A it fp n P St) {Q : Option Value → Shared → Prop} (st : St n s.heap)
    (h : ∀ h', Heap.ExtBut it s.heap h' → Q none { s with heap := h' }) : wpAny (model prog w) A (Builtin.SmallTypes.nextOrEnd (.ref it)) Q E s := by
  unfold Builtin.SmallTypes.nextOrEnd
  refine wpAny_bind (wpAny_attempt (D.done s _ _ st fun h' e a b => ?_))
  obtain ⟨o, ho, hc⟩ := b
  exact wpAny_bind (wpAny_isInstance (T := "StopIteration") (b := true) ⟨o, ho, hc⟩ stop_sub (wpAny_pure (h h' a)))
end
/-- a zip that wants one length -/
abbrev IsZipS (h : Heap) (z TI TO : Addr) (f0 : Value) : Prop :=
  h.get? z = some { cls := .type "zip", dict := none, data := .fields #[f0, .bool false, .bool true, .ref TI, .ref TO], slots := #[] }
section
variable {prog : Program} {w : World} {A : Around} {E : Value → Shared → Prop} {s : Shared} {z TI TO i1 i2 : Addr} {fp1 fp2 : List Addr} {n i : Nat} {P1 P2 : Nat → Value → Prop} {St1 St2 : Nat → Heap → Prop} {a1 a2 : Value}
theorem strict_item {Q : Value → Shared → Prop} (S : ZipSep2 z TI TO i1 i2 fp1 fp2) (D1 : Draws prog w A i1 fp1 n P1 St1) (D2 : Draws prog w A i2 fp2 n P2 St2)
    (hz : IsZipS s.heap z TI TO .none) (hTI : IsTupOf2 s.heap TI (.ref i1) (.ref i2)) (hTO : IsTupOf2 s.heap TO a1 a2) (st1 : St1 i s.heap) (st2 : St2 i s.heap) (hlt : i < n)
    (hQ : ∀ x1 x2 h' tk, P1 i x1 → P2 i x2 → IsZipS h' z TI TO (rawInt s.heap.objs.size) → IsTupOf2 h' TO x1 x2 → St1 (i + 1) h' → St2 (i + 1) h' → IsTupOf2 h' s.heap.objs.size x1 x2 → h'.objs.size = s.heap.objs.size + 1 →
      (∀ c o, c ≠ z → c ≠ TO → c ≠ i1 → c ≠ i2 → s.heap.get? c = some o → h'.get? c = some o) → Q (.ref s.heap.objs.size) { s with heap := h', toks := tk }) :
    wpAny (model prog w) A (Builtin.«zip.__next__» ⟨[.ref z], []⟩) (fun fin s' => ∃ v, fin = .done (.ret v) ∧ Q v s') E s := by
  obtain ⟨hp, g, d, tk0, os⟩ := s
  show wpAny _ _ (field (.ref z) 2 >>= _) _ _ _
  refine wpAny_bind (wpAny_field hz rfl (x := .bool true) rfl ?_)
  show wpAny _ _ (field (.ref z) 3 >>= _) _ _ _
  refine wpAny_bind (wpAny_field hz rfl (x := .ref TI) rfl ?_)
  refine wpAny_bind (wpAny_seqItems hTI rfl ?_)
  show wpAny _ _ (Builtin.SmallTypes.ownedTupleIsFree (.ref z) >>= _) _ _ _
  refine wpAny_bind ?_
  unfold Builtin.SmallTypes.ownedTupleIsFree
  refine wpAny_bind (wpAny_field hz rfl (x := .none) rfl (wpAny_pure ?_))
  simp only [if_true]
  refine wpAny_bind (wpAny_rule ?_)
  refine wpAny_bind (wpAny_field hz rfl (x := .ref TO) rfl ?_)
  refine wpAny_bind (wpAny_setField_rec hz (by simp) fun g0 hz0 hs0 => ?_)
  have hz0 : IsZipS g0 z TI TO .ellipsis := hz0
  have hs0 : Heap.SameBut z hp g0 := hs0
  refine wpAny_bind ?_
  simp only [List.zipIdx_cons, List.zipIdx_nil, List.forIn_cons, List.forIn_nil]
  refine wpAny_bind (wpAny_bind (wpAny_onRaise ?_))
  show wpAny _ _ (Builtin.SmallTypes.nextOrEnd (.ref i1)) _ _ ⟨g0, g, d, tk0, os⟩
  refine next_item D1 hlt (D1.over st1 hs0 S.zf1) fun x1 p1 tk1 hx1 sn1 hp1 => ?_
  have hp1 : Heap.SameBut i1 g0 p1 := hp1
  have hU1 : IsTupOf2 p1 TO a1 a2 := hp1.extBut _ _ S.Ti1 (hs0.extBut _ _ S.TOz hTO)
  refine wpAny_bind (wpAny_seqItems (s := ⟨p1, g, d, tk1, os⟩) hU1 rfl ?_)
  refine wpAny_bind (updateSeq_IsTupOf2 (s := ⟨p1, g, d, tk1, os⟩) hU1 fun g1 hT1 hs1 => ?_)
  have hT1 : IsTupOf2 g1 TO x1 a2 := hT1
  have hs1 : Heap.SameBut TO p1 g1 := hs1
  refine wpAny_bind (wpAny_letGo (wpAny_pure ?_))
  refine wpAny_bind (wpAny_bind (wpAny_onRaise ?_))
  show wpAny _ _ (Builtin.SmallTypes.nextOrEnd (.ref i2)) _ _ ⟨g1, g, d, tk1, os⟩
  refine next_item D2 hlt (D2.over (D2.over (D2.over st2 hs0 S.zf2) hp1 S.sep1_2) hs1 S.Tf2) fun x2 p2 tk2 hx2 sn2 hp2 => ?_
  have hp2 : Heap.SameBut i2 g1 p2 := hp2
  have hU2 : IsTupOf2 p2 TO x1 a2 := hp2.extBut _ _ S.Ti2 hT1
  refine wpAny_bind (wpAny_seqItems (s := ⟨p2, g, d, tk2, os⟩) hU2 rfl ?_)
  refine wpAny_bind (updateSeq_IsTupOf2 (s := ⟨p2, g, d, tk2, os⟩) hU2 fun g2 hT2 hs2 => ?_)
  have hT2 : IsTupOf2 g2 TO x1 x2 := hT2
  have hs2 : Heap.SameBut TO p2 g2 := hs2
  refine wpAny_bind (wpAny_letGo (wpAny_pure (wpAny_pure ?_)))
  refine wpAny_bind (wpAny_seqItems (s := ⟨g2, g, d, tk2, os⟩) hT2 rfl ?_)
  refine wpAny_bind (wpAny_newTuple ?_)
  have hsz : g2.objs.size = hp.objs.size := by rw [hs2.1, hp2.1, hs1.1, hp1.1, hs0.1]
  have hzz : IsZipS g2 z TI TO .ellipsis := hs2.extBut _ _ S.TOz.symm (hp2.extBut _ _ S.zi2 (hs1.extBut _ _ S.TOz.symm (hp1.extBut _ _ S.zi1 hz0)))
  have old : ∀ c o, c ≠ z → c ≠ TO → c ≠ i1 → c ≠ i2 → hp.get? c = some o → g2.get? c = some o := fun c o cz cT c1 c2 e =>
    hs2.extBut _ _ cT (hp2.extBut _ _ c2 (hs1.extBut _ _ cT (hp1.extBut _ _ c1 (hs0.extBut _ _ cz e))))
  have n1 : St1 (i + 1) g2 := D1.over (D1.over (D1.over sn1 hs1 S.Tf1) hp2 S.sep2_1) hs2 S.Tf1
  have n2 : St2 (i + 1) g2 := D2.over sn2 hs2 S.Tf2
  have zl : z < g2.objs.size := Heap.lt_size hzz
  show wpAny _ _ (Builtin.SmallTypes.ownedTupleHandOut (.ref z) (.ref g2.objs.size) >>= _) _ _ ⟨g2.push { cls := .type "tuple", data := .seq #[x1, x2] }, g, d, tk2, os⟩
  refine wpAny_bind ?_
  unfold Builtin.SmallTypes.ownedTupleHandOut
  have hz6 : IsZipS (g2.push { cls := .type "tuple", data := .seq #[x1, x2] }) z TI TO .ellipsis := Heap.get?_push_of_some _ hzz
  refine wpAny_bind (wpAny_setField_rec hz6 (by simp) fun h7 hz7 hs7 => ?_)
  have hz7 : IsZipS h7 z TI TO (rawInt g2.objs.size) := hz7
  have hs7 : Heap.SameBut z (g2.push { cls := .type "tuple", data := .seq #[x1, x2] }) h7 := hs7
  refine wpAny_setField_rec hz7 (by simp) fun h8 hz8 hs8 => ?_
  have hz8 : IsZipS h8 z TI TO (rawInt g2.objs.size) := hz8
  have hs8 : Heap.SameBut z h7 h8 := hs8
  have up : ∀ c o, c ≠ z → g2.get? c = some o → h8.get? c = some o := fun c o c1 e => hs8.extBut _ _ c1 (hs7.extBut _ _ c1 (Heap.get?_push_of_some _ e))
  have hT8 : IsTupOf2 h8 g2.objs.size x1 x2 := hs8.extBut _ _ (Nat.ne_of_gt zl) (hs7.extBut _ _ (Nat.ne_of_gt zl) (Heap.get?_push_size _ rfl))
  have sz8 : h8.objs.size = g2.objs.size + 1 := by rw [hs8.1, hs7.1, Heap.size_push]
  rw [hsz] at hz8 hT8 sz8
  refine wpAny_pure ⟨_, rfl, ?_⟩
  show Q (.ref g2.objs.size) ⟨h8, g, d, tk2, os⟩
  rw [hsz]
  exact hQ x1 x2 h8 tk2 hx1 hx2 hz8 (up _ _ S.TOz hT2) (D1.frame _ _ _ n1 fun b hb o e => up b o (fun q => S.zf1 (q ▸ hb)) e) (D2.frame _ _ _ n2 fun b hb o e => up b o (fun q => S.zf2 (q ▸ hb)) e) hT8 sz8
    fun c o c1 c2 c3 c4 e => up c o c1 (old c o c1 c2 c3 c4 e)
/-- all have ended -/
theorem strict_end {Q : Fin → Shared → Prop} (hh : A.handled = none) (S : ZipSep2 z TI TO i1 i2 fp1 fp2) (D1 : Draws prog w A i1 fp1 n P1 St1) (D2 : Draws prog w A i2 fp2 n P2 St2)
    (hz : IsZipS s.heap z TI TO .none) (hTI : IsTupOf2 s.heap TI (.ref i1) (.ref i2)) (hTO : IsTupOf2 s.heap TO a1 a2) (st1 : St1 n s.heap) (st2 : St2 n s.heap)
    (hE : ∀ h' tk e, (∀ c o, c ≠ z → c ≠ TO → c ≠ i1 → c ≠ i2 → s.heap.get? c = some o → h'.get? c = some o) → (∃ o, h'.get? e = some o ∧ o.cls = .type "StopIteration") → E (.ref e) { s with heap := h', toks := tk }) :
    wpAny (model prog w) A (Builtin.«zip.__next__» ⟨[.ref z], []⟩) Q E s := by
  obtain ⟨hp, g, d, tk0, os⟩ := s
  show wpAny _ _ (field (.ref z) 2 >>= _) _ _ _
  refine wpAny_bind (wpAny_field hz rfl (x := .bool true) rfl ?_)
  show wpAny _ _ (field (.ref z) 3 >>= _) _ _ _
  refine wpAny_bind (wpAny_field hz rfl (x := .ref TI) rfl ?_)
  refine wpAny_bind (wpAny_seqItems hTI rfl ?_)
  show wpAny _ _ (Builtin.SmallTypes.ownedTupleIsFree (.ref z) >>= _) _ _ _
  refine wpAny_bind ?_
  unfold Builtin.SmallTypes.ownedTupleIsFree
  refine wpAny_bind (wpAny_field hz rfl (x := .none) rfl (wpAny_pure ?_))
  simp only [if_true]
  refine wpAny_bind (wpAny_rule ?_)
  refine wpAny_bind (wpAny_field hz rfl (x := .ref TO) rfl ?_)
  refine wpAny_bind (wpAny_setField_rec hz (by simp) fun g0 hz0 hs0 => ?_)
  have hz0 : IsZipS g0 z TI TO .ellipsis := hz0
  have hs0 : Heap.SameBut z hp g0 := hs0
  refine wpAny_bind ?_
  simp only [List.zipIdx_cons, List.zipIdx_nil, List.forIn_cons, List.forIn_nil]
  refine wpAny_bind (wpAny_bind (wpAny_onRaise ?_))
  show wpAny _ _ (Builtin.SmallTypes.nextOrEnd (.ref i1)) _ _ ⟨g0, g, d, tk0, os⟩
  refine next_done D1 (D1.over st1 hs0 S.zf1) fun p1 hp1 => ?_
  have hp1 : Heap.ExtBut i1 g0 p1 := hp1
  have hz1 : IsZipS p1 z TI TO .ellipsis := hp1 _ _ S.zi1 hz0
  refine wpAny_bind (wpAny_setField_rec (s := ⟨p1, g, d, tk0, os⟩) hz1 (by simp) fun g1 hz2 hs1 => ?_)
  have hs1 : Heap.SameBut z p1 g1 := hs1
  refine wpAny_bind ?_
  show wpAny _ _ (_ >>= _) _ _ _
  refine wpAny_bind ?_
  simp only [List.drop_succ_cons, List.drop_zero, List.zipIdx_cons, List.zipIdx_nil, List.forIn_cons, List.forIn_nil]
  refine wpAny_bind (wpAny_bind ?_)
  refine next_done D2 (D2.frame _ _ _ st2 fun b hb o e => hs1.extBut _ _ (fun q => S.zf2 (q ▸ hb)) (hp1 _ _ (fun q => S.sep1_2 (q ▸ hb)) (hs0.extBut _ _ (fun q => S.zf2 (q ▸ hb)) e))) fun p2 hp2 => ?_
  have hp2 : Heap.ExtBut i2 g1 p2 := hp2
  simp only [Option.isSome_none, Bool.false_eq_true, if_false]
  refine wpAny_pure (wpAny_pure ?_)
  refine wpAny_bind (wpAny_rule ?_)
  unfold Builtin.SmallTypes.stopIteration
  refine wpAny_bind ?_
  simp only [newExc, newTuple]
  refine wpAny_bind (wpAny_newObj_type ?_ (by size_fits))
  refine wpAny_bind (m := firstArgMember _ _) (wpAny_of_eq (a := Value.none) (by first | rfl | (simp only [firstArgMember]; rfl)) ?_)
  refine wpAny_newObj_type ?_ (by size_fits)
  simp only [raiseNew]
  refine wpAny_bind (wpAny_handled ?_)
  rw [hh]
  refine wpAny_bind (wpAny_pure (wpAny_throw ?_))
  exact hE _ _ _ (fun c o cz _ c1 c2 e => Heap.get?_push_of_some _ (Heap.get?_push_of_some _ (hp2 _ _ c2 (hs1.extBut _ _ cz (hp1 _ _ c1 (hs0.extBut _ _ cz e)))))) ⟨_, Heap.get?_push_size _ rfl, rfl⟩
end
section
variable {prog : Program} {w : World} {A : Around} {E : Value → Shared → Prop} {s : Shared} {z TI TO i1 i2 : Addr} {fp1 fp2 : List Addr} {n i : Nat} {P1 P2 : Nat → Value → Prop} {St1 St2 : Nat → Heap → Prop} {a1 a2 : Value}
theorem strict_next {Q : Option Value → Shared → Prop} (S : ZipSep2 z TI TO i1 i2 fp1 fp2) (D1 : Draws prog w A.in1 i1 fp1 n P1 St1) (D2 : Draws prog w A.in1 i2 fp2 n P2 St2)
    (hz : IsZipS s.heap z TI TO .none) (hTI : IsTupOf2 s.heap TI (.ref i1) (.ref i2)) (hTO : IsTupOf2 s.heap TO a1 a2) (st1 : St1 i s.heap) (st2 : St2 i s.heap) (hlt : i < n)
    (hQ : ∀ x1 x2 h' tk, P1 i x1 → P2 i x2 → IsZipS h' z TI TO (rawInt s.heap.objs.size) → IsTupOf2 h' TO x1 x2 → St1 (i + 1) h' → St2 (i + 1) h' → IsTupOf2 h' s.heap.objs.size x1 x2 → h'.objs.size = s.heap.objs.size + 1 →
      (∀ c o, c ≠ z → c ≠ TO → c ≠ i1 → c ≠ i2 → s.heap.get? c = some o → h'.get? c = some o) → Q (some (.ref s.heap.objs.size)) { s with heap := h', toks := tk }) : wpAny (model prog w) A (pyNext (.ref z)) Q E s := by
  have hT : s.TypeIs (.ref z) "zip" := ⟨_, hz, rfl⟩
  unfold pyNext
  exact wpAny_bind (wpAny_attempt (wpAny_callSpecial?_slot (name := Str.ofString "__next__") hT F.slot_zip_next
    (wpAny_call_entry F.slot_zip_next hT F.entry_zip_next (strict_item S D1 D2 hz hTI hTO st1 st2 hlt fun x1 x2 h' tk b1 b2 b3 b4 b5 b6 b7 b8 b9 => wpAny_pure (hQ x1 x2 h' tk b1 b2 b3 b4 b5 b6 b7 b8 b9)) (F.args_zip_next_1 _))))
theorem strict_over {Q : Option Value → Shared → Prop} (hh : A.in1.handled = none) (S : ZipSep2 z TI TO i1 i2 fp1 fp2) (D1 : Draws prog w A.in1 i1 fp1 n P1 St1) (D2 : Draws prog w A.in1 i2 fp2 n P2 St2)
    (hz : IsZipS s.heap z TI TO .none) (hTI : IsTupOf2 s.heap TI (.ref i1) (.ref i2)) (hTO : IsTupOf2 s.heap TO a1 a2) (st1 : St1 n s.heap) (st2 : St2 n s.heap)
    (hQ : ∀ h' tk, (∀ c o, c ≠ z → c ≠ TO → c ≠ i1 → c ≠ i2 → s.heap.get? c = some o → h'.get? c = some o) → Q none { s with heap := h', toks := tk }) : wpAny (model prog w) A (pyNext (.ref z)) Q E s := by
  have hT : s.TypeIs (.ref z) "zip" := ⟨_, hz, rfl⟩
  unfold pyNext
  refine wpAny_bind (wpAny_attempt (wpAny_callSpecial?_slot (name := Str.ofString "__next__") hT F.slot_zip_next
    (wpAny_call_entry F.slot_zip_next hT F.entry_zip_next (strict_end hh S D1 D2 hz hTI hTO st1 st2 fun h' tk e hk he => ?_) (F.args_zip_next_1 _))))
  obtain ⟨o, ho, hc⟩ := he
  exact wpAny_bind (wpAny_isInstance (T := "StopIteration") (b := true) ⟨o, ho, hc⟩ stop_sub (wpAny_pure (hQ _ _ hk)))
/-- the five new cells -/
abbrev zsT (h : Heap) (o1 o2 : Obj) : Heap := ((h.push o1).push o2).push { cls := .type "tuple", data := .seq #[.ref h.objs.size, .ref (h.push o1).objs.size] }
abbrev zsO (h : Heap) (o1 o2 : Obj) : Heap := (zsT h o1 o2).push { cls := .type "tuple", data := .seq #[.none, .none] }
abbrev zsZ (h : Heap) (o1 o2 : Obj) : Heap := (zsO h o1 o2).push { cls := .type "zip", data := .fields #[.none, .bool false, .bool true, .ref ((h.push o1).push o2).objs.size, .ref (zsT h o1 o2).objs.size] }
theorem strict_new {v1 v2 : Value} {o1 o2 : Obj} {H1 H2 : Heap → Prop} (B1 : Begins v1 o1 H1) (B2 : Begins v2 o2 H2) :
    Meets (Builtin.«zip.__new__» ⟨[.type "zip", v1, v2], [(Str.ofString "strict", .bool true)]⟩) (fun _ R s => (H1 s.heap ∧ H2 s.heap) ∧ R (.ok (.ret (.ref (zsO s.heap o1 o2).objs.size))) { s with heap := zsZ s.heap o1 o2 }) :=
  .of_wp fun prog w A R s h => by
    obtain ⟨hp, g, d, tk, os⟩ := s
    obtain ⟨⟨h1, h2⟩, h⟩ := h
    have hsub := sub_zip
    have q1 : ∀ {A' : Around} {E : Value → Shared → Prop} {Q : Value → Shared → Prop}, Q (.ref hp.objs.size) ⟨hp.push o1, g, d, tk, os⟩ → wpAny (model prog w) A' (pyIter v1) Q E ⟨hp, g, d, tk, os⟩ :=
      fun q => B1.iter prog w _ _ ⟨hp, g, d, tk, os⟩ _ (B1.keeps _ _ h1 fun b o' e => e) q
    have q2 : ∀ {A' : Around} {E : Value → Shared → Prop} {Q : Value → Shared → Prop}, Q (.ref (hp.push o1).objs.size) ⟨(hp.push o1).push o2, g, d, tk, os⟩ → wpAny (model prog w) A' (pyIter v2) Q E ⟨hp.push o1, g, d, tk, os⟩ :=
      fun q => B2.iter prog w _ _ ⟨hp.push o1, g, d, tk, os⟩ _ (B2.keeps _ _ h2 fun b o' e => Heap.get?_push_of_some _ e) q
    wp_walk using q1, q2
    exact ⟨_, rfl, h⟩
end
theorem zs_type (a b : Value) : checkTypeCall "zip" ⟨[a, b], [(Str.ofString "strict", .bool true)]⟩ = pure () := by kernel_rfl
theorem zs_new (a b : Value) : checkBuiltinCall "zip.__new__" ⟨[.type "zip", a, b], [(Str.ofString "strict", .bool true)]⟩ = pure () := by kernel_rfl
theorem zs_init (o a b : Value) : argsOk "object.__init__" ⟨[o, a, b], [(Str.ofString "strict", .bool true)]⟩ := by unfold argsOk; kernel_rfl
section
variable {prog : Program} {w : World} {A : Around} {E : Value → Shared → Prop} {s : Shared}
theorem strict_begins {v1 v2 : Value} {o1 o2 : Obj} {H1 H2 : Heap → Prop} {Q : Value → Shared → Prop} (B1 : Begins v1 o1 H1) (B2 : Begins v2 o2 H2) (h1 : H1 s.heap) (h2 : H2 s.heap)
    (h : ∀ h', IsZipS h' (s.heap.objs.size + 4) (s.heap.objs.size + 2) (s.heap.objs.size + 3) .none → IsTupOf2 h' (s.heap.objs.size + 2) (.ref s.heap.objs.size) (.ref (s.heap.objs.size + 1)) →
      IsTupOf2 h' (s.heap.objs.size + 3) .none .none → h'.get? s.heap.objs.size = some o1 → h'.get? (s.heap.objs.size + 1) = some o2 → h'.objs.size = s.heap.objs.size + 5 →
      (∀ c o, s.heap.get? c = some o → h'.get? c = some o) → Q (.ref (s.heap.objs.size + 4)) { s with heap := h' }) :
    wpAny (model prog w) A (call (.type "zip") [v1, v2] [(Str.ofString "strict", .bool true)]) Q E s := by
  refine callType_newKw F.called_zip (by decide) (zs_type _ _) (zs_new _ _) (fun obj => zs_init obj _ _) F.entry_zip_new (strict_new B1 B2) ⟨⟨h1, h2⟩, ?_⟩
  have z1 : (s.heap.push o1).objs.size = s.heap.objs.size + 1 := Heap.size_push ..
  have z2 : ((s.heap.push o1).push o2).objs.size = s.heap.objs.size + 2 := by rw [Heap.size_push, z1]
  have z3 : (zsT s.heap o1 o2).objs.size = s.heap.objs.size + 3 := by rw [Heap.size_push, z2]
  have z4 : (zsO s.heap o1 o2).objs.size = s.heap.objs.size + 4 := by rw [Heap.size_push, z3]
  have z5 : (zsZ s.heap o1 o2).objs.size = s.heap.objs.size + 5 := by rw [Heap.size_push, z4]
  have up1 : ∀ (g : Heap) (o : Obj) c u, g.get? c = some u → (g.push o).get? c = some u := fun g o c u e => Heap.get?_push_of_some _ e
  have gZ : (zsZ s.heap o1 o2).get? (zsO s.heap o1 o2).objs.size = some { cls := .type "zip", data := .fields #[.none, .bool false, .bool true, .ref ((s.heap.push o1).push o2).objs.size, .ref (zsT s.heap o1 o2).objs.size] } := Heap.get?_push_size _ rfl
  have gO : (zsZ s.heap o1 o2).get? (zsT s.heap o1 o2).objs.size = some { cls := .type "tuple", data := .seq #[.none, .none] } := up1 _ _ _ _ (Heap.get?_push_size _ rfl)
  have gT : (zsZ s.heap o1 o2).get? ((s.heap.push o1).push o2).objs.size = some { cls := .type "tuple", data := .seq #[.ref s.heap.objs.size, .ref (s.heap.push o1).objs.size] } := up1 _ _ _ _ (up1 _ _ _ _ (Heap.get?_push_size _ rfl))
  have g1 : (zsZ s.heap o1 o2).get? s.heap.objs.size = some o1 := up1 _ _ _ _ (up1 _ _ _ _ (up1 _ _ _ _ (up1 _ _ _ _ (Heap.get?_push_size _ B1.free))))
  have g2 : (zsZ s.heap o1 o2).get? (s.heap.push o1).objs.size = some o2 := up1 _ _ _ _ (up1 _ _ _ _ (up1 _ _ _ _ (Heap.get?_push_size _ B2.free)))
  rw [z4, z3, z2] at gZ
  rw [z3] at gO
  rw [z2, z1] at gT
  rw [z1] at g2
  show _ ∧ _
  rw [z4]
  exact ⟨⟨_, gZ, rfl⟩, h _ gZ gT gO g1 g2 z5 fun c o e => up1 _ _ _ _ (up1 _ _ _ _ (up1 _ _ _ _ (up1 _ _ _ _ (up1 _ _ _ _ e))))⟩
end
/-! ### a type called with keywords -/
section
variable {M : Model} {A : Around} {E : Value → Shared → Prop} {s : Shared} {env : Env}
theorem callWith_typeKw {pos : Pos} {T : String} {e : Expr} {rest : List Expr} {kws : List Keyword} {Q : Value → Shared → Prop}
    (h : wpAny M A (spliced (backTo pos (starEach (e :: rest) env))) (fun vs s₁ => wpAny M A (evalAll ((backToKw pos (keywordEach kws env)).map (·.2)))
      (fun kvs s₂ => wpAny M A (call (.type T) vs (((backToKw pos (keywordEach kws env)).filterMap (·.1)).zip kvs)) Q E s₂) E s₁) E s)
    (he : backTo pos (starEach (e :: rest) env) = (false, eval e env) :: backTo pos (starEach rest env) := by rfl)
    (hplain : (backTo pos (starEach (e :: rest) env)).any (·.1) = false := by rfl)
    (hall : (backToKw pos (keywordEach kws env)).all (·.1.isSome) = true := by rfl)
    (hkw : (backToKw pos (keywordEach kws env)).any (·.1.isNone) = false := by rfl) :
    wpAny M A (callWith pos (.type T) [] (backTo pos (starEach (e :: rest) env)) (backToKw pos (keywordEach kws env))) Q E s := by
  have h' : wpAny M A (evalArgs (.type T) true (backTo pos (starEach (e :: rest) env)) (backToKw pos (keywordEach kws env))) (fun a s₁ => wpAny M A (call (.type T) ([] ++ a.pos) a.kw) Q E s₁) E s := by
    rw [he] at h ⊢
    exact PyProof.Rows.evalArgs_kwB hall h
  unfold callWith
  refine wpAny_bind (wpAny_holding (wpAny_mono h' (fun a s₁ h₁ => wpAny_bind (wpAny_standAt ?_)) fun _ _ x => x))
  simp only [hplain, hkw, Bool.or_false]
  first
    | (refine wpAny_bind (wpAny_pure ?_)
       exact wpAny_bind (wpAny_mono h₁ (fun r s₂ hr => wpAny_bind (wpAny_holding (wpAny_point (wpAny_pure hr)))) fun _ _ x => x))
    | trace_state
end
section
variable {prog : Program} {w : World} {A : Around} {E : Value → Shared → Prop} {s : Shared}
theorem strict_handed {elts : List Expr} {x1 : Nat} {pos : Pos} {z TI TO T : Addr} {Q : Unit → Shared → Prop} (hz : IsZipS s.heap z TI TO (rawInt T))
    (hQ : ∀ h', IsZipS h' z TI TO .none → Heap.SameBut z s.heap h' → Q () { s with heap := h' }) : wpAny (model prog w) A (letOwnedTupleGo (.Tuple elts x1 pos) (.ref z) (.ref T)) Q E s := by
  unfold letOwnedTupleGo
  refine wpAny_bind (wpAny_load hz ?_)
  show wpAny _ _ (ite _ _ _) Q E s
  rw [if_pos (by simp)]
  refine wpAny_bind (wpAny_rule ?_)
  show wpAny _ _ (setField (.ref z) 0 .none) Q E s
  exact wpAny_setField_rec hz (by simp) fun h' a b => hQ h' a b
end
end Z
set_option Elab.async false
set_option linter.all false
set_option maxRecDepth 100000
set_option maxHeartbeats 4000000
/-! Z18: zip(a, b, strict=True) over the layer: lists and tuples of one length. -/
namespace Z
open PySem PySem.Spec PyProof.Rows L2
def SqK (K : PySem.W.Frag) (k : Bool) (H : Hp) (a : Addr) (xs : List V) : Prop := if k then SqT K H a xs else SqL K H a xs
def ItIs (k : Bool) (h : Heap) (it a : Addr) (i : Nat) : Prop := if k then h.IsTupleIter it a i else h.IsListIter it a i
/-- pairs of the items at a and b -/
def ItzS (K : PySem.W.Frag) (ka kb : Bool) (a b : Addr) : It :=
  ⟨fun i H => ∃ (xs ys : List V) (x y : V), SqK K ka H a xs ∧ SqK K kb H b ys ∧ xs.length = ys.length ∧ xs[i]? = some x ∧ ys[i]? = some y,
    fun i H v H' => ∃ T x y, v = .ref T ∧ H T = none ∧ H' = upd H T (.tup [x, y]) ∧ (∀ xs, SqK K ka H a xs → xs[i]? = some x) ∧ ∀ ys, SqK K kb H b ys → ys[i]? = some y,
    fun i H => ∃ xs ys : List V, SqK K ka H a xs ∧ SqK K kb H b ys ∧ xs.length = i ∧ ys.length = i⟩
section
variable {X : Cx} {pins : List (Addr × Obj)} {σ : L2.St} {H : Hp} {s : Shared}
/-- the sequence at a, drawn from -/
theorem draws_of {k : Bool} {it a : Addr} {xs : List V} (I : Inv X pins σ H s) (hh : X.A.in1.handled = none) (hne : a ≠ it) (hq : SqK X.K k H a xs) :
    ∃ (its : List Value) (St : Nat → Heap → Prop), Vals xs its ∧ Draws X.prog X.w X.A.in1 it [it, a] xs.length (fun i v => its[i]? = some v) St ∧ (∀ i, ItIs k s.heap it a i → St i s.heap) ∧ (∀ i h, St i h → ItIs k h it a i) ∧
      (∀ xs', SqK X.K k H a xs' → xs' = xs) := by
  cases k with
  | true =>
    obtain ⟨its, rv, p, hz⟩ := I.tuple (show SqT X.K H a xs from hq)
    have D := Draws.tuple (prog := X.prog) (w := X.w) (A := X.A.in1) hh it a hne its.toArray
    refine ⟨its, fun i h => h.IsTupleIter it a i ∧ h.IsTuple a its.toArray, rv, ?_, fun i h => ⟨h, p⟩, fun i h st => st.1, fun xs' h' => I.tuple_inj h' hq⟩
    have e : its.toArray.size = xs.length := by rw [List.size_toArray, rv.length]
    rw [e] at D
    simpa using D
  | false =>
    obtain ⟨its, rv, p, hz⟩ := I.list (show SqL X.K H a xs from hq)
    have D := Draws.list (prog := X.prog) (w := X.w) (A := X.A.in1) hh it a hne its.toArray
    refine ⟨its, fun i h => h.IsListIter it a i ∧ h.IsList a its.toArray, rv, ?_, fun i h => ⟨h, p.isList⟩, fun i h st => st.1, fun xs' h' => I.list_inj h' hq⟩
    have e : its.toArray.size = xs.length := by rw [List.size_toArray, rv.length]
    rw [e] at D
    simpa using D
theorem ItIs.at {k : Bool} {h h' : Heap} {it a : Addr} {i : Nat} (x : ItIs k h it a i) (e : ∀ o, h.get? it = some o → h'.get? it = some o) : ItIs k h' it a i := by
  cases k with
  | true => exact Heap.IsTupleIter.at x e
  | false => exact Heap.IsListIter.at x e
theorem ItIs.obj {k : Bool} {h : Heap} {it a : Addr} {i : Nat} (x : ItIs k h it a i) : ∃ o, h.get? it = some o ∧ ∀ v, o.data ≠ .cell v := by
  cases k with
  | true => obtain ⟨o, e, _, d⟩ := x; exact ⟨o, e, fun v q => by rw [d] at q; cases q⟩
  | false => obtain ⟨o, e, _, d⟩ := x; exact ⟨o, e, fun v q => by rw [d] at q; cases q⟩
theorem sep_of {z TI TO i1 i2 a b : Addr} (D : ZipApart z TI TO i1 i2 a b) : ZipSep2 z TI TO i1 i2 [i1, a] [i2, b] where
  TIz := D.TIz
  TOz := D.TOz
  TITO := D.TITO
  TIi1 := D.TIi1
  mem1 := by simp
  zf1 := by simp only [List.mem_cons, List.not_mem_nil, or_false, not_or]; exact ⟨D.i1z.symm, D.l1z.symm⟩
  Tf1 := by simp only [List.mem_cons, List.not_mem_nil, or_false, not_or]; exact ⟨D.TOi1, D.l1TO.symm⟩
  TIi2 := D.TIi2
  mem2 := by simp
  zf2 := by simp only [List.mem_cons, List.not_mem_nil, or_false, not_or]; exact ⟨D.i2z.symm, D.l2z.symm⟩
  Tf2 := by simp only [List.mem_cons, List.not_mem_nil, or_false, not_or]; exact ⟨D.TOi2, D.l2TO.symm⟩
  sep1_2 := by simp only [List.mem_cons, List.not_mem_nil, or_false, not_or]; exact ⟨D.i12, D.l2i1.symm⟩
  sep2_1 := by simp only [List.mem_cons, List.not_mem_nil, or_false, not_or]; exact ⟨D.i12.symm, D.l1i2.symm⟩
end
theorem turn_strict {P : Program} {w : World} {K : PySem.W.Frag} {elts : List Expr} {kk : Nat} {tpos : Pos} {ka kb : Bool} {a b z TI TO i1 i2 : Addr} (D : ZipApart z TI TO i1 i2 a b) :
    Turn P w K (.Tuple elts kk tpos) (ItzS K ka kb a b) [z, TI, TO, i1, i2] z (fun i h => IsZipS h z TI TO .none ∧ IsTupOf2 h TI (.ref i1) (.ref i2) ∧ (∃ x y, IsTupOf2 h TO x y) ∧ ItIs ka h i1 a i ∧ ItIs kb h i2 b i) where
  mem := by simp
  obj := fun i h st c hc => by
    obtain ⟨hz, hTI, ⟨x, y, hTO⟩, h1, h2⟩ := st
    have e' : c = z ∨ c = TI ∨ c = TO ∨ c = i1 ∨ c = i2 := by simpa using hc
    rcases e' with rfl | rfl | rfl | rfl | rfl
    · exact ⟨_, hz, fun v q => nomatch q⟩
    · exact ⟨_, hTI, fun v q => nomatch q⟩
    · exact ⟨_, hTO, fun v q => nomatch q⟩
    · exact h1.obj
    · exact h2.obj
  keep := fun i h h' st k => by
    obtain ⟨hz, hTI, ⟨x, y, hTO⟩, h1, h2⟩ := st
    exact ⟨k z (by simp) _ hz, k TI (by simp) _ hTI, ⟨x, y, k TO (by simp) _ hTO⟩, h1.at fun o q => k i1 (by simp) o q, h2.at fun o q => k i2 (by simp) o q⟩
  item := by
    intro X hP hw hK hc i pins s σ H E I hf st hg
    subst hP hw hK
    obtain ⟨hz, hTI, ⟨x0, y0, hTO⟩, h1, h2⟩ := st
    obtain ⟨xs, ys, x, y, hqx, hqy, hl, hx, hy⟩ := hg
    have hd : X.A.in1.handled = none := I.ok.hd hc
    obtain ⟨its, St1, rv1, D1, s1, t1, u1⟩ := draws_of (it := i1) I hd D.l1i1 hqx
    obtain ⟨jts, St2, rv2, D2, s2, t2, u2⟩ := draws_of (it := i2) I hd D.l2i2 hqy
    rw [← hl] at D2
    have hi : i < xs.length := (List.getElem?_eq_some_iff.mp hx).1
    have hzl : z < s.heap.objs.size := Heap.lt_size hz
    refine strict_next (sep_of D) D1 D2 hz hTI hTO (s1 i h1) (s2 i h2) hi fun v1 v2 h' tk e1 e2 z' TO' st1' st2' hT hsz hk => ?_
    refine ⟨_, rfl, strict_handed (s := { s with heap := h', toks := tk }) z' fun h'' z'' sb => ?_⟩
    have hT2 : h''.get? s.heap.objs.size = some { cls := .type "tuple", data := .seq #[v1, v2] } := (sb.2 _ (Nat.ne_of_gt hzl)).trans hT
    obtain ⟨w1, k1, r1⟩ := rv1.get hx
    obtain ⟨w2, k2, r2⟩ := rv2.get hy
    rw [e1] at k1
    rw [e2] at k2
    cases k1
    cases k2
    have new : ObjOk X.prog X.w (upd H s.heap.objs.size (.tup [x, y])) h'' s.heap.objs.size (.tup [x, y]) :=
      ⟨lim_ok (show 2 ≤ 10000000 by decide), [v1, v2], .cons r1 (.cons r2 .nil), ⟨_, hT2, rfl, _, rfl⟩⟩
    have I1 : Inv X pins σ (upd H s.heap.objs.size (.tup [x, y])) { s with heap := h'', toks := tk } :=
      I.turnedNew (t' := tk) (ch := [z, TI, TO, i1, i2]) (fun c o hb q => (sb.2 c fun q' => hb (by simp [q'])).trans (hk c o (fun q' => hb (by simp [q'])) (fun q' => hb (by simp [q'])) (fun q' => hb (by simp [q'])) (fun q' => hb (by simp [q'])) q)) hf (Nat.le_refl _) new
    refine ⟨.ref s.heap.objs.size, _, I1, rfl, ⟨_, x, y, rfl, I.hok.fresh (Nat.le_refl _), rfl, fun l hl' => by rw [u1 l hl']; exact hx, fun l hl' => by rw [u2 l hl']; exact hy⟩, ⟨z'', (sb.2 _ D.TIz).trans (hk _ _ D.TIz D.TITO D.TIi1 D.TIi2 hTI), ⟨v1, v2, (sb.2 _ D.TOz).trans TO'⟩, (t1 _ _ st1').at fun o q => (sb.2 _ D.i1z).trans q, (t2 _ _ st2').at fun o q => (sb.2 _ D.i2z).trans q⟩, fun c hcm => ?_⟩
    have hlt : c < s.heap.objs.size := by
      have e' : c = z ∨ c = TI ∨ c = TO ∨ c = i1 ∨ c = i2 := by simpa using hcm
      rcases e' with q | q | q | q | q
      · rw [q]; exact hzl
      · rw [q]; exact Heap.lt_size hTI
      · rw [q]; exact Heap.lt_size hTO
      · rw [q]; obtain ⟨_, e, _⟩ := h1.obj; exact Heap.lt_size e
      · rw [q]; obtain ⟨_, e, _⟩ := h2.obj; exact Heap.lt_size e
    rw [upd_ne (Nat.ne_of_lt hlt)]
    exact (hf c hcm).1
  done := by
    intro X hP hw hK hc i pins s σ H E I hf st hg
    subst hP hw hK
    obtain ⟨hz, hTI, ⟨x0, y0, hTO⟩, h1, h2⟩ := st
    obtain ⟨xs, ys, hqx, hqy, lx, ly⟩ := hg
    have hd : X.A.in1.handled = none := I.ok.hd hc
    obtain ⟨its, St1, rv1, D1, s1, t1, u1⟩ := draws_of (it := i1) I hd D.l1i1 hqx
    obtain ⟨jts, St2, rv2, D2, s2, t2, u2⟩ := draws_of (it := i2) I hd D.l2i2 hqy
    rw [ly, ← lx] at D2
    subst lx
    refine strict_over hd (sep_of D) D1 D2 hz hTI hTO (s1 _ h1) (s2 _ h2) fun h' tk hk => ⟨rfl, I.turnedL (t' := tk) (ch := [z, TI, TO, i1, i2]) (fun c o hb q =>
      hk c o (fun q' => hb (by simp [q'])) (fun q' => hb (by simp [q'])) (fun q' => hb (by simp [q'])) (fun q' => hb (by simp [q'])) q) hf⟩
  self := fun A i s Q E st h => by
    have hT : s.TypeIs (.ref z) "zip" := ⟨_, st.1, rfl⟩
    refine wpAny_pyIter_slot hT F.slot_zip_iter (wpAny_call_entry F.slot_zip_iter hT F.entry_zip_iter ?_ (F.args_zip_iter_1 _))
    show wpAny _ _ (ret (.ref z)) _ _ s
    exact wpAny_pure ⟨_, rfl, "zip", _, hT, F.slot_zip_next.lookup, h⟩
section
variable {X : Cx} {pins : List (Addr × Obj)} {σ : L2.St} {H : Hp} {s : Shared}
theorem begins_of {k : Bool} {a : Addr} {xs : List V} (I : Inv X pins σ H s) (hq : SqK X.K k H a xs) : a < s.heap.objs.size ∧ ∃ (o : Obj) (Hd : Heap → Prop), Begins (.ref a) o Hd ∧ Hd s.heap ∧ ∀ (h : Heap) (it : Addr), h.get? it = some o → ItIs k h it a 0 := by
  cases k with
  | true =>
    obtain ⟨its, rv, p, hz⟩ := I.tuple (show SqT X.K H a xs from hq)
    have tup : s.heap.IsTuple a its.toArray := p
    exact ⟨by obtain ⟨o, ho, _⟩ := tup; exact Heap.lt_size ho, _, _, begins_tuple a its.toArray, tup, fun h it e => ⟨_, e, rfl, rfl⟩⟩
  | false =>
    obtain ⟨its, rv, p, hz⟩ := I.list (show SqL X.K H a xs from hq)
    have lst : s.heap.IsList a its.toArray := p.isList
    exact ⟨by obtain ⟨o, ho, _⟩ := lst; exact Heap.lt_size ho, _, _, begins_list a its.toArray, lst, fun h it e => ⟨_, e, rfl, rfl⟩⟩
end
/-- zip(a, b, strict=True) -/
def iZipS (K : PySem.W.Frag) (ta tk : TA) : TI := fun σ H R => ta σ H fun vs H1 => tk σ H1 fun zs H2 => zs = [.bl true] ∧ ∃ a b ka kb xs ys, vs = [.ref a, .ref b] ∧ SqK K ka H2 a xs ∧ SqK K kb H2 b ys ∧ R (ItzS K ka kb a b) H2
theorem pi_zipS {X : Cx} {e e2 : Expr} {kws : List Keyword} {ta tk : TA} {p pos tpos : Pos} {elts : List Expr} {kk : Nat} (hg : Gl X "zip") (hm : X.mg "zip" = none) (ha : PA X [e, e2] ta) (hk : PK X kws tk)
    (he : backTo pos (starEach [e, e2] X.env) = (false, eval e X.env) :: backTo pos (starEach [e2] X.env) := by rfl) (hpl : (backTo pos (starEach [e, e2] X.env)).any (·.1) = false := by rfl)
    (hall : (backToKw pos (keywordEach kws X.env)).all (·.1.isSome) = true := by rfl) (hnone : (backToKw pos (keywordEach kws X.env)).any (·.1.isNone) = false := by rfl) (hks : (backToKw pos (keywordEach kws X.env)).filterMap (·.1) = [Str.ofString "strict"] := by rfl) :
    PI X (.Tuple elts kk tpos) (.Call (.Name "zip" p) [e, e2] kws pos) (iZipS X.K ta tk) := ⟨fun pins s σ H R I h => by
  refine wpAny_Call_Name_kw (ld_blt I hg hm PyProof.Rows.boot_zip ?_)
  refine callWith_typeKw (thn (ha.run pos pins s σ H _ I h) fun us s1 w1 => ?_) he hpl hall hnone
  obtain ⟨vs, H1, I1, r1, q1⟩ := w1
  refine thn (hk.run pos pins s1 σ H1 _ I1 q1) fun ws s2 w2 => ?_
  obtain ⟨zs, H2, I2, r2, rfl, a, b, ka, kb, xs, ys, rfl, hqx, hqy, q⟩ := w2
  rw [hks]
  obtain ⟨u, rfl, ru⟩ := vals1 r2
  cases ru
  obtain ⟨u1, u2, rfl, ru1, ru2⟩ := vals2 r1
  cases ru1
  cases ru2
  obtain ⟨la, o1, Hd1, B1, hb1, it1⟩ := begins_of I2 hqx
  obtain ⟨lb, o2, Hd2, B2, hb2, it2⟩ := begins_of I2 hqy
  refine strict_begins B1 B2 hb1 hb2 fun h' hz hTI hTO g1 g2 hsz hkeep => ?_
  have J : Inv X pins σ H2 { s2 with heap := h' } := I2.kept (t' := s2.toks) hkeep
  have T : Turn X.prog X.w X.K (.Tuple elts kk tpos) (ItzS X.K ka kb a b) _ (s2.heap.objs.size + 4) _ := turn_strict (PySem.W.ktu_apart s2.heap.objs.size a b la lb)
  refine T.self _ 0 _ _ _ ⟨hz, hTI, ⟨_, _, hTO⟩, it1 _ _ g1, it2 _ _ g2⟩ ?_
  exact ⟨s2.heap.objs.size + 4, _, _, _, H2, rfl, J, T, ⟨hz, hTI, ⟨_, _, hTO⟩, it1 _ _ g1, it2 _ _ g2⟩, fun c hcm => by
    have e' : c = s2.heap.objs.size + 4 ∨ c = s2.heap.objs.size + 2 ∨ c = s2.heap.objs.size + 3 ∨ c = s2.heap.objs.size ∨ c = s2.heap.objs.size + 1 := by simpa using hcm
    have hle : s2.heap.objs.size ≤ c := by
      rcases e' with z | z | z | z | z <;> rw [z] <;> first | exact Nat.le_refl _ | exact Nat.le_add_right _ _
    exact I2.fpOk hle (I2.hok.fresh hle), q⟩⟩
section
variable {K : PySem.W.Frag} {S : Option (Addr × Addr)}
def dZipS (ms : DMs) : DMs := fun ρ R => ms ρ fun ds => match ds with
  | [.list xs, .list ys] => xs.length = ys.length ∧ R (zipD xs ys)
  | [.tuple xs, .tuple ys] => xs.length = ys.length ∧ R (zipD xs ys)
  | [.list xs, .tuple ys] => xs.length = ys.length ∧ R (zipD xs ys)
  | [.tuple xs, .list ys] => xs.length = ys.length ∧ R (zipD xs ys)
  | _ => False
theorem walk_strict {ka kb : Bool} {a b : Addr} {xs ys : List V} (hl : xs.length = ys.length) : Walk (ItzS K ka kb a b) (min xs.length ys.length) (fun H => SqK K ka H a xs ∧ SqK K kb H b ys) (YPair (fun i => xs[i]?) (fun i => ys[i]?)) where
  goes := fun i H hi h => ⟨xs, ys, xs[i]'(by omega), ys[i]'(by omega), h.1, h.2, hl, List.getElem?_eq_getElem _, List.getElem?_eq_getElem _⟩
  stops := fun H h => ⟨xs, ys, h.1, h.2, by omega, by omega⟩
  yields := fun i H v H' _ h y => by
    obtain ⟨T, x, y, e1, e2, e3, e4, e5⟩ := y
    exact ⟨T, x, y, e1, e2, e3, e4 xs h.1, e5 ys h.2⟩
end
end Z
set_option Elab.async false
set_option linter.all false
set_option maxRecDepth 100000
set_option maxHeartbeats 4000000
/-! Z19: x[i] = e, x an own list. -/
namespace Z
open PySem PySem.Spec PyProof.Rows L2
section
variable {K : PySem.W.Frag} {S : Option (Addr × Addr)}
theorem Rps.set {c : Zc} {H : Hp} {y : D} {w : V} {fp : List Addr} (hw : Rp c H y w fp) : ∀ {ds : List D} {xs : List V} {gp : List Addr} {j : Nat}, Rps c H ds xs gp → j < ds.length →
    ∃ gp', Rps c H (ds.set j y) (xs.set j w) gp' ∧ (∀ b ∈ gp', b ∈ gp ∨ b ∈ fp) ∧ (gp.Nodup → fp.Nodup → (∀ b ∈ gp, b ∉ fp) → gp'.Nodup)
  | [], _, _, _, _, hj => absurd hj (Nat.not_lt_zero _)
  | d :: ds, xs, gp, 0, h, _ => by
    simp only [Rps] at h
    obtain ⟨x, ys, f1, f2, rfl, rfl, h1, h2⟩ := h
    refine ⟨fp ++ f2, .cons hw h2, fun b hb => ?_, fun n1 n2 n3 => ?_⟩
    · rcases List.mem_append.mp hb with z | z
      · exact .inr z
      · exact .inl (List.mem_append_right _ z)
    · exact List.nodup_append.mpr ⟨n2, (List.nodup_append.mp n1).2.1, fun a ha b hb e => n3 b (List.mem_append_right _ hb) (e ▸ ha)⟩
  | d :: ds, xs, gp, j + 1, h, hj => by
    simp only [Rps] at h
    obtain ⟨x, ys, f1, f2, rfl, rfl, h1, h2⟩ := h
    obtain ⟨g', k1, k2, k3⟩ := Rps.set hw (j := j) h2 (by simpa using hj)
    refine ⟨f1 ++ g', .cons h1 k1, fun b hb => ?_, fun n1 n2 n3 => ?_⟩
    · rcases List.mem_append.mp hb with z | z
      · exact .inl (List.mem_append_left _ z)
      · rcases k2 b z with z | z
        · exact .inl (List.mem_append_right _ z)
        · exact .inr z
    · obtain ⟨m1, m2, m3⟩ := List.nodup_append.mp n1
      refine List.nodup_append.mpr ⟨m1, k3 m2 n2 fun b hb => n3 b (List.mem_append_right _ hb), fun a ha b hb e => ?_⟩
      subst e
      rcases k2 a hb with z | z
      · exact m3 a ha a z rfl
      · exact n3 a (List.mem_append_left _ ha) z
/-- x[i] = e -/
def sSetI (i : Nat) (mi me : DM) : DMS := fun ρ R => me ρ fun y => ownL ρ[i]? fun ds => mi ρ fun d => asI d fun k => ∃ j, ixN ds.length k = some j ∧ j < ds.length ∧ R.nx (ρ.set i (.own (.list (ds.set j y))))
theorem ixN_nat {n j : Nat} (h : j < n) : ixN n ((j : Nat) : Int) = some j := by
  unfold ixN
  rw [if_pos (by omega), if_pos (by omega)]
  rfl
end
end Z
set_option Elab.async false
set_option linter.all false
set_option maxRecDepth 100000
set_option maxHeartbeats 4000000
/-! Z20: sum of a tuple, tuple(range), stars in displays, all, any. -/
namespace Z
open PySem PySem.Spec PyProof.Rows L2
/-! ### sum -/
def rSumA (K : PySem.W.Frag) : List V → Hp → VK → Prop := fun vs H Q => ∃ (a : Addr) (ns : List Int), vs = [V.ref a] ∧ (SqL K H a (ns.map V.int) ∨ SqT K H a (ns.map V.int)) ∧ Q (.int ns.sum) H
theorem cr_sumA {X : Cx} (hc : X.calm = true) : CallR X (.builtin "sum") (rSumA X.K) := fun pins s σ H vs us Q I r h => by
  obtain ⟨a, ns, rfl, hs, q⟩ := h
  rcases hs with hs | hs
  · exact cr_sum hc pins s σ H _ us Q I r ⟨a, ns, rfl, hs, q⟩
  · obtain ⟨its, rv, ht, _⟩ := I.tuple hs
    rw [Vals.ref1 r]
    have ht' : s.heap.IsTuple a its.toArray := ht
    obtain ⟨xs, e⟩ := rv.ints.allInts.items
    have hn : numsOf (intItems xs).toList = ns := by rw [← e]; exact rv.ints.numsOf
    rw [nums_intItems] at hn
    rw [e] at ht'
    refine PySem.W.ktm_sumG (I.ok.hd hc) ht' fun h' tk t' hk => ?_
    rw [preSum_eq, List.take_of_length_le (by simp), hn]
    exact ⟨.int _, H, I.kept hk, ⟨_, rfl⟩, q⟩
/-! ### tuple(range) -/
section
variable {K : PySem.W.Frag} {S : Option (Addr × Addr)}
/-- sum of a list, a tuple of ints -/
def fSumA : List D → (D → Prop) → Prop := fun ds R => match ds with
  | [.list xs] => ∃ ns : List Int, xs = ns.map .int ∧ R (.int ns.sum)
  | [.tuple xs] => ∃ ns : List Int, xs = ns.map .int ∧ R (.int ns.sum)
  | _ => False
theorem cd_sumA : CallD K S (rSumA K) fSumA := .pure fun H xs ds fp r R hf Q q => by
  unfold fSumA at hf
  split at hf
  · obtain ⟨ns, rfl, hR⟩ := hf
    obtain ⟨x, rfl, rx⟩ := rps_one r
    simp only [Rp] at rx
    obtain ⟨a, ys, gp, rfl, rfl, h1, h2⟩ := rx
    obtain ⟨rfl, rfl⟩ := rps_ints h2
    exact ⟨a, ns, rfl, .inl (.of h1), q _ _ hR int_rp⟩
  · obtain ⟨ns, rfl, hR⟩ := hf
    obtain ⟨x, rfl, rx⟩ := rps_one r
    simp only [Rp] at rx
    obtain ⟨a, ys, rfl, h1, h2⟩ := rx
    obtain ⟨rfl, rfl⟩ := rps_ints h2
    exact ⟨a, ns, rfl, .inr h1.t, q _ _ hR int_rp⟩
  · exact hf.elim
def dTupRg (m : DM) : DM := fun ρ R => m ρ fun d => asI d fun j => (-1000000000 ≤ j ∧ j ≤ 10000000) ∧ R (.tuple (rangeD 0 j.toNat 1))
/-! ### *e in a display -/
def asSeq (d : D) (k : List D → Prop) : Prop := match d with
  | .list xs => k xs
  | .tuple xs => k xs
  | _ => False
def dStar (m : DM) (ms : DMs) : DMs := fun ρ R => m ρ fun d => asSeq d fun xs => ms ρ fun ds => R (xs ++ ds)
/-! ### all, any -/
def fAll : List D → (D → Prop) → Prop := fun ds R => match ds with
  | [.list xs] => ∃ bs : List Bool, xs = bs.map .bool ∧ R (.bool (bs.all id))
  | _ => False
def fAny : List D → (D → Prop) → Prop := fun ds R => match ds with
  | [.list xs] => ∃ bs : List Bool, xs = bs.map .bool ∧ R (.bool (bs.any id))
  | _ => False
/-! ### three at once -/
def sPar3 (i j l : Nat) (ms : DMs) : DMS := fun ρ R => ms ρ fun ds => match ds with
  | [x, y, z] => R.nx (((ρ.set i (.own x)).set j (.own y)).set l (.own z))
  | _ => False
end
end Z
set_option Elab.async false
set_option linter.all false
set_option maxRecDepth 100000
set_option maxHeartbeats 4000000
/-! Z21: isinstance, list + list of any data. -/
namespace Z
open PySem PySem.Spec PyProof.Rows L2
def isInt : D → Bool
  | .int _ => true
  | .bool _ => true
  | _ => false
def isBool : D → Bool
  | .bool _ => true
  | _ => false
def isStr : D → Bool
  | .str _ => true
  | _ => false
def isTuple : D → Bool
  | .tuple _ => true
  | _ => false
def isList : D → Bool
  | .list _ => true
  | .dict kvs => isFrz kvs
  | _ => false
def isDict : D → Bool
  | .dict kvs => !isFrz kvs
  | _ => false
section
variable {K : PySem.W.Frag} {S : Option (Addr × Addr)}
/-- no dict whose keys are tuples -/
def noFrz : D → Prop
  | .dict kvs => isFrz kvs = true ∨ (kvs.all fun p => !isTuple p.1) = true
  | _ => True
def fIsi (f : D → Bool) (d : D) (R : D → Prop) : Prop := match d with
  | .dict kvs => (isFrz kvs = true ∨ (kvs.all fun p => !isTuple p.1) = true) ∧ R (.bool (f (.dict kvs)))
  | .none => R (.bool (f .none))
  | .bool b => R (.bool (f (.bool b)))
  | .int i => R (.bool (f (.int i)))
  | .str x => R (.bool (f (.str x)))
  | .list ds => R (.bool (f (.list ds)))
  | .tuple ds => R (.bool (f (.tuple ds)))
def dIsi (f : D → Bool) (m : DM) : DM := fun ρ R => m ρ fun d => fIsi f d R
/-! ### list + list, whatever they hold -/
def dAddN (ma mb : DM) : DM := fun ρ R => ma ρ fun x => mb ρ fun y => match x with
  | .list a => match y with
    | .list b => a.length + b.length ≤ 10000000 ∧ R (.list (a ++ b))
    | _ => False
  | _ => False
end
end Z
set_option Elab.async false
set_option linter.all false
set_option maxRecDepth 100000
set_option maxHeartbeats 4000000
/-! Z22: dict(pairs) whose keys are tuples of ints: sorted of it, how many keys. -/
namespace Z
open PySem PySem.Spec PyProof.Rows L2
/-! ### the dict -/
/-- a dict with such keys, in this sequence -/
def KdO (a : Addr) (ks : List Value) : HO := .ext fun h => (a == sysModules) = false ∧ ks.length ≤ 10000000 ∧ ∃ es ep, h.DictRaw a es ep ∧ es.toList.map (·.key) = ks
/-! ### sorted of it, its length -/
theorem KdO.ok {X : Cx} {pins : List (Addr × Obj)} {s : Shared} {σ : L2.St} {H : Hp} (I : Inv X pins σ H s) {p : Addr} {ks : List Value} (h : H p = some (KdO p ks)) : (p == sysModules) = false ∧ ks.length ≤ 10000000 ∧ ∃ es ep, s.heap.DictRaw p es ep ∧ es.toList.map (·.key) = ks :=
  (show ObjOk X.prog X.w H s.heap p (KdO p ks) from I.hok p _ h).1
/-! ### over data -/
section
variable {K : PySem.W.Frag} {S : Option (Addr × Addr)}
/-- a list of pairs whose first ones are tuples of ints -/
def asPairs (d : D) (k : List (List Int) → Prop) : Prop := match d with
  | .list ps => ∃ qs : List (List Int × D), ps = qs.map (fun q => .tuple [tI q.1, q.2]) ∧ (∀ q ∈ qs, solid q.2 = true) ∧ qs.length ≤ 10000000 ∧ ∀ ks : List (List Int), ks.Nodup → (∀ n, n ∈ ks ↔ n ∈ qs.map (·.1)) → k ks
  | _ => False
def dSortDict (m : DM) : DM := fun ρ R => m ρ fun d => asPairs d fun ks => SortOk (ks.map tI) ∧ R (.list (sortD false (ks.map tI)))
def dLenDict (m : DM) : DM := fun ρ R => m ρ fun d => asPairs d fun ks => R (.int ((ks.length : Nat) : Int))
end
/-! ### max of a list, a tuple -/
section
variable {K : PySem.W.Frag} {S : Option (Addr × Addr)}
def fMaxA : List D → (D → Prop) → Prop := fun ds R => match ds with
  | [.list xs] => ∃ ns : List Int, xs = ns.map .int ∧ 0 < ns.length ∧ ∀ m, m ∈ ns → (∀ y, y ∈ ns → y ≤ m) → R (.int m)
  | [.tuple xs] => ∃ ns : List Int, xs = ns.map .int ∧ 0 < ns.length ∧ ∀ m, m ∈ ns → (∀ y, y ∈ ns → y ≤ m) → R (.int m)
  | _ => False
end
end Z
set_option Elab.async false
set_option linter.all false
set_option maxRecDepth 100000
set_option maxHeartbeats 4000000
/-! Z23: xs[::-1] of lists and tuples. -/
namespace Z
open PySem PySem.Spec PyProof.Rows L2
section
variable {K : PySem.W.Frag} {S : Option (Addr × Addr)}
def fRev (d : D) (R : D → Prop) : Prop := match d with
  | .list ds => solids ds = true ∧ R (.list ds.reverse)
  | .tuple ds => solids ds = true ∧ R (.tuple ds.reverse)
  | _ => False
def dRev (m : DM) : DM := fun ρ R => m ρ fun d => fRev d R
end
end Z
set_option Elab.async false
set_option linter.all false
set_option maxRecDepth 100000
set_option maxHeartbeats 4000000
/-! Z24: dicts whose keys are ints and whose values are noughts: {}, d.update(dict(pairs)), len(d). -/
namespace Z
open PySem PySem.Spec PyProof.Rows L2
def d0D (ks : List Int) : D := .dict (ks.map fun k => (.int k, .int 0))
/-! ### d.update(e) -/
/-! ### len(d) -/
section
variable {K : PySem.W.Frag} {S : Option (Addr × Addr)}
def d0New : DM := fun _ R => R (d0D [])
/-- a list of pairs (int, nought) -/
def pairs0 (ns : List Int) : D := .list (ns.map fun k => .tuple [.int k, .int 0])
/-- the slot holds a dict of noughts -/
def own0 (s : Option Sl) (k : List Int → Prop) : Prop := ∃ ks, s = some (.own (d0D ks)) ∧ k ks
def sUpd0 (i : Nat) (m : DM) : DMS := fun ρ R => own0 ρ[i]? fun ks => m ρ fun d => ∃ ns : List Int, d = pairs0 ns ∧ ks.length + ns.length ≤ 10000000 ∧ ∀ us : List Int, us.Nodup → (∀ x, x ∈ us ↔ x ∈ ks ∨ x ∈ ns) → us.length ≤ ks.length + ns.length → R.nx (ρ.set i (.own (d0D us)))
/-- len(d), d of noughts -/
def dLen0 (m : DM) : DM := fun ρ R => m ρ fun d => ∃ ks : List Int, d = d0D ks ∧ R (.int ((ks.length : Nat) : Int))
end
end Z
set_option Elab.async false
set_option linter.all false
set_option maxRecDepth 100000
set_option maxHeartbeats 4000000
/-! Z25: lists that never change any more. -/
namespace Z
open PySem PySem.Spec PyProof.Rows L2
def tFrz (te : TE) : TE := fun σ H Q => te σ H fun v H1 => ∃ a xs, v = .ref a ∧ H1 a = some (.lst xs) ∧ ∀ o, Q v (upd H1 a (.frz o (.lst xs)))
theorem pe_frz {X : Cx} {e : Expr} {te : TE} (h : PE X e te) : PE X e (tFrz te) := ⟨fun pins s σ H Q I w => by
  refine thn (h.run pins s σ H _ I w) fun u s1 ⟨x, H1, I1, r1, a, xs, ex, ha, q⟩ => ?_
  subst ex
  obtain ⟨z, its, n, r, hl, e⟩ := I1.lstM ha
  refine ⟨.ref a, _, Inv.write (x := a) (e := a) (o := .frz { cls := .type "list", data := .seq its.toArray n } (.lst xs)) (h' := s1.heap) (t' := s1.toks) I1 (by rw [ha]; exact True.intro) (.inl rfl) (fun b u _ k => k) ⟨_, e⟩ ⟨e, z, its, n, r, e⟩, r1, q _⟩⟩
section
variable {K : PySem.W.Frag} {S : Option (Addr × Addr)}
def fFrz (d : D) (R : D → Prop) : Prop := match d with
  | .list ds => solids ds = true ∧ R (frzD ds)
  | _ => False
def dFrz (m : DM) : DM := fun ρ R => m ρ fun d => fFrz d R
theorem frz_tk {H : Hp} {a : Addr} {xs : List V} {o : HO} (h : H a = some (.lst xs)) : Tk H (upd H a o) := fun b u hu hf => by
  rw [upd_ne fun z => by rw [z, h] at hu; cases hu; exact hf]
  exact hu
theorem de_frz {te : TE} {m : DM} (h : DE K S te m []) : DE K S (tFrz te) (dFrz m) [] := fun G H ρ σ fps E R hm Q q =>
  h G H ρ σ fps E _ hm _ fun d v H1 fp hR e1 s1 r1 n1 f1 => by
    cases d with
    | list ds =>
      simp only [Rp] at r1
      obtain ⟨a, xs, gp, rfl, rfl, ha, hv⟩ := r1
      have z := hv.solid _ _ _ hR.1
      subst z
      have hn : H a = none := f1.off a (List.mem_cons_self ..)
      refine ⟨a, xs, rfl, ha, fun o => q _ _ _ [] hR.2 (fun b u hb nb => ?_) (s1.own (n1 a (List.mem_cons_self ..))) (rp_frz.mpr ⟨a, xs, rfl, rfl, ⟨o, upd_same⟩, hv.mono (frz_tk ha) _ _ _ fun b hb => by cases hb⟩) (fun b hb => by cases hb) (.fresh (fun b hb => by cases hb) List.nodup_nil)⟩
      rw [upd_ne fun z => by rw [z, hn] at hb; cases hb]
      exact e1 b u hb nb
    | _ => exact False.elim hR
/-! ### reads -/
theorem sql_frz {K : PySem.W.Frag} {H : Hp} {a : Addr} {xs : List V} (h : ∃ o, H a = some (.frz o (.lst xs))) : SqL K H a xs := .inl (.inr h)
/-- x[i] -/
def fIxF (x y : D) (R : D → Prop) : Prop := match x with
  | .dict kvs => asI y fun i => ∃ ds d, .dict kvs = frzD ds ∧ atI ds i = some d ∧ R d
  | .none => fIx .none y R
  | .bool b => fIx (.bool b) y R
  | .int i => fIx (.int i) y R
  | .str s => fIx (.str s) y R
  | .list ds => fIx (.list ds) y R
  | .tuple ds => fIx (.tuple ds) y R
theorem fIxF_frz {ds : List D} {i : Int} {d : D} {R : D → Prop} (h : atI ds i = some d) (k : R d) : fIxF (frzD ds) (.int i) R := ⟨ds, d, rfl, h, k⟩
theorem fIxF_tup {ds : List D} {y : D} {R : D → Prop} : fIxF (.tuple ds) y R = fIx (.tuple ds) y R := rfl
theorem fIxF_list {ds : List D} {y : D} {R : D → Prop} : fIxF (.list ds) y R = fIx (.list ds) y R := rfl
theorem oa_ixF : OpA K S (rIx K) fIxF := fun H x y d e f1 f2 s r1 n1 r2 n2 R hf Q q => by
  cases d with
  | dict kvs =>
    obtain ⟨i, rfl, hf⟩ := asI_ok hf
    have ey := rp_int r2
    subst ey
    obtain ⟨ds, z, e, hz, hR⟩ := hf
    rw [e] at r1
    obtain ⟨a, xs, rfl, rfl, ho, h2⟩ := rp_frz.mp r1
    obtain ⟨v, kp, e1, e2, e3, e4⟩ := rps_atI h2 hz
    exact .inl ⟨a, xs, i, v, rfl, rfl, sql_frz ho, e1, q z v kp hR e2 e3 fun nd => e4 List.nodup_nil⟩
  | none => exact oa_ix H x y _ e f1 f2 s r1 n1 r2 n2 R hf Q q
  | bool b => exact oa_ix H x y _ e f1 f2 s r1 n1 r2 n2 R hf Q q
  | int b => exact oa_ix H x y _ e f1 f2 s r1 n1 r2 n2 R hf Q q
  | str b => exact oa_ix H x y _ e f1 f2 s r1 n1 r2 n2 R hf Q q
  | list b => exact oa_ix H x y _ e f1 f2 s r1 n1 r2 n2 R hf Q q
  | tuple b => exact oa_ix H x y _ e f1 f2 s r1 n1 r2 n2 R hf Q q
/-- a list, of either kind -/
def IsL (d : D) (ds : List D) : Prop := d = .list ds ∨ d = frzD ds
theorem IsL.rp {c : Zc} {H : Hp} {d : D} {ds : List D} {v : V} {fp : List Addr} (l : IsL d ds) (r : Rp c H d v fp) :
    ∃ a xs gp, v = .ref a ∧ SqL c.K H a xs ∧ Rps c H ds xs gp ∧ (∀ b ∈ gp, b ∈ fp) ∧ ∀ H', Tk H H' → (∀ b ∈ fp, H' b = H b) → SqL c.K H' a xs := by
  rcases l with rfl | rfl
  · simp only [Rp] at r
    obtain ⟨a, xs, gp, rfl, rfl, ha, hv⟩ := r
    exact ⟨a, xs, gp, rfl, .of ha, hv, fun b hb => List.mem_cons_of_mem _ hb, fun H' _ k => .of (by rw [k a (List.mem_cons_self ..)]; exact ha)⟩
  · obtain ⟨a, xs, rfl, rfl, ⟨o, ho⟩, h2⟩ := rp_frz.mp r
    exact ⟨a, xs, [], rfl, sql_frz ⟨o, ho⟩, h2, fun b hb => hb, fun H' t _ => sql_frz ⟨o, t a _ ho trivial⟩⟩
/-- zip of two lists, of either kind -/
def dZipF (ms : DMs) : DMs := fun ρ R => ms ρ fun ds => ∃ x y xs ys, ds = [x, y] ∧ IsL x xs ∧ IsL y ys ∧ R (zipD xs ys)
theorem di_zipF {t : TA} {ms : DMs} {U : List Nat} (h : DA K S t ms U) : DI true K S (RZ.iZipA K t) (dZipF ms) U := fun G H ρ σ fps E R hm Q q =>
  h G H ρ σ fps E _ hm _ fun ds vs H1 fp hR e1 s1 r1 n1 f1 => by
    have th : ∀ a ∈ fp, ∃ o, H1 a = some o := fun a ha => let ⟨o, ho, _⟩ := r1.there _ _ _ a ha; ⟨o, ho⟩
    obtain ⟨dx, dy, ex, ey, rfl, lx, ly, hR⟩ := hR
    obtain ⟨x, y, f2, f3, rfl, rfl, rx, ry⟩ := rps_two r1
    obtain ⟨a, xs, g1, rfl, h1, h2, h2s, h2k⟩ := lx.rp rx
    obtain ⟨b, ys, g2, rfl, h3, h4, h4s, h4k⟩ := ly.rp ry
    exact ⟨a, b, xs, ys, rfl, .inl ⟨h1, h3, q _ _ H1 _ hR e1 s1 (iter_zip (walk_zip rfl) h2 h4 (fun z hz => List.mem_append_left _ (h2s z hz)) (fun z hz => List.mem_append_right _ (h4s z hz))
        (fun H' t k => ⟨h2k H' t fun c hc => k c (List.mem_append_left _ hc), h4k H' t fun c hc => k c (List.mem_append_right _ hc)⟩) n1) n1 th f1⟩⟩
/-- x.index(k) of a list of either kind -/
def dIndexF (m : DM) (ms : DMs) : DM := fun ρ R => m ρ fun d => ∃ xs, IsL d xs ∧ ms ρ fun ys => ∃ (k : Int) (ns : List Int), ys = [.int k] ∧ xs = ns.map .int ∧ k ∈ ns ∧ R (.int (ns.idxOf k : Nat))
end
end Z
set_option Elab.async false
set_option linter.all false
set_option maxRecDepth 100000
set_option maxHeartbeats 4000000
/-! Z26: sorted(dict(pairs)), the keys ints. -/
namespace Z
open PySem PySem.Spec PyProof.Rows L2
section
variable {K : PySem.W.Frag} {S : Option (Addr × Addr)}
/-- sorted(dict(pairs)), the keys ints -/
def dSortDict0 (m : DM) : DM := fun ρ R => m ρ fun d => ∃ ns : List Int, d = pairs0 ns ∧ ∀ ks : List Int, ks.Nodup → (∀ x, x ∈ ks ↔ x ∈ ns) → ks.length ≤ ns.length → SortOk (ks.map fun k => (.int k : D)) ∧ R (.list (sortD false (ks.map fun k => (.int k : D))))
end
end Z
set_option Elab.async false
set_option linter.all false
set_option maxRecDepth 100000
set_option maxHeartbeats 4000000
/-! Z27: x = xs.pop(k), xs an own list of what never changes. -/
namespace Z
open PySem PySem.Spec PyProof.Rows L2
section
variable {K : PySem.W.Frag} {S : Option (Addr × Addr)}
theorem Rps.erase {c : Zc} {H : Hp} : ∀ {ds : List D} {xs : List V} (j : Nat), Rps c H ds xs [] → Rps c H (ds.eraseIdx j) (xs.eraseIdx j) []
  | [], xs, j, h => by
    simp only [Rps] at h
    rw [h.1]
    simp [Rps]
  | d :: ds, xs, 0, h => by
    simp only [Rps] at h
    obtain ⟨x, ys, f1, f2, rfl, e, h1, h2⟩ := h
    obtain ⟨rfl, rfl⟩ := List.append_eq_nil_iff.mp e.symm
    exact h2
  | d :: ds, xs, j + 1, h => by
    simp only [Rps] at h
    obtain ⟨x, ys, f1, f2, rfl, e, h1, h2⟩ := h
    obtain ⟨rfl, rfl⟩ := List.append_eq_nil_iff.mp e.symm
    exact Rps.cons h1 (Rps.erase j h2)
def sPopAt (j i : Nat) (m : DM) : DMS := fun ρ R => ownL ρ[i]? fun ds => m ρ fun d => asI d fun k => 0 ≤ k ∧ k < ds.length ∧ ds.length ≤ 10000000 ∧ solids ds = true ∧ ∃ y, ds[k.toNat]? = some y ∧ R.nx ((ρ.set i (.own (.list (ds.eraseIdx k.toNat)))).set j (.own y))
theorem ds_popAt (j i : Nat) {te : TE} {m : DM} {U : List Nat} (h : DE K S te m U) : DS K S (tAsg (tBM K "list" rPopAt (tVar i) (tCons te tNil)) (gName j)) (sPopAt j i m) [j, i] := fun G H ρ σ fps E R hm D d => by
  obtain ⟨ds, hi, hm⟩ := ownL_ok hm
  obtain ⟨v, ev, r, n, nd, g⟩ := E.ok i _ hi
  have r' := r
  simp only [Rp] at r'
  obtain ⟨a, xs, gp, rfl, ef, hL, rs⟩ := r'
  refine ⟨.ref a, ev, .inl ⟨rfl, xs, .of hL⟩, h G H ρ σ fps E _ hm _ fun y w H1 fp hR e1 s1 ry ny fy => ?_⟩
  obtain ⟨k, rfl, k0, k1, kz, hs, z, hz, hN⟩ := asI_ok hR
  have z0 := rs.solid _ _ _ hs
  subst z0
  have han : ¬ Zc.has ⟨K, S⟩ a := n a (by rw [ef]; exact List.mem_cons_self ..)
  have hL1 : H1 a = some (.lst xs) := e1 a _ hL han
  have E1 := E.step e1 s1
  have rs1 : Rps ⟨K, S⟩ H1 ds xs [] := rs.ext .nil e1 E.src
  obtain ⟨x, gp2, hx, rx, sub, _⟩ := rs1.at hz
  have g0 : gp2 = [] := List.eq_nil_iff_forall_not_mem.mpr fun b hb => by cases sub b hb
  subst g0
  refine ⟨a, xs, k, k.toNat, x, rfl, by rw [rp_int ry], hL1, by omega, ?_, ?_, hx, ?_⟩
  · omega
  · rw [rs.len]
    exact PyProof.Rows.seqIndex_at k0 k1
  have tk : Tk H1 (upd H1 a (.lst (xs.eraseIdx k.toNat))) := fun b u hu hf => by
    rw [upd_ne fun z => by rw [z, hL1] at hu; cases hu; exact hf]
    exact hu
  have rr : Rp ⟨K, S⟩ (upd H1 a (.lst (xs.eraseIdx k.toNat))) (.list (ds.eraseIdx k.toNat)) (.ref a) [a] := by
    simp only [Rp]
    exact ⟨a, _, [], rfl, rfl, upd_same, (rs1.erase k.toNat).mono tk _ _ _ fun b hb => by cases hb⟩
  have E2 := E1.change hi ev (by rw [ef]; exact List.mem_cons_self ..) rr (fun b hb => by rw [List.mem_singleton.mp hb, ef]; exact .inl (List.mem_cons_self ..)) (by simp)
  have E3 := E2.setOwn (rx.mono tk _ _ _ fun b hb => by cases hb) (fun b hb => by cases hb) List.nodup_nil (fun b hb => by cases hb) j fun q hq _ b hb => by cases hb
  exact d.nx _ _ _ _ hN E3 ⟨by simp, fun q hq => List.getElem?_set_ne fun e => hq (by simp [e])⟩
end
end Z
set_option Elab.async false
set_option linter.all false
set_option maxRecDepth 100000
set_option maxHeartbeats 4000000
/-! Z28: return (x, y) of two own values; zip(.., strict=True) of lists of either kind. -/
namespace Z
open PySem PySem.Spec PyProof.Rows L2
section
variable {K : PySem.W.Frag} {S : Option (Addr × Addr)}
def sRet2 (i j : Nat) : DMS := fun ρ R => match ρ[i]? with
  | some (.own d) => match ρ[j]? with
    | some (.own e) => i ≠ j ∧ R.rt (.tuple [d, e])
    | _ => False
  | _ => False
/-- return (x, y), own values -/
theorem ds_ret2 (i j : Nat) : DS K S (tRet (tTupF (tCons (tVar i) (tCons (tVar j) tNil)))) (sRet2 i j) [] := fun G H ρ σ fps E R hm D d => by
  unfold sRet2 at hm
  split at hm
  · rename_i x ex
    split at hm
    · rename_i y ey
      obtain ⟨hne, hR⟩ := hm
      obtain ⟨v, e1, r1, n1, nd1, g1⟩ := E.ok i _ ex
      obtain ⟨w, e2, r2, n2, nd2, g2⟩ := E.ok j _ ey
      have hi : i < ρ.length := (List.getElem?_eq_some_iff.mp ex).1
      have hj : j < ρ.length := (List.getElem?_eq_some_iff.mp ey).1
      refine ⟨v, e1, w, e2, lim_ok (by simp), fun p o hp ho => ?_⟩
      have e := Ext.new (c := ⟨K, S⟩) (o := .frz o (.tup [v, w])) hp
      refine d.rt (.tuple [x, y]) (.ref p) _ (fps i ++ fps j) hR (E.ext.trans e) (E.src.new hp) ?_ (fun b hb => (List.mem_append.mp hb).elim (n1 b) (n2 b)) (List.nodup_append.mpr ⟨nd1, nd2, fun b hb b' hb' z => E.sep i j hne hi hj (by rw [ex]; trivial) b hb (z ▸ hb')⟩) fun b hb => (List.mem_append.mp hb).elim (g1 b) (g2 b)
      simp only [Rp]
      exact ⟨p, [v, w], rfl, .new ho, Rps.cons (r1.ext n1 e E.src) (.one (r2.ext n2 e E.src))⟩
    · exact hm.elim
  · exact hm.elim
/-- zip(x, y, strict=True) of lists of either kind -/
def dZipSF (ms : DMs) : DMs := fun ρ R => ms ρ fun ds => ∃ x y xs ys, ds = [x, y] ∧ IsL x xs ∧ IsL y ys ∧ xs.length = ys.length ∧ R (zipD xs ys)
theorem di_zipSF {t tk : TA} {ms : DMs} {U : List Nat} (h : DA K S t ms U) (hk : ∀ (σ : L2.St) (H : Hp) (Q : List V → Hp → Prop), Q [.bl true] H → tk σ H Q) : DI true K S (iZipS K t tk) (dZipSF ms) U := fun G H ρ σ fps E R hm Q q =>
  h G H ρ σ fps E _ hm _ fun ds vs H1 fp hR e1 s1 r1 n1 f1 => by
    have th : ∀ a ∈ fp, ∃ o, H1 a = some o := fun a ha => let ⟨o, ho, _⟩ := r1.there _ _ _ a ha; ⟨o, ho⟩
    obtain ⟨dx, dy, ex, ey, rfl, lx, ly, hl, hR⟩ := hR
    obtain ⟨x, y, f2, f3, rfl, rfl, rx, ry⟩ := rps_two r1
    obtain ⟨a, xs, g1, rfl, h1, p1, sub1, kp1⟩ := lx.rp rx
    obtain ⟨b, ys, g2, rfl, h3, p2, sub2, kp2⟩ := ly.rp ry
    exact hk _ _ _ ⟨rfl, a, b, false, false, xs, ys, rfl, h1, h3, q _ _ H1 _ hR e1 s1 (iter_zip (walk_strict (by rw [p1.len, p2.len]; exact hl)) p1 p2 (fun z hz => List.mem_append_left _ (sub1 z hz)) (fun z hz => List.mem_append_right _ (sub2 z hz))
        (fun H' t k => ⟨kp1 H' t fun b hb => k b (List.mem_append_left _ hb), kp2 H' t fun b hb => k b (List.mem_append_right _ hb)⟩) n1) n1 th f1⟩
end
end Z
set_option Elab.async false
set_option linter.all false
set_option maxRecDepth 100000
set_option maxHeartbeats 4000000
/-! Z29: values of all kinds that never change: repr of them, == of a tuple with (), {} that never changes. -/
namespace Z
open PySem PySem.Spec PyProof.Rows L2
mutual
/-- as it is shown -/
def thaw : D → D
  | .none => .none
  | .bool b => .bool b
  | .int i => .int i
  | .str x => .str x
  | .list ds => .list (thaws ds)
  | .tuple ds => .tuple (thaws ds)
  | .dict kvs => if isFrz kvs = true then .list (thawk kvs).tail else .dict []
def thaws : List D → List D
  | [] => []
  | d :: ds => thaw d :: thaws ds
def thawk : List (D × D) → List D
  | [] => []
  | (_, d) :: r => thaw d :: thawk r
end
mutual
/-- whether it is such a value -/
def canT : D → Bool
  | .none => true
  | .bool _ => true
  | .int _ => true
  | .str _ => true
  | .list ds => canTs ds
  | .tuple ds => canTs ds
  | .dict kvs => (isFrz kvs && canTk kvs) || (isFrd kvs && kvs.length == 1)
def canTs : List D → Bool
  | [] => true
  | d :: ds => canT d && canTs ds
def canTk : List (D × D) → Bool
  | [] => true
  | (_, d) :: r => canT d && canTk r
end
theorem thaws_map : ∀ ds : List D, thaws ds = ds.map thaw
  | [] => by simp [thaws]
  | d :: ds => by simp [thaws, thaws_map ds]
theorem thawk_frz (ds : List D) (k : D) : thawk (ds.map fun d => (k, d)) = ds.map thaw := by
  induction ds with
  | nil => simp [thawk]
  | cons d ds ih => simp [thawk, ih]
theorem thaw_frz (ds : List D) : thaw (frzD ds) = .list (ds.map thaw) := by
  unfold frzD frzK
  simp only [thaw, thawk, thawk_frz]
  rfl
theorem thaw_frd : thaw (frdD []) = .dict [] := by
  unfold frdD frdK
  simp only [thaw]
  rfl
theorem isFrz_cons {kvs : List (D × D)} (h : isFrz kvs = true) : ∃ r, kvs = (.bool true, .none) :: r := by
  unfold isFrz at h
  split at h
  · exact ⟨_, rfl⟩
  · cases h
theorem isFrd_cons {kvs : List (D × D)} (h : isFrd kvs = true) : ∃ r, kvs = (.bool false, .none) :: r := by
  unfold isFrd at h
  split at h
  · exact ⟨_, rfl⟩
  · cases h
/-- such a value, shown by at most w signs, at most k deep -/
structure OkT (k w : Nat) (d : D) : Prop where
  can : canT d = true
  depth : (thaw d).depth ≤ k
  show' : (thaw d).showable = true
  len : (thaw d).shown.length ≤ w
section
variable {K : PySem.W.Frag} {S : Option (Addr × Addr)}
def fReprU : List D → (D → Prop) → Prop := fun ds R => match ds with
  | [d] => OkT 40 10000000 d ∧ R (.str (thaw d).shown)
  | _ => False
/-! ### x == () -/
end
section
variable {K : PySem.W.Frag} {S : Option (Addr × Addr)}
def fEqE (neg : Bool) : D → D → (D → Prop) → Prop := fun x y R => match x with
  | .tuple xs => y = .tuple [] ∧ R (.bool (if neg then !xs.isEmpty else xs.isEmpty))
  | _ => False
/-! ### {} that never changes -/
end
end Z
set_option Elab.async false
set_option linter.all false
set_option maxRecDepth 100000
set_option maxHeartbeats 4000000
/-! Z30: list + list of either kind; two targets at once through tuples, both own. -/
namespace Z
open PySem PySem.Spec PyProof.Rows L2
/-- a list that is tracked, whether it may change or not -/
def LstE (H : Hp) (l : Addr) (xs : List V) : Prop := H l = some (.lst xs) ∨ ∃ o, H l = some (.frz o (.lst xs))
theorem LstE.obj {X : Cx} {pins : List (Addr × Obj)} {σ : L2.St} {H : Hp} {s : Shared} {l : Addr} {xs : List V} (I : Inv X pins σ H s) (h : LstE H l xs) :
    ∃ (its : List Value) (n : Nat), Vals xs its ∧ xs.length = its.length ∧ s.heap.get? l = some { cls := .type "list", data := .seq its.toArray n } := by
  rcases h with h | ⟨o, h⟩
  · obtain ⟨_, its, n, r, e⟩ := I.hok l _ h
    exact ⟨its, n, r, r.length, e⟩
  · obtain ⟨_, _, its, n, r, e⟩ := I.hok l _ h
    exact ⟨its, n, r, r.length, e⟩
def rCatE : R2 := fun x y H Q => ∃ l b xs zs, x = .ref l ∧ y = .ref b ∧ LstE H l xs ∧ LstE H b zs ∧ xs.length + zs.length ≤ sizeLine ∧ ∀ p, H p = none → Q (.ref p) (upd H p (.lst (xs ++ zs)))
theorem op_catE {X : Cx} : OpR X (binaryOp .Add) rCatE := fun pins s σ H x y v u Q I rx ry h => by
  obtain ⟨l, b, xs, zs, rfl, rfl, h1, h2, hz, q⟩ := h
  cases rx
  cases ry
  obtain ⟨its, n, r, hl, e⟩ := h1.obj I
  obtain ⟨jts, m, r', hl', e'⟩ := h2.obj I
  refine PySem.P.add_list e e' ?_ (by simp only [List.size_toArray]; omega)
  rw [show its.toArray ++ jts.toArray = (its ++ jts).toArray by simp]
  exact ⟨.ref _, _, I.lnew (t' := s.toks) (r.append r') (by simp only [List.length_append]; omega), rfl, q _ I.fresh⟩
section
variable {K : PySem.W.Frag} {S : Option (Addr × Addr)}
theorem IsL.lstE {c : Zc} {H : Hp} {d : D} {ds : List D} {v : V} {fp : List Addr} (l : IsL d ds) (r : Rp c H d v fp) : ∃ a xs gp, v = .ref a ∧ LstE H a xs ∧ Rps c H ds xs gp := by
  rcases l with rfl | rfl
  · simp only [Rp] at r
    obtain ⟨a, xs, gp, rfl, rfl, ha, hv⟩ := r
    exact ⟨a, xs, gp, rfl, .inl ha, hv⟩
  · obtain ⟨a, xs, rfl, rfl, ho, h2⟩ := rp_frz.mp r
    exact ⟨a, xs, [], rfl, .inr ho, h2⟩
/-- list + list, of either kind -/
def fCatE : D → D → (D → Prop) → Prop := fun x y R => ∃ xs ys, IsL x xs ∧ IsL y ys ∧ solids xs = true ∧ solids ys = true ∧ xs.length + ys.length ≤ 10000000 ∧ R (.list (xs ++ ys))
theorem od_catE : OpD K S rCatE fCatE := fun H x y d e f1 f2 s r1 n1 r2 n2 R hf Q q => by
  obtain ⟨xs, ys, l1, l2, s1, s2, hl, hR⟩ := hf
  obtain ⟨a, vs, g1, rfl, h1, p1⟩ := l1.lstE r1
  obtain ⟨b, ws, g2, rfl, h2, p2⟩ := l2.lstE r2
  have z1 := p1.solid _ _ _ s1
  have z2 := p2.solid _ _ _ s2
  subst z1 z2
  have both := p1.app p2
  refine ⟨a, b, vs, ws, rfl, rfl, h1, h2, by rw [p1.len, p2.len]; exact lim_ok hl, fun p hp => ?_⟩
  have e' := Ext.new (c := ⟨K, S⟩) (o := .lst (vs ++ ws)) hp
  refine q _ (.ref p) _ [p] hR e' (s.new hp) ?_ (fun b hb => by rw [List.mem_singleton.mp hb]; exact s.fresh hp) (List.pairwise_singleton _ _) fun b hb => by rw [List.mem_singleton.mp hb]; exact hp
  simp only [Rp]
  exact ⟨p, _, [], rfl, rfl, upd_same, both.ext .nil e' s⟩
/-- x, y = a, b by way of a tuple -/
theorem ds_parG (i j : Nat) {t : TA} {ms : DMs} (h : DA K S t ms []) (hij : i ≠ j := by decide) : DS K S (tAsg (tTupF t) (gTup K 2 (gCons (gName i) (gCons (gName j) gNil)))) (sPar i j ms) [i, j] := fun G H ρ σ fps E R hm D d =>
  h G H ρ σ fps E _ hm _ fun ds vs H1 fp hR e1 s1 r n f => by
    split at hR
    · rename_i x y
      simp only [Rps] at r
      obtain ⟨v, ys, g1, g2, rfl, rfl, r1, w, zs, g3, g4, rfl, rfl, r2, rfl, rfl⟩ := r
      rw [List.append_nil] at f n
      have nd := f.2 rfl
      obtain ⟨nd1, nd2, nd3⟩ := List.nodup_append.mp nd
      refine ⟨lim_ok (by simp), fun p o hp ho => ?_⟩
      have e2 := Ext.new (c := ⟨K, S⟩) (o := .frz o (.tup [v, w])) hp
      have s2 := s1.new (o := .frz o (.tup [v, w])) hp
      have E1 := E.step (e1.trans e2) s2
      have fr : ∀ a ∈ g1 ++ g3, ∀ k, k < ρ.length → a ∉ fps k := fun a ha k hk hb => by
        obtain ⟨o', ho', _⟩ := E.thereAt hk a hb
        rw [f.off a ha] at ho'
        cases ho'
      have gn : ∀ a ∈ g1 ++ g3, G a = none := fun a ha => back_none E.ext (f.off a ha) (n a ha)
      have n1 : NoS ⟨K, S⟩ g1 := fun a ha => n a (List.mem_append_left _ ha)
      have n3 : NoS ⟨K, S⟩ g3 := fun a ha => n a (List.mem_append_right _ ha)
      refine ⟨p, [v, w], rfl, SqD.t (.new ho), rfl, v, [w], rfl, ?_⟩
      refine ⟨w, [], rfl, ?_⟩
      refine ⟨rfl, ?_⟩
      have E2 := E1.setOwn (r1.ext n1 e2 s1) n1 nd1 (fun a ha => gn a (List.mem_append_left _ ha)) i fun k hk _ a ha hb => fr a (List.mem_append_left _ ha) k hk hb
      have E3 := E2.setOwn (r2.ext n3 e2 s1) n3 nd2 (fun a ha => gn a (List.mem_append_right _ ha)) j fun k hk hkj a ha hb => by
        by_cases hki : k = i
        · simp only [if_pos hki] at hb
          exact nd3 a hb a ha rfl
        · simp only [if_neg hki] at hb
          exact fr a (List.mem_append_right _ ha) k (by simpa using hk) hb
      refine d.nx _ _ _ _ hR E3 ⟨by simp, fun k hk => ?_⟩
      have k1 : j ≠ k := fun e => hk (by simp [e])
      have k2 : i ≠ k := fun e => hk (by simp [e])
      rw [List.getElem?_set_ne k1, List.getElem?_set_ne k2]
    · exact hR.elim
/-- the items of a list that never changes -/
def dItemsZ (m : DM) : DMs := fun ρ R => m ρ fun d => ∃ xs, d = frzD xs ∧ R xs
theorem di_seqZ {te : TE} {m : DM} {U : List Nat} (h : DE K S te m U) : DI false K S (iSeq K te) (dItemsZ m) U := fun G H ρ σ fps E R hm Q q =>
  h G H ρ σ fps E _ hm _ fun d v H1 fp hR e1 s1 r1 n1 f1 => by
    obtain ⟨xs, rfl, hR⟩ := hR
    obtain ⟨a, vs, rfl, rfl, ⟨o, ho⟩, h2⟩ := rp_frz.mp r1
    exact .inl ⟨a, vs, rfl, sql_frz ⟨o, ho⟩, q xs _ H1 _ hR e1 s1 (iter_list (c := ⟨K, S⟩) (sql_frz ⟨o, ho⟩) (fun H' t _ => sql_frz ⟨o, t a _ ho trivial⟩) h2 fun b hb => hb) n1 (fun a ha => by cases ha) f1⟩
/-- how long a list of either kind is -/
def fLenF : List D → (D → Prop) → Prop := fun ds R => match ds with
  | [d] => ∃ xs, IsL d xs ∧ R (.int ((xs.length : Nat) : Int))
  | _ => False
theorem cd_lenF : CallD K S (fun xs H Q => ∃ x n, xs = [x] ∧ LenV K x H n ∧ Q (.int n) H) fLenF := .pure fun H xs ds fp r R hf Q q => by
  unfold fLenF at hf
  split at hf
  · rename_i d
    obtain ⟨es, l, hR⟩ := hf
    obtain ⟨x, rfl, rx⟩ := rps_one r
    obtain ⟨a, ys, gp, rfl, h1, h2, _⟩ := l.rp rx
    exact ⟨_, es.length, rfl, .inl ⟨ys, h1, h2.len.symm⟩, q _ _ hR int_rp⟩
  · exact hf.elim
end
end Z
set_option Elab.async false
set_option linter.all false
/-! G1: rows over two marks; reduced bases are told by their span. Plain Lean. -/
namespace Z
def xr (a b : List Bool) : List Bool := List.zipWith (fun x y => x ^^ y) a b
def gt (v : List Bool) (p : Nat) : Bool := v.getD p false
def lead (r : List Bool) : Nat := r.idxOf true
def nul (n : Nat) : List Bool := List.replicate n false
theorem xr_len {a b : List Bool} (h : a.length = b.length) : (xr a b).length = a.length := by simp [xr, h]
theorem gt_xr {a b : List Bool} (h : a.length = b.length) (p : Nat) : gt (xr a b) p = (gt a p ^^ gt b p) := by
  unfold gt xr
  rw [List.getD_eq_getElem?_getD, List.getD_eq_getElem?_getD, List.getD_eq_getElem?_getD, List.getElem?_zipWith]
  by_cases hp : p < a.length
  · rw [List.getElem?_eq_getElem hp, List.getElem?_eq_getElem (h ▸ hp)]
    rfl
  · rw [List.getElem?_eq_none (by omega), List.getElem?_eq_none (by omega)]
    rfl
theorem gt_nul (n p : Nat) : gt (nul n) p = false := by
  unfold gt nul
  rw [List.getD_eq_getElem?_getD, List.getElem?_replicate]
  split <;> rfl
theorem gt_out {a : List Bool} {p : Nat} (h : a.length ≤ p) : gt a p = false := by
  unfold gt
  rw [List.getD_eq_getElem?_getD, List.getElem?_eq_none h]
  rfl
theorem row_ext {a b : List Bool} (h : a.length = b.length) (e : ∀ p, gt a p = gt b p) : a = b := by
  apply List.ext_getElem h
  intro i h1 h2
  have := e i
  unfold gt at this
  rw [List.getD_eq_getElem?_getD, List.getD_eq_getElem?_getD, List.getElem?_eq_getElem h1, List.getElem?_eq_getElem h2] at this
  exact this
theorem nul_len (n : Nat) : (nul n).length = n := List.length_replicate ..
theorem xr_nul {a : List Bool} {n : Nat} (h : a.length = n) : xr a (nul n) = a := row_ext (by rw [xr_len (by rw [nul_len]; exact h)]) fun p => by rw [gt_xr (by rw [nul_len]; exact h), gt_nul, Bool.xor_false]
theorem xr_assoc {a b c : List Bool} (h : a.length = b.length) (k : b.length = c.length) : xr (xr a b) c = xr a (xr b c) :=
  row_ext (by rw [xr_len (by rw [xr_len h, h, k]), xr_len h, xr_len (by rw [xr_len k, h])]) fun p => by
    rw [gt_xr (by rw [xr_len h, h, k]), gt_xr h, gt_xr (by rw [xr_len k, h]), gt_xr k, Bool.xor_assoc]
theorem xr_comm {a b : List Bool} (h : a.length = b.length) : xr a b = xr b a := row_ext (by rw [xr_len h, xr_len h.symm, h]) fun p => by rw [gt_xr h, gt_xr h.symm, Bool.xor_comm]
theorem xr_self {a : List Bool} : xr a a = nul a.length := row_ext (by rw [xr_len rfl, nul_len]) fun p => by rw [gt_xr rfl, gt_nul, Bool.xor_self]
theorem lead_gt {r : List Bool} (h : true ∈ r) : gt r (lead r) = true := by
  unfold gt lead
  have hl := List.idxOf_lt_length_iff.mpr h
  rw [List.getD_eq_getElem?_getD, List.getElem?_eq_getElem hl]
  exact List.getElem_idxOf hl
theorem lead_below {r : List Bool} {q : Nat} (h : q < lead r) : gt r q = false := by
  unfold lead at h
  cases e : gt r q with
  | false => rfl
  | true =>
    exfalso
    unfold gt at e
    rw [List.getD_eq_getElem?_getD] at e
    cases hq : r[q]? with
    | none => rw [hq] at e; cases e
    | some b =>
      rw [hq] at e
      have eb : b = true := e
      subst eb
      induction r generalizing q with
      | nil => simp at hq
      | cons x xs ih =>
        cases q with
        | zero =>
          simp at hq
          subst hq
          simp at h
        | succ q =>
          cases x with
          | true => simp at h
          | false =>
            simp [List.idxOf_cons] at h
            exact ih h (by simpa using hq)
theorem lead_le {r : List Bool} {q : Nat} (h : gt r q = true) : lead r ≤ q := Nat.le_of_not_lt fun z => by rw [lead_below z] at h; cases h
theorem mem_of_gt {r : List Bool} {q : Nat} (h : gt r q = true) : true ∈ r := by
  unfold gt at h
  rw [List.getD_eq_getElem?_getD] at h
  cases hq : r[q]? with
  | none => rw [hq] at h; cases h
  | some b =>
    rw [hq] at h
    have eb : b = true := h
    subst eb
    exact List.mem_of_getElem? hq
theorem not_nul {r : List Bool} {n : Nat} (hl : r.length = n) (h : true ∉ r) : r = nul n := row_ext (by rw [hl, nul_len]) fun p => by
  rw [gt_nul]
  cases e : gt r p with
  | false => rfl
  | true => exact (h (mem_of_gt e)).elim
theorem lead_eq {r : List Bool} {p : Nat} (h : gt r p = true) (h0 : ∀ q, q < p → gt r q = false) : lead r = p :=
  Nat.le_antisymm (lead_le h) (Nat.le_of_not_lt fun z => by have := h0 _ z; rw [lead_gt (mem_of_gt h)] at this; cases this)
/-- the sums of rows of B -/
inductive Sp (n : Nat) (B : List (List Bool)) : List Bool → Prop
  | zero : Sp n B (nul n)
  | add {b v : List Bool} : b ∈ B → Sp n B v → Sp n B (xr b v)
def Len (n : Nat) (B : List (List Bool)) : Prop := ∀ b ∈ B, b.length = n
section
variable {n : Nat} {B C : List (List Bool)}
theorem Sp.len (h : Len n B) {v : List Bool} (s : Sp n B v) : v.length = n := by
  induction s with
  | zero => exact nul_len n
  | add hb _ ih => rw [xr_len (by rw [h _ hb, ih]), h _ hb]
theorem Sp.mem (h : Len n B) {b : List Bool} (hb : b ∈ B) : Sp n B b := by
  have := Sp.add hb (Sp.zero (n := n) (B := B))
  rwa [xr_nul (h b hb)] at this
theorem Sp.xr (h : Len n B) {u v : List Bool} (s : Sp n B u) (t : Sp n B v) : Sp n B (xr u v) := by
  induction s with
  | zero => rw [xr_comm (by rw [nul_len, t.len h]), xr_nul (t.len h)]; exact t
  | @add b w hb hw ih =>
    rw [xr_assoc (by rw [h b hb, hw.len h]) (by rw [hw.len h, t.len h])]
    exact .add hb ih
theorem Sp.sub (hC : Len n C) (h : ∀ b ∈ B, Sp n C b) {v : List Bool} (s : Sp n B v) : Sp n C v := by
  induction s with
  | zero => exact .zero
  | add hb _ ih => exact (h _ hb).xr hC ih
theorem Sp.mono (h : ∀ b ∈ B, b ∈ C) {v : List Bool} (s : Sp n B v) : Sp n C v := by
  induction s with
  | zero => exact .zero
  | add hb _ ih => exact .add (h _ hb) ih
/-- each lead stands in its own row alone -/
structure Red (n : Nat) (B : List (List Bool)) : Prop where
  len : Len n B
  ne : ∀ b ∈ B, true ∈ b
  un : ∀ b ∈ B, ∀ c ∈ B, b ≠ c → gt b (lead c) = false
  nd : B.Nodup
def par (f : List Bool → Bool) : List (List Bool) → Nat → Bool
  | [], _ => false
  | b :: B, p => (f b && gt b p) ^^ par f B p
theorem par_congr {f g : List Bool → Bool} {p : Nat} : ∀ {B : List (List Bool)}, (∀ b ∈ B, f b = g b) → par f B p = par g B p
  | [], _ => rfl
  | b :: B, h => by
    unfold par
    rw [h b (List.mem_cons_self ..), par_congr fun c hc => h c (List.mem_cons_of_mem _ hc)]
theorem par_none {f : List Bool → Bool} {p : Nat} : ∀ {B : List (List Bool)}, (∀ b ∈ B, f b = true → gt b p = false) → par f B p = false
  | [], _ => rfl
  | b :: B, h => by
    unfold par
    rw [par_none fun c hc => h c (List.mem_cons_of_mem _ hc)]
    cases e : f b with
    | false => rfl
    | true => rw [h b (List.mem_cons_self ..) e]; rfl
theorem par_some {f : List Bool → Bool} {p : Nat} (h : par f B p = true) : ∃ b ∈ B, f b = true ∧ gt b p = true := Classical.byContradiction fun z => by
  have := par_none (f := f) (p := p) (B := B) fun b hb hf => by
    cases e : gt b p with
    | false => rfl
    | true => exact (z ⟨b, hb, hf, e⟩).elim
  rw [this] at h
  cases h
theorem par_flip {f g : List Bool → Bool} {p : Nat} {b : List Bool} : ∀ {B : List (List Bool)}, B.Nodup → b ∈ B → (∀ c ∈ B, c ≠ b → f c = g c) → f b = !g b → par f B p = (gt b p ^^ par g B p)
  | [], _, hb, _, _ => by cases hb
  | c :: B, nd, hb, h, hf => by
    unfold par
    have nd' := List.nodup_cons.mp nd
    by_cases e : c = b
    · subst e
      rw [hf, par_congr (g := g) fun d hd => h d (List.mem_cons_of_mem _ hd) fun z => nd'.1 (z ▸ hd)]
      cases g c <;> cases gt c p <;> cases par g B p <;> rfl
    · have hb' : b ∈ B := (List.mem_cons.mp hb).resolve_left (Ne.symm e)
      rw [h c (List.mem_cons_self ..) e, par_flip nd'.2 hb' (fun d hd => h d (List.mem_cons_of_mem _ hd)) hf]
      cases g c <;> cases gt c p <;> cases gt b p <;> cases par g B p <;> rfl
/-- a sum is told by its marks at the leads -/
theorem Red.tell (r : Red n B) {v : List Bool} (s : Sp n B v) (p : Nat) : gt v p = par (fun b => gt v (lead b)) B p := by
  induction s with
  | zero =>
    rw [gt_nul, par_none]
    intro b _ z
    rw [gt_nul] at z
    cases z
  | @add b w hb hw ih =>
    have hl : b.length = w.length := by rw [r.len b hb, hw.len r.len]
    rw [gt_xr hl, ih]
    refine (par_flip (g := fun c => gt w (lead c)) r.nd hb (fun c hc hne => ?_) ?_).symm
    · show gt (Z.xr b w) (lead c) = gt w (lead c)
      rw [gt_xr hl, r.un b hb c hc (Ne.symm hne), Bool.false_xor]
    · show gt (Z.xr b w) (lead b) = !gt w (lead b)
      rw [gt_xr hl, lead_gt (r.ne b hb), Bool.true_xor]
theorem Red.same (r : Red n B) {u v : List Bool} (hu : Sp n B u) (hv : Sp n B v) (h : ∀ b ∈ B, gt u (lead b) = gt v (lead b)) : u = v :=
  row_ext (by rw [hu.len r.len, hv.len r.len]) fun p => by rw [r.tell hu, r.tell hv]; exact par_congr h
theorem Red.leads (r : Red n B) {v : List Bool} (s : Sp n B v) (h : true ∈ v) : ∃ b ∈ B, lead b = lead v := by
  have h1 := lead_gt h
  rw [r.tell s] at h1
  obtain ⟨b, hb, h2, h3⟩ := par_some h1
  exact ⟨b, hb, Nat.le_antisymm (lead_le h3) (lead_le h2)⟩
theorem Red.sub (r : Red n B) (q : Red n C) (h : ∀ v, Sp n B v ↔ Sp n C v) : ∀ b ∈ B, b ∈ C := fun b hb => by
  obtain ⟨c, hc, hl⟩ := q.leads ((h b).mp (Sp.mem r.len hb)) (r.ne b hb)
  have e : b = c := r.same (Sp.mem r.len hb) ((h c).mpr (Sp.mem q.len hc)) fun b' hb' => by
    by_cases e : b = b'
    · subst e
      rw [lead_gt (r.ne b hb), ← hl, lead_gt (q.ne c hc)]
    · rw [r.un b hb b' hb' e]
      obtain ⟨c', hc', hl'⟩ := q.leads ((h b').mp (Sp.mem r.len hb')) (r.ne b' hb')
      have hne : c ≠ c' := fun z => by
        have h1 := r.un b hb b' hb' e
        rw [← hl', ← z, hl, lead_gt (r.ne b hb)] at h1
        cases h1
      rw [← hl', q.un c hc c' hc' hne]
  rw [e]
  exact hc
theorem sorted_same : ∀ {B C : List (List Bool)}, B.Pairwise (fun a b => lead a < lead b) → C.Pairwise (fun a b => lead a < lead b) → (∀ b, b ∈ B ↔ b ∈ C) → B = C
  | [], [], _, _, _ => rfl
  | [], c :: C, _, _, h => by have := (h c).mpr (List.mem_cons_self ..); cases this
  | b :: B, [], _, _, h => by have := (h b).mp (List.mem_cons_self ..); cases this
  | b :: B, c :: C, hB, hC, h => by
    rw [List.pairwise_cons] at hB hC
    have e : b = c := by
      rcases List.mem_cons.mp ((h b).mp (List.mem_cons_self ..)) with z | z
      · exact z
      · rcases List.mem_cons.mp ((h c).mpr (List.mem_cons_self ..)) with y | y
        · exact y.symm
        · have h1 := hB.1 c y
          have h2 := hC.1 b z
          omega
    subst e
    rw [sorted_same hB.2 hC.2 fun d => ⟨fun hd => ?_, fun hd => ?_⟩]
    · rcases List.mem_cons.mp ((h d).mp (List.mem_cons_of_mem _ hd)) with z | z
      · have := hB.1 d hd
        rw [z] at this
        omega
      · exact z
    · rcases List.mem_cons.mp ((h d).mpr (List.mem_cons_of_mem _ hd)) with z | z
      · have := hC.1 d hd
        rw [z] at this
        omega
      · exact z
/-- the reduced base of what rows span, by ascending leads -/
structure Rref (n : Nat) (rows B : List (List Bool)) : Prop where
  red : Red n B
  asc : B.Pairwise (fun a b => lead a < lead b)
  span : ∀ v, Sp n B v ↔ Sp n rows v
theorem Rref.unique {rows : List (List Bool)} (h : Rref n rows B) (k : Rref n rows C) : B = C :=
  sorted_same h.asc k.asc fun b => ⟨h.red.sub k.red (fun v => (h.span v).trans (k.span v).symm) b, k.red.sub h.red (fun v => (k.span v).trans (h.span v).symm) b⟩
end
end Z
set_option Elab.async false
set_option linter.all false
/-! G2: two ways to a reduced base. Plain Lean. -/
namespace Z
section
variable {n : Nat} {B C : List (List Bool)}
theorem pigeon : ∀ (n : Nat) (l : List Nat), l.Nodup → (∀ x ∈ l, x < n) → l.length ≤ n
  | 0, l, _, h => by
    cases l with
    | nil => simp
    | cons x xs => exact absurd (h x (List.mem_cons_self ..)) (Nat.not_lt_zero _)
  | n + 1, l, nd, h => by
    have ih := pigeon n (l.erase n) (nd.erase n) fun x hx => by
      have h1 := h x (List.mem_of_mem_erase hx)
      have h2 : x ≠ n := fun e => by rw [e] at hx; exact (List.Nodup.not_mem_erase nd) hx
      omega
    by_cases hm : n ∈ l
    · have := List.length_erase_of_mem hm
      omega
    · rw [List.erase_of_not_mem hm] at ih
      omega
theorem Red.count (r : Red n B) : B.length ≤ n := by
  have h := pigeon n (B.map lead) (by
    refine List.Pairwise.map _ (fun a b z => z) (List.Pairwise.imp_of_mem (fun {a b} ha hb hne z => ?_) r.nd)
    have := r.un a ha b hb hne
    rw [← z, lead_gt (r.ne a ha)] at this
    cases this) fun x hx => by
      obtain ⟨b, hb, rfl⟩ := List.mem_map.mp hx
      rw [← r.len b hb]
      exact List.idxOf_lt_length_iff.mpr (r.ne b hb)
  rwa [List.length_map] at h
/-! ### row by row -/
def red1 (B : List (List Bool)) (h : List Bool) : List Bool := B.foldl (fun h b => if gt h (lead b) then xr h b else h) h
def stepP (B : List (List Bool)) (h : List Bool) : List (List Bool) := if (red1 B h).contains true then B.map (fun b => if gt b (lead (red1 B h)) then xr b (red1 B h) else b) ++ [red1 B h] else B
def toldP (rows : List (List Bool)) : List (List Bool) := rows.foldl stepP []
theorem red1_go (r : Red n B) : ∀ (D : List (List Bool)) (h : List Bool), h.length = n → (∀ c ∈ D, c ∈ B) → D.Nodup →
    (∀ c ∈ D, gt (red1 D h) (lead c) = false) ∧ (∀ b ∈ B, b ∉ D → gt (red1 D h) (lead b) = gt h (lead b)) ∧ ∃ s, Sp n B s ∧ red1 D h = xr h s
  | [], h, hl, _, _ => ⟨fun c hc => (by cases hc), fun b _ _ => rfl, nul n, .zero, (xr_nul hl).symm⟩
  | d :: D, h, hl, hs, nd => by
    have nd' := List.nodup_cons.mp nd
    have hd := hs d (List.mem_cons_self ..)
    have ld := r.len d hd
    let h1 := if gt h (lead d) then xr h d else h
    have l1 : h1.length = n := by
      show (if gt h (lead d) then xr h d else h).length = n
      split
      · rw [xr_len (by rw [hl, ld]), hl]
      · exact hl
    obtain ⟨a1, a2, s, a3, a4⟩ := red1_go r D h1 l1 (fun c hc => hs c (List.mem_cons_of_mem _ hc)) nd'.2
    have e : red1 (d :: D) h = red1 D h1 := rfl
    have z1 : gt h1 (lead d) = false := by
      show gt (if gt h (lead d) then xr h d else h) (lead d) = false
      cases q : gt h (lead d) with
      | false => simpa using q
      | true =>
        simp only [if_true]
        rw [gt_xr (by rw [hl, ld]), q, lead_gt (r.ne d hd)]
        rfl
    have z2 : ∀ b ∈ B, b ≠ d → gt h1 (lead b) = gt h (lead b) := fun b hb hne => by
      show gt (if gt h (lead d) then xr h d else h) (lead b) = _
      split
      · rw [gt_xr (by rw [hl, ld]), r.un d hd b hb (Ne.symm hne), Bool.xor_false]
      · rfl
    refine ⟨fun c hc => ?_, fun b hb hn => ?_, ?_⟩
    · rw [e]
      rcases List.mem_cons.mp hc with rfl | hc
      · rw [a2 c hd nd'.1]
        exact z1
      · exact a1 c hc
    · rw [e, a2 b hb fun z => hn (List.mem_cons_of_mem _ z)]
      exact z2 b hb fun z => hn (z ▸ List.mem_cons_self ..)
    · rw [e, a4]
      show ∃ t, Sp n B t ∧ xr (if gt h (lead d) then xr h d else h) s = xr h t
      split
      · exact ⟨xr d s, .add hd a3, xr_assoc (by rw [hl, ld]) (by rw [ld, a3.len r.len])⟩
      · exact ⟨s, a3, rfl⟩
theorem red_row (r : Red n B) {h k : List Bool} (hk : k = red1 B h) (hl : h.length = n) : k.length = n ∧ (∀ b ∈ B, gt k (lead b) = false) ∧ Sp n (h :: B) k ∧ Sp n (k :: B) h := by
  obtain ⟨a1, _, s, a3, a4⟩ := red1_go r B h hl (fun _ h => h) r.nd
  have ls := a3.len r.len
  subst hk
  have lk : (red1 B h).length = n := by rw [a4, xr_len (by rw [hl, ls]), hl]
  have L1 : Len n (h :: B) := fun b hb => (List.mem_cons.mp hb).elim (fun e => e ▸ hl) (r.len b)
  refine ⟨lk, a1, ?_, ?_⟩
  · have := Sp.add (n := n) (List.mem_cons_self (a := h) (l := B)) (Sp.mono (C := h :: B) (fun b hb => List.mem_cons_of_mem _ hb) a3)
    rw [← a4] at this
    exact this
  · have e : xr (red1 B h) s = h := by rw [a4, xr_assoc (by rw [hl, ls]) rfl, xr_self, ls, xr_nul hl]
    have := Sp.add (n := n) (List.mem_cons_self (a := red1 B h) (l := B)) (Sp.mono (C := red1 B h :: B) (fun b hb => List.mem_cons_of_mem _ hb) a3)
    rw [e] at this
    exact this
/-- r, freed of head's mark at p -/
def clr (p : Nat) (head r : List Bool) : List Bool := if gt r p then xr r head else r
theorem clr_len {p : Nat} {head r : List Bool} (h : head.length = n) (k : r.length = n) : (clr p head r).length = n := by
  unfold clr
  split
  · rw [xr_len (by rw [h, k]), k]
  · exact k
theorem clr_at {p : Nat} {head r : List Bool} (h : head.length = n) (k : r.length = n) (hp : gt head p = true) : gt (clr p head r) p = false := by
  unfold clr
  split
  · rename_i q
    rw [gt_xr (by rw [h, k]), q, hp]
    rfl
  · rename_i q
    simpa using q
theorem clr_other {p q : Nat} {head r : List Bool} (h : head.length = n) (k : r.length = n) (hq : gt head q = false) : gt (clr p head r) q = gt r q := by
  unfold clr
  split
  · rw [gt_xr (by rw [h, k]), hq, Bool.xor_false]
  · rfl
theorem clr_sp {p : Nat} {head r : List Bool} (hL : Len n C) (h : Sp n C head) (k : Sp n C r) : Sp n C (clr p head r) := by
  unfold clr
  split
  · exact k.xr hL h
  · exact k
theorem sp_clr {p : Nat} {head r : List Bool} (hL : Len n C) (l1 : head.length = n) (l2 : r.length = n) (h : Sp n C head) (k : Sp n C (clr p head r)) : Sp n C r := by
  unfold clr at k
  split at k
  · have := k.xr hL h
    rw [xr_assoc (by rw [l1, l2]) rfl, xr_self, l1, xr_nul l2] at this
    exact this
  · exact k
theorem lead_same {a b : List Bool} (h : true ∈ a) (e : ∀ q, q ≤ lead a → gt b q = gt a q) : lead b = lead a :=
  lead_eq (by rw [e _ (Nat.le_refl _), lead_gt h]) fun q hq => by rw [e q (Nat.le_of_lt hq), lead_below hq]
theorem step_red (r : Red n B) {h : List Bool} (hl : h.length = n) : Red n (stepP B h) ∧ ∀ v, Sp n (stepP B h) v ↔ Sp n (h :: B) v := by
  have L1 : Len n (h :: B) := fun b hb => (List.mem_cons.mp hb).elim (fun e => e ▸ hl) (r.len b)
  obtain ⟨lk, k0, k1, k2⟩ := red_row r rfl hl
  unfold stepP
  generalize hk : red1 B h = k at *
  have Lk : Len n (k :: B) := fun b hb => (List.mem_cons.mp hb).elim (fun e => e ▸ lk) (r.len b)
  cases hc : k.contains true with
  | false =>
    simp only [Bool.false_eq_true, if_false]
    have hn : true ∉ k := fun z => by rw [List.contains_iff_mem.mpr z] at hc; cases hc
    have ek := not_nul lk hn
    refine ⟨r, fun v => ⟨fun s => s.mono fun b hb => List.mem_cons_of_mem _ hb, fun s => s.sub r.len fun b hb => ?_⟩⟩
    rcases List.mem_cons.mp hb with rfl | hb
    · refine k2.sub r.len fun c hc => ?_
      rcases List.mem_cons.mp hc with rfl | hc
      · rw [ek]
        exact .zero
      · exact Sp.mem r.len hc
    · exact Sp.mem r.len hb
  | true =>
    simp only [if_true]
    have hm : true ∈ k := List.contains_iff_mem.mp hc
    have pk := lead_gt hm
    show Red n (B.map (clr (lead k) k) ++ [k]) ∧ ∀ v, Sp n (B.map (clr (lead k) k) ++ [k]) v ↔ _
    have LM : Len n (B.map (clr (lead k) k) ++ [k]) := fun b hb => by
      rcases List.mem_append.mp hb with hb | hb
      · obtain ⟨c, hc, rfl⟩ := List.mem_map.mp hb
        exact clr_len lk (r.len c hc)
      · rw [List.mem_singleton.mp hb]
        exact lk
    -- the leads stay
    have ld : ∀ b ∈ B, lead (clr (lead k) k b) = lead b := fun b hb => by
      unfold clr
      split
      · rename_i q
        have h1 := lead_le q
        have h2 : lead b ≠ lead k := fun z => by
          have := k0 b hb
          rw [z, pk] at this
          cases this
        refine lead_same (r.ne b hb) fun q' hq' => ?_
        rw [gt_xr (by rw [r.len b hb, lk]), lead_below (r := k) (by omega), Bool.xor_false]
      · rfl
    have un : ∀ b ∈ B, ∀ c ∈ B, b ≠ c → gt (clr (lead k) k b) (lead c) = false := fun b hb c hc hne => by rw [clr_other lk (r.len b hb) (k0 c hc), r.un b hb c hc hne]
    refine ⟨⟨LM, fun b hb => ?_, fun b hb c hc hne => ?_, ?_⟩, fun v => ⟨fun s => s.sub L1 fun b hb => ?_, fun s => s.sub LM fun b hb => ?_⟩⟩
    · rcases List.mem_append.mp hb with hb | hb
      · obtain ⟨c, hc, rfl⟩ := List.mem_map.mp hb
        refine mem_of_gt (q := lead c) ?_
        rw [clr_other lk (r.len c hc) (k0 c hc), lead_gt (r.ne c hc)]
      · rw [List.mem_singleton.mp hb]
        exact hm
    · rcases List.mem_append.mp hb with hb | hb <;> rcases List.mem_append.mp hc with hc | hc
      · obtain ⟨b', hb', rfl⟩ := List.mem_map.mp hb
        obtain ⟨c', hc', rfl⟩ := List.mem_map.mp hc
        rw [ld c' hc']
        exact un b' hb' c' hc' fun z => hne (by rw [z])
      · obtain ⟨b', hb', rfl⟩ := List.mem_map.mp hb
        rw [List.mem_singleton.mp hc]
        exact clr_at lk (r.len b' hb') pk
      · obtain ⟨c', hc', rfl⟩ := List.mem_map.mp hc
        rw [List.mem_singleton.mp hb, ld c' hc']
        exact k0 c' hc'
      · exact (hne ((List.mem_singleton.mp hb).trans (List.mem_singleton.mp hc).symm)).elim
    · refine List.nodup_append.mpr ⟨?_, by simp, fun a ha b hb z => ?_⟩
      · refine List.Pairwise.map _ (fun a b z => z) ?_
        refine List.Pairwise.imp_of_mem (fun {a b} ha hb hne z => ?_) r.nd
        have h1 : lead a = lead b := by rw [← ld a ha, ← ld b hb, z]
        have h2 := r.un a ha b hb hne
        rw [← h1, lead_gt (r.ne a ha)] at h2
        cases h2
      · obtain ⟨c, hc, rfl⟩ := List.mem_map.mp ha
        have h1 : gt (clr (lead k) k c) (lead k) = false := clr_at lk (r.len c hc) pk
        rw [z, List.mem_singleton.mp hb, pk] at h1
        cases h1
    · rcases List.mem_append.mp hb with hb | hb
      · obtain ⟨c, hc, rfl⟩ := List.mem_map.mp hb
        exact clr_sp L1 k1 (Sp.mem L1 (List.mem_cons_of_mem _ hc))
      · rw [List.mem_singleton.mp hb]
        exact k1
    · have sk : Sp n (B.map (clr (lead k) k) ++ [k]) k := Sp.mem LM (by simp)
      have sb : ∀ c ∈ B, Sp n (B.map (clr (lead k) k) ++ [k]) c := fun c hc => sp_clr LM lk (r.len c hc) sk (Sp.mem LM (List.mem_append_left _ (List.mem_map.mpr ⟨c, hc, rfl⟩)))
      rcases List.mem_cons.mp hb with rfl | hb
      · exact k2.sub LM fun c hc => (List.mem_cons.mp hc).elim (fun e => e ▸ sk) (sb c)
      · exact sb b hb
theorem told_go : ∀ (rows B : List (List Bool)), Red n B → Len n rows → Red n (rows.foldl stepP B) ∧ ∀ v, Sp n (rows.foldl stepP B) v ↔ Sp n (rows ++ B) v
  | [], B, r, _ => ⟨r, fun v => Iff.rfl⟩
  | h :: rows, B, r, hL => by
    obtain ⟨r1, s1⟩ := step_red r (hL h (List.mem_cons_self ..))
    obtain ⟨r2, s2⟩ := told_go rows (stepP B h) r1 fun b hb => hL b (List.mem_cons_of_mem _ hb)
    have L2 : Len n (rows ++ stepP B h) := fun b hb => (List.mem_append.mp hb).elim (fun z => hL b (List.mem_cons_of_mem _ z)) (r1.len b)
    have L3 : Len n (h :: rows ++ B) := fun b hb => (List.mem_append.mp hb).elim (hL b) (r.len b)
    refine ⟨r2, fun v => (s2 v).trans ⟨fun s => s.sub L3 fun b hb => ?_, fun s => s.sub L2 fun b hb => ?_⟩⟩
    · rcases List.mem_append.mp hb with hb | hb
      · exact Sp.mem L3 (List.mem_append_left _ (List.mem_cons_of_mem _ hb))
      · refine ((s1 b).mp (Sp.mem r1.len hb)).mono fun c hc => ?_
        rcases List.mem_cons.mp hc with rfl | hc
        · exact List.mem_append_left _ (List.mem_cons_self ..)
        · exact List.mem_append_right _ hc
    · have big : ∀ c, c ∈ h :: B → Sp n (rows ++ stepP B h) c := fun c hc => ((s1 c).mpr (Sp.mem (fun b hb => (List.mem_cons.mp hb).elim (fun e => e ▸ hL h (List.mem_cons_self ..)) (r.len b)) hc)).mono fun d hd => List.mem_append_right _ hd
      rcases List.mem_append.mp hb with hb | hb
      · rcases List.mem_cons.mp hb with rfl | hb
        · exact big _ (List.mem_cons_self ..)
        · exact Sp.mem L2 (List.mem_append_left _ hb)
      · exact big _ (List.mem_cons_of_mem _ hb)
theorem red_nil : Red n [] := ⟨fun b hb => (by cases hb), fun b hb => (by cases hb), fun b hb => (by cases hb), List.nodup_nil⟩
theorem told_red {rows : List (List Bool)} (h : Len n rows) : Red n (toldP rows) ∧ ∀ v, Sp n (toldP rows) v ↔ Sp n rows v := by
  have := told_go rows [] red_nil h
  rw [List.append_nil] at this
  exact this
/-- put in a sequence by leads -/
theorem Rref.of_perm {rows S : List (List Bool)} (r : Red n B) (h : ∀ v, Sp n B v ↔ Sp n rows v) (p : S.Perm B) (asc : S.Pairwise fun a b => lead a < lead b) : Rref n rows S := by
  have m : ∀ b, b ∈ S ↔ b ∈ B := fun b => p.mem_iff
  refine ⟨⟨fun b hb => r.len b ((m b).mp hb), fun b hb => r.ne b ((m b).mp hb), fun b hb c hc => r.un b ((m b).mp hb) c ((m c).mp hc), p.nodup_iff.mpr r.nd⟩, asc, fun v => ?_⟩
  exact (show Sp n S v ↔ Sp n B v from ⟨fun s => s.mono fun b => (m b).mp, fun s => s.mono fun b => (m b).mpr⟩).trans (h v)
/-! ### place by place -/
end
end Z
set_option Elab.async false
set_option linter.all false
set_option maxRecDepth 100000
set_option maxHeartbeats 4000000
/-! G3: rows of marks below two as data. -/
namespace Z
open PySem PySem.Spec PyProof.Rows L2
def bI (b : Bool) : Int := if b then 1 else 0
def rowI (r : List Bool) : List Int := r.map bI
abbrev rowD (r : List Bool) : D := tI (rowI r)
abbrev rowsD (B : List (List Bool)) : List D := B.map rowD
theorem bI_inj {a b : Bool} : bI a = bI b ↔ a = b := by cases a <;> cases b <;> decide
theorem rowI_inj : ∀ {a b : List Bool}, rowI a = rowI b ↔ a = b
  | [], [] => by simp [rowI]
  | [], _ :: _ => by simp [rowI]
  | _ :: _, [] => by simp [rowI]
  | a :: as, b :: bs => by
    have ih := rowI_inj (a := as) (b := bs)
    simp only [rowI, List.map_cons, List.cons.injEq] at ih ⊢
    rw [bI_inj, ih]
theorem solid_rowD (r : List Bool) : solid (rowD r) = true := solid_tI _
theorem solids_rowsD (B : List (List Bool)) : solids (rowsD B) = true := solids_of fun r _ => solid_rowD r
theorem eqvAll_ints : ∀ xs ys : List Int, PyData.eqvAll (xs.map .int) (ys.map .int) = decide (xs = ys)
  | [], [] => by simp [PyData.eqvAll]
  | [], _ :: _ => by simp [PyData.eqvAll]
  | _ :: _, [] => by simp [PyData.eqvAll]
  | x :: xs, y :: ys => by
    simp only [List.map_cons, PyData.eqvAll, PyData.eqv, eqvAll_ints xs ys]
    by_cases h : x = y <;> by_cases k : xs = ys <;> simp [h, k]
theorem eqv_tI (xs ys : List Int) : PyData.eqv (tI xs) (tI ys) = decide (xs = ys) := by
  show PyData.eqv (.tuple _) (.tuple _) = _
  simp only [PyData.eqv]
  exact eqvAll_ints xs ys
theorem eqv_rowD (a b : List Bool) : PyData.eqv (rowD a) (rowD b) = (a == b) := by
  unfold rowD
  rw [eqv_tI]
  by_cases h : a = b
  · simp [h]
  · have : ¬ rowI a = rowI b := fun z => h (rowI_inj.mp z)
    simp [h, this]
theorem plain_ints (xs : List Int) : PyData.plainAll (xs.map .int) = true := plainAll_of fun d hd => by
  obtain ⟨x, _, rfl⟩ := List.mem_map.mp hd
  simp [PyData.plain, PyData.canLay0]
theorem depth_ints0 (xs : List Int) : PyData.depthAll (xs.map .int) = 0 := PySem.W.depth_ints xs
theorem plain_rowD (r : List Bool) : (rowD r).plain = true := by
  show PyData.plain (.tuple _) = true
  simp only [PyData.plain]
  exact plain_ints _
theorem depth_rowD (r : List Bool) : (rowD r).depth = 1 := by
  show PyData.depth (.tuple _) = 1
  simp only [PyData.depth]
  rw [depth_ints0]
theorem plain_rowsD (B : List (List Bool)) : PyData.plainAll (rowsD B) = true := plainAll_of fun d hd => by
  obtain ⟨x, _, rfl⟩ := List.mem_map.mp hd
  exact plain_rowD x
theorem depth_rowsD (B : List (List Bool)) : PyData.depthAll (rowsD B) ≤ 1 := depthAll_of fun d hd => by
  obtain ⟨x, _, rfl⟩ := List.mem_map.mp hd
  exact Nat.le_of_eq (depth_rowD x)
theorem fEq_bI {neg : Bool} {a b : Bool} {R : D → Prop} (h : R (.bool (if neg then !(a == b) else (a == b)))) : fEq neg (.int (bI a)) (.int (bI b)) R := fEq_int (by
  have : (bI a == bI b) = (a == b) := by cases a <;> cases b <;> rfl
  rw [this]
  exact h)
theorem at_rowD {r : List Bool} {p : Nat} (h : p < r.length) : ((rowI r).map PyData.int)[p]? = some (.int (bI (gt r p))) := by
  unfold rowI gt
  rw [List.getElem?_map, List.getElem?_map, List.getD_eq_getElem?_getD, List.getElem?_eq_getElem h]
  rfl
theorem fIx_rowD {r : List Bool} {p : Nat} {R : D → Prop} (h : p < r.length) (k : R (.int (bI (gt r p)))) : fIx (rowD r) (.int p) R := ⟨_, atI_ok (at_rowD h) rfl, k⟩
theorem bI_small (b : Bool) : (bI b).natAbs < 10 ^ 12 := by cases b <;> decide
theorem okI {xs : List Int} {n : Nat} (hn : xs.length ≤ n) (h : ∀ x ∈ xs, x.natAbs < 10 ^ 12) : Ok 1 (n * 15 + 3) (tI xs) :=
  Ok.tuple (fun d hd => by obtain ⟨x, hx, rfl⟩ := List.mem_map.mp hd; exact Ok.int (h x hx)) (by simpa using hn)
theorem ok_rowD {r : List Bool} {n : Nat} (h : r.length ≤ n) : Ok 1 (n * 15 + 3) (rowD r) := okI (by simpa [rowI] using h) fun x hx => by
  obtain ⟨b, _, rfl⟩ := List.mem_map.mp hx
  exact bI_small b
theorem ok_rowsD {B : List (List Bool)} {n m : Nat} (h : ∀ r ∈ B, r.length ≤ n) (k : B.length ≤ m) : Ok 2 (m * (n * 15 + 5) + 3) (.tuple (rowsD B)) :=
  Ok.tuple (fun d hd => by obtain ⟨x, hx, rfl⟩ := List.mem_map.mp hd; exact ok_rowD (h x hx)) (by simpa [rowsD] using k)
/-! ### sorted rows -/
theorem alike_rowD (a b : List Bool) : PySem.W.alike (rowD a) (rowD b) = true := by
  show PySem.W.alike (.tuple _) (.tuple _) = true
  simp only [PySem.W.alike]
  exact PySem.W.alike_ints _ _
theorem sortOk_rowsD {B : List (List Bool)} {n : Nat} (h : Len (n + 1) B) (k : B.length ≤ 10000000) : SortOk (rowsD B) := by
  refine ⟨plain_rowsD B, PySem.W.AllAlike.of alike_rowD, .inl fun d hd => ?_, by simpa [rowsD] using k, Nat.le_trans (depth_rowsD B) (by decide)⟩
  obtain ⟨r, hr, rfl⟩ := List.mem_map.mp hd
  have hl := h r hr
  cases r with
  | nil => simp at hl
  | cons x xs => exact ⟨_, _, rfl⟩
theorem dataLe_up : PySem.W.dataLe (β := List Bool) false rowD = fun a b => decide (rowI a ≤ rowI b) := by
  funext a b
  show (!PySem.W.dataLt (.tuple ((rowI b).map .int)) (.tuple ((rowI a).map .int))) = _
  rw [PySem.W.dataLt_tuple]
  show (!PySem.W.rowLt ((rowI b).map .int) ((rowI a).map .int)) = _
  rw [PySem.W.dataLt_ints]
  by_cases h : rowI b < rowI a
  · have h' : ¬ rowI a ≤ rowI b := fun r => List.not_lt.mpr r h
    simp [h, h']
  · have h' : rowI a ≤ rowI b := List.not_lt.mp h
    simp [h, h']
theorem dataLe_down : PySem.W.dataLe (β := List Bool) true rowD = fun a b => decide (rowI b ≤ rowI a) := by
  funext a b
  have := congrFun (congrFun dataLe_up b) a
  exact this
theorem sortD_map (b : Bool) (B : List (List Bool)) : sortD b (rowsD B) = rowsD (B.mergeSort (PySem.W.dataLe b rowD)) := by
  have := List.map_mergeSort (r := PySem.W.dataLe (β := List Bool) b rowD) (s := PySem.W.dataLe b id) (f := rowD) (l := B) (fun a _ b' _ => rfl)
  exact this.symm
theorem sort_pairs (b : Bool) (B : List (List Bool)) : (B.mergeSort (PySem.W.dataLe b rowD)).Pairwise fun x y => PySem.W.dataLe b rowD x y = true :=
  have t := PySem.W.sortLe_total (PyProof.Rows.listOrd PyProof.Rows.itemOrd) b (fun r : List Bool => PySem.W.keyToks (rowD r))
  List.pairwise_mergeSort t.trans (fun a b => by rw [Bool.or_eq_true]; exact t.total a b) B
theorem lex_lead : ∀ {a b : List Bool}, a.length = b.length → true ∈ b → lead b < lead a → rowI a < rowI b
  | [], [], _, h, _ => by cases h
  | [], _ :: _, h, _, _ => by simp at h
  | _ :: _, [], h, _, _ => by simp at h
  | x :: xs, y :: ys, hl, hm, hlt => by
    unfold lead at hlt
    rw [List.idxOf_cons, List.idxOf_cons] at hlt
    show (bI x :: rowI xs) < (bI y :: rowI ys)
    rw [List.cons_lt_cons_iff]
    cases x with
    | true => simp at hlt
    | false =>
      cases y with
      | true => exact .inl (by decide)
      | false =>
        refine .inr ⟨rfl, lex_lead (by simpa using hl) (by simpa using hm) ?_⟩
        simpa [lead] using hlt
/-- sorted downwards: by ascending leads -/
theorem sort_asc {n : Nat} {B : List (List Bool)} (r : Red n B) : (B.mergeSort (PySem.W.dataLe true rowD)).Perm B ∧ (B.mergeSort (PySem.W.dataLe true rowD)).Pairwise fun a b => lead a < lead b := by
  have p : (B.mergeSort (PySem.W.dataLe true rowD)).Perm B := List.mergeSort_perm _ _
  refine ⟨p, ?_⟩
  have nd := p.nodup_iff.mpr r.nd
  refine List.Pairwise.imp_of_mem (fun {a b} ha hb h => ?_) ((sort_pairs true B).and nd)
  obtain ⟨h1, h2⟩ := h
  have ma := p.mem_iff.mp ha
  have mb := p.mem_iff.mp hb
  rw [dataLe_down] at h1
  have h3 := of_decide_eq_true h1
  rcases Nat.lt_trichotomy (lead a) (lead b) with z | z | z
  · exact z
  · have := r.un a ma b mb h2
    rw [← z, lead_gt (r.ne a ma)] at this
    cases this
  · exact (List.not_lt.mpr h3 (lex_lead (by rw [r.len a ma, r.len b mb]) (r.ne b mb) z)).elim
/-! ### walks over rows -/
theorem row_ints (r : List Bool) : (rowI r).map PyData.int = r.map fun b => .int (bI b) := by simp [rowI, List.map_map, Function.comp_def]
theorem zipD_map {α β : Type} (f : α → D) (g : β → D) : ∀ (xs : List α) (ys : List β), zipD (xs.map f) (ys.map g) = (xs.zip ys).map fun p => .tuple [f p.1, g p.2]
  | [], _ => rfl
  | _ :: _, [] => rfl
  | x :: xs, y :: ys => by
    have := zipD_map f g xs ys
    unfold zipD at this ⊢
    rw [List.map_cons, List.map_cons, List.zipWith_cons_cons, List.zip_cons_cons, List.map_cons, this]
theorem xr_zip : ∀ (a b : List Bool), ((a.zip b).map fun p => (.int (bI (p.1 ^^ p.2)) : D)) = (rowI (xr a b)).map .int
  | [], _ => rfl
  | _ :: _, [] => rfl
  | x :: xs, y :: ys => by
    have := xr_zip xs ys
    rw [List.zip_cons_cons, List.map_cons, this]
    rfl
theorem nul_flat (n : Nat) : (List.replicate n [(.int 0 : D)]).flatten = (rowI (nul n)).map .int := by
  unfold rowI nul
  rw [List.map_replicate, List.map_replicate]
  induction n with
  | zero => rfl
  | succ n ih => rw [List.replicate_succ, List.flatten_cons, ih, List.replicate_succ]; rfl
theorem fEq_rows_nil {neg : Bool} {B : List (List Bool)} {R : D → Prop} (h : R (.bool (if neg then !B.isEmpty else B.isEmpty))) : fEq neg (.list (rowsD B)) (.list []) R := by
  refine ⟨?_, by simp [PyData.plain, PyData.plainAll], ?_, ?_⟩
  · simp only [PyData.plain]; exact plain_rowsD B
  · simp only [PyData.depth, PyData.depthAll]; omega
  · have e : PyData.eqv (.list (rowsD B)) (.list []) = B.isEmpty := by cases B <;> simp [PyData.eqv, PyData.eqvAll]
    rw [e]
    exact h
theorem fEq_eq {x : Str} {R : D → Prop} (h : R (.bool false)) : fEq true (.str x) (.str x) R := fEq_str (by simpa using h)
theorem cutL_take {α : Type} (xs : List α) (k : Nat) : cutL xs none (some (k : Int)) = xs.take k := by
  unfold cutL
  rw [HT.sIx_none, HT.sIx_nat, List.drop_zero, Nat.sub_zero]
  rcases Nat.le_total k xs.length with h | h
  · rw [Nat.min_eq_left h]
  · rw [Nat.min_eq_right h, List.take_of_length_le (Nat.le_refl _), List.take_of_length_le h]
end Z
set_option Elab.async false
set_option linter.all false
/-! G4: rows by numbers. -/
namespace Z
section
variable {n : Nat} {B S : List (List Bool)}
/-- the sum of those rows that are asked for -/
def cmb (n : Nat) : List Bool → List (List Bool) → List Bool
  | c :: cs, b :: B => if c then xr b (cmb n cs B) else cmb n cs B
  | _, _ => nul n
def bits : Nat → Nat → List Bool
  | 0, _ => []
  | k + 1, x => ((x / 2 ^ k) % 2 != 0) :: bits k x
def bN (b : Bool) : Nat := if b then 1 else 0
theorem cmb_len (h : Len n B) : ∀ cs, (cmb n cs B).length = n := by
  induction B with
  | nil => intro cs; cases cs <;> exact nul_len n
  | cons b B ih =>
    have ih := ih fun c hc => h c (List.mem_cons_of_mem _ hc)
    intro cs
    cases cs with
    | nil => exact nul_len n
    | cons c cs =>
      unfold cmb
      split
      · rw [xr_len (by rw [ih, h b (List.mem_cons_self ..)]), h b (List.mem_cons_self ..)]
      · exact ih cs
theorem cmb_sp (h : Len n B) : ∀ cs, Sp n B (cmb n cs B) := by
  induction B with
  | nil => intro cs; cases cs <;> exact .zero
  | cons b B ih =>
    have ih := ih fun c hc => h c (List.mem_cons_of_mem _ hc)
    intro cs
    cases cs with
    | nil => exact .zero
    | cons c cs =>
      unfold cmb
      have := (ih cs).mono (C := b :: B) fun d hd => List.mem_cons_of_mem _ hd
      split
      · exact .add (List.mem_cons_self ..) this
      · exact this
theorem gt_cmb (h : Len n B) (f : List Bool → Bool) (p : Nat) : gt (cmb n (B.map f) B) p = par f B p := by
  induction B with
  | nil => exact gt_nul n p
  | cons b B ih =>
    have hB : Len n B := fun c hc => h c (List.mem_cons_of_mem _ hc)
    have ih := ih hB
    show gt (if f b then xr b (cmb n (B.map f) B) else cmb n (B.map f) B) p = ((f b && gt b p) ^^ par f B p)
    cases f b with
    | true =>
      simp only [if_true]
      rw [gt_xr (by rw [h b (List.mem_cons_self ..), cmb_len hB]), ih]
      simp
    | false => simp [ih]
theorem Red.cmb (r : Red n S) {v : List Bool} (s : Sp n S v) : v = cmb n (S.map fun b => gt v (lead b)) S :=
  row_ext (by rw [s.len r.len, cmb_len r.len]) fun p => by rw [gt_cmb r.len]; exact r.tell s p
theorem bits_mod : ∀ (k x : Nat), bits k (x % 2 ^ k) = bits k x
  | 0, _ => rfl
  | k + 1, x => by
    have e1 : x % 2 ^ (k + 1) / 2 ^ k % 2 = x / 2 ^ k % 2 := by
      rw [Nat.pow_succ, Nat.mod_mul_right_div_self, Nat.mod_mod]
    have e2 : bits k (x % 2 ^ (k + 1)) = bits k x := by
      rw [← bits_mod k (x % 2 ^ (k + 1)), ← bits_mod k x, Nat.pow_succ, Nat.mod_mul_right_mod]
    unfold bits
    rw [e1, e2]
/-! ### numbers ascend as rows do -/
def Below (S : List (List Bool)) (u v : List Bool) : Prop := ∃ p, (∃ b ∈ S, lead b = p) ∧ (∀ q, q < p → gt u q = gt v q) ∧ gt u p = false ∧ gt v p = true
theorem lex_at : ∀ {a b : List Bool} {p : Nat}, a.length = b.length → (∀ q, q < p → gt a q = gt b q) → gt a p = false → gt b p = true → rowI a < rowI b
  | [], [], p, _, _, _, h => by simp [gt] at h
  | [], _ :: _, _, h, _, _, _ => by simp at h
  | _ :: _, [], _, h, _, _, _ => by simp at h
  | x :: xs, y :: ys, p, hl, he, h0, h1 => by
    show (bI x :: rowI xs) < (bI y :: rowI ys)
    rw [List.cons_lt_cons_iff]
    cases p with
    | zero =>
      have e0 : x = false := h0
      have e1 : y = true := h1
      subst e0 e1
      exact .inl (by decide)
    | succ p =>
      have e : x = y := he 0 (Nat.succ_pos p)
      subst e
      exact .inr ⟨rfl, lex_at (by simpa using hl) (fun q hq => he (q + 1) (Nat.succ_lt_succ hq)) h0 h1⟩
theorem cmb_below : ∀ {S : List (List Bool)}, Red n S → S.Pairwise (fun a b => lead a < lead b) → ∀ x y, x < y → y < 2 ^ S.length → Below S (cmb n (bits S.length x) S) (cmb n (bits S.length y) S)
  | [], _, _, x, y, h1, h2 => by simp at h2; omega
  | b :: S, r, asc, x, y, h1, h2 => by
    have hb := r.len b (List.mem_cons_self ..)
    have hS : Red n S := ⟨fun c hc => r.len c (List.mem_cons_of_mem _ hc), fun c hc => r.ne c (List.mem_cons_of_mem _ hc), fun c hc d hd => r.un c (List.mem_cons_of_mem _ hc) d (List.mem_cons_of_mem _ hd), (List.nodup_cons.mp r.nd).2⟩
    rw [List.pairwise_cons] at asc
    have nb : ∀ c ∈ S, c ≠ b := fun c hc z => (List.nodup_cons.mp r.nd).1 (z ▸ hc)
    have lo : ∀ cs q, q ≤ lead b → gt (cmb n cs S) q = false := fun cs q hq => by
      rw [hS.tell (cmb_sp hS.len cs)]
      refine par_none fun c hc _ => ?_
      exact lead_below (Nat.lt_of_le_of_lt hq (asc.1 c hc))
    have lx : ∀ z, bits (b :: S).length z = ((z / 2 ^ S.length) % 2 != 0) :: bits S.length z := fun z => rfl
    rw [lx, lx]
    have pw : 2 ^ (b :: S).length = 2 ^ S.length * 2 := by rw [List.length_cons, Nat.pow_succ]
    rw [pw] at h2
    have P := Nat.two_pow_pos S.length
    have y2 : y / 2 ^ S.length < 2 := Nat.div_lt_of_lt_mul h2
    have x2 : x / 2 ^ S.length < 2 := Nat.div_lt_of_lt_mul (by omega)
    have xy : x / 2 ^ S.length ≤ y / 2 ^ S.length := Nat.div_le_div_right (by omega)
    have dx := Nat.div_add_mod x (2 ^ S.length)
    have dy := Nat.div_add_mod y (2 ^ S.length)
    have mx := Nat.mod_lt x P
    have my := Nat.mod_lt y P
    rcases Nat.lt_or_ge (x / 2 ^ S.length) (y / 2 ^ S.length) with z | z
    · have two : ∀ a b : Nat, a < b → b < 2 → a = 0 ∧ b = 1 := fun a b _ _ => by omega
      obtain ⟨ex, ey⟩ := two _ _ z y2
      rw [ex, ey]
      show Below _ (cmb n (bits S.length x) S) (xr b (cmb n (bits S.length y) S))
      have lc := cmb_len hS.len (bits S.length y)
      refine ⟨lead b, ⟨b, List.mem_cons_self .., rfl⟩, fun q hq => ?_, lo _ _ (Nat.le_refl _), ?_⟩
      · rw [lo _ q (Nat.le_of_lt hq), gt_xr (by rw [hb, lc]), lead_below hq, lo _ q (Nat.le_of_lt hq)]
        rfl
      · rw [gt_xr (by rw [hb, lc]), lead_gt (r.ne b (List.mem_cons_self ..)), lo _ _ (Nat.le_refl _)]
        rfl
    · have e : x / 2 ^ S.length = y / 2 ^ S.length := Nat.le_antisymm xy z
      have hlt : x % 2 ^ S.length < y % 2 ^ S.length := by rw [e] at dx; omega
      obtain ⟨p, ⟨c, hc, hp⟩, q1, q2, q3⟩ := cmb_below hS asc.2 _ _ hlt my
      rw [bits_mod, bits_mod] at q1
      rw [bits_mod] at q2 q3
      rw [e]
      have l1 := cmb_len hS.len (bits S.length x)
      have l2 := cmb_len hS.len (bits S.length y)
      unfold cmb
      split
      · have zb : gt b p = false := by rw [← hp]; exact r.un b (List.mem_cons_self ..) c (List.mem_cons_of_mem _ hc) (Ne.symm (nb c hc))
        exact ⟨p, ⟨c, List.mem_cons_of_mem _ hc, hp⟩, fun q hq => by rw [gt_xr (by rw [hb, l1]), gt_xr (by rw [hb, l2]), q1 q hq], by rw [gt_xr (by rw [hb, l1]), zb, q2]; rfl, by rw [gt_xr (by rw [hb, l2]), zb, q3]; rfl⟩
      · exact ⟨p, ⟨c, List.mem_cons_of_mem _ hc, hp⟩, q1, q2, q3⟩
def numbered (n : Nat) (S : List (List Bool)) : List (List Bool) := (List.range (2 ^ S.length)).map fun x => cmb n (bits S.length x) S
theorem numbered_asc (r : Red n S) (asc : S.Pairwise fun a b => lead a < lead b) : (numbered n S).Pairwise fun a b => rowI a < rowI b := by
  unfold numbered
  rw [List.pairwise_map]
  refine List.Pairwise.imp_of_mem (fun {x y} hx hy h => ?_) List.pairwise_lt_range
  obtain ⟨p, _, q1, q2, q3⟩ := cmb_below r asc x y h (List.mem_range.mp hy)
  exact lex_at (by rw [cmb_len r.len, cmb_len r.len]) q1 q2 q3
theorem perm_of_sub {α : Type} [BEq α] [LawfulBEq α] : ∀ (A M : List α), A.Nodup → (∀ a ∈ A, a ∈ M) → M.length ≤ A.length → M.Perm A
  | [], M, _, _, h => by
    have := List.eq_nil_of_length_eq_zero (Nat.le_zero.mp h)
    subst this
    exact .nil
  | a :: A, M, nd, hs, h => by
    have nd' := List.nodup_cons.mp nd
    have ha := hs a (List.mem_cons_self ..)
    have p := List.perm_cons_erase ha
    refine p.trans (List.Perm.cons a (perm_of_sub A (M.erase a) nd'.2 (fun b hb => ?_) ?_))
    · exact (List.mem_erase_of_ne fun e => nd'.1 (by rw [← e]; exact hb)).mpr (hs b (List.mem_cons_of_mem _ hb))
    · have := List.length_erase_of_mem ha
      simp at h
      omega
theorem sorted_unique {α : Type} {key : α → List Int} : ∀ (M N : List α), M.Perm N → M.Pairwise (fun a b => key a ≤ key b) → N.Pairwise (fun a b => key a < key b) → M = N
  | [], N, p, _, _ => by rw [p.symm.eq_nil]
  | m :: M, [], p, _, _ => by cases p.eq_nil
  | m :: M, c :: N, p, hM, hN => by
    rw [List.pairwise_cons] at hM hN
    have e : m = c := by
      rcases List.mem_cons.mp (p.mem_iff.mp (List.mem_cons_self (a := m))) with z | z
      · exact z
      · rcases List.mem_cons.mp (p.mem_iff.mpr (List.mem_cons_self (a := c))) with y | y
        · exact y.symm
        · have h1 := hM.1 c y
          have h2 := hN.1 m z
          exact (List.not_lt.mpr h1 h2).elim
    subst e
    rw [sorted_unique M N (List.perm_cons _ |>.mp p) hM.2 hN.2]
/-! ### all sums -/
def sums (n : Nat) (B : List (List Bool)) : List (List Bool) := B.foldl (fun F b => F ++ F.map (xr b)) [nul n]
theorem sums_go (hB : Len n B) : ∀ (C F : List (List Bool)), (∀ c ∈ C, c ∈ B) → (∀ v ∈ F, Sp n B v) → ∀ v ∈ C.foldl (fun F b => F ++ F.map (xr b)) F, Sp n B v
  | [], F, _, h, v, hv => h v hv
  | c :: C, F, hC, h, v, hv => sums_go hB C (F ++ F.map (xr c)) (fun d hd => hC d (List.mem_cons_of_mem _ hd)) (fun w hw => by
      rcases List.mem_append.mp hw with hw | hw
      · exact h w hw
      · obtain ⟨u, hu, rfl⟩ := List.mem_map.mp hw
        exact .add (hC c (List.mem_cons_self ..)) (h u hu)) v hv
theorem sums_len : ∀ (C F : List (List Bool)), (C.foldl (fun F b => F ++ F.map (xr b)) F).length = F.length * 2 ^ C.length
  | [], F => by simp
  | c :: C, F => by
    rw [List.foldl_cons, sums_len C, List.length_append, List.length_map, List.length_cons, Nat.pow_succ]
    have : (F.length + F.length) * 2 ^ C.length = F.length * (2 ^ C.length * 2) := by rw [Nat.add_mul, Nat.mul_comm (2 ^ C.length) 2, ← Nat.mul_assoc, Nat.mul_two, Nat.add_mul]
    exact this
theorem sums_all (hB : Len n B) {v : List Bool} (s : Sp n B v) : v ∈ sums n B := by
  -- closed under what was added
  have go : ∀ (C F D : List (List Bool)), Len n C → Len n D → Len n F → nul n ∈ F → (∀ d ∈ D, ∀ v ∈ F, xr d v ∈ F) → nul n ∈ C.foldl (fun F b => F ++ F.map (xr b)) F ∧ ∀ d, d ∈ D ∨ d ∈ C → ∀ v ∈ C.foldl (fun F b => F ++ F.map (xr b)) F, xr d v ∈ C.foldl (fun F b => F ++ F.map (xr b)) F := fun C => by
    induction C with
    | nil => exact fun F D _ _ _ h0 h => ⟨h0, fun d hd => h d (hd.resolve_right fun z => by cases z)⟩
    | cons c C ih =>
      intro F D hC hD hF h0 h
      have lc := hC c (List.mem_cons_self ..)
      have := ih (F ++ F.map (xr c)) (c :: D) (fun d hd => hC d (List.mem_cons_of_mem _ hd)) (fun d hd => (List.mem_cons.mp hd).elim (fun e => e ▸ lc) (hD d)) (fun w hw => by
        rcases List.mem_append.mp hw with hw | hw
        · exact hF w hw
        · obtain ⟨u, hu, rfl⟩ := List.mem_map.mp hw
          rw [xr_len (by rw [lc, hF u hu]), lc]) (List.mem_append_left _ h0) fun d hd v hv => by
          rcases List.mem_append.mp hv with hw | hw
          · rcases List.mem_cons.mp hd with e | hd
            · rw [e]
              exact List.mem_append_right _ (List.mem_map.mpr ⟨v, hw, rfl⟩)
            · exact List.mem_append_left _ (h d hd v hw)
          · obtain ⟨u, hu, rfl⟩ := List.mem_map.mp hw
            have lu := hF u hu
            rcases List.mem_cons.mp hd with rfl | hd
            · rw [← xr_assoc rfl (by rw [lc, lu]), xr_self, lc, xr_comm (by rw [nul_len, lu]), xr_nul lu]
              exact List.mem_append_left _ hu
            · have ld := hD d hd
              rw [← xr_assoc (by rw [ld, lc]) (by rw [lc, lu]), xr_comm (a := d) (by rw [ld, lc]), xr_assoc (by rw [lc, ld]) (by rw [ld, lu])]
              exact List.mem_append_right _ (List.mem_map.mpr ⟨_, h d hd u hu, rfl⟩)
      refine ⟨this.1, fun d hd => this.2 d ?_⟩
      rcases hd with hd | hd
      · exact .inl (List.mem_cons_of_mem _ hd)
      · rcases List.mem_cons.mp hd with rfl | hd
        · exact .inl (List.mem_cons_self ..)
        · exact .inr hd
  obtain ⟨h0, h1⟩ := go B [nul n] [] hB (fun d hd => (by cases hd)) (fun w hw => by rw [List.mem_singleton.mp hw]; exact nul_len n) (by simp) (fun d hd => by cases hd)
  induction s with
  | zero => exact h0
  | add hb _ ih => exact h1 _ (.inr hb) _ ih
/-- sorted, all sums of independent rows are the rows by their numbers -/
theorem sums_sorted (h : Rref n B S) (hB : Len n B) (hk : S.length = B.length) : (sums n B).mergeSort (PySem.W.dataLe false rowD) = numbered n S := by
  have asc := numbered_asc h.red h.asc
  have nd : (numbered n S).Nodup := asc.imp fun {a b} z e => by rw [e] at z; exact List.lt_irrefl _ z
  have p : (sums n B).Perm (numbered n S) := perm_of_sub _ _ nd (fun v hv => by
    obtain ⟨x, _, rfl⟩ := List.mem_map.mp hv
    exact sums_all hB ((h.span _).mp (cmb_sp h.red.len _))) (by
      unfold sums numbered
      rw [sums_len, List.length_map, List.length_range, hk]
      simp)
  refine sorted_unique (key := rowI) _ _ ((List.mergeSort_perm _ _).trans p) ?_ asc
  refine (sort_pairs false (sums n B)).imp fun {a b} z => ?_
  rw [dataLe_up] at z
  exact of_decide_eq_true z
/-! ### independent rows -/
def Ind (n : Nat) (B : List (List Bool)) : Prop := ∀ S, Rref n B S → S.length = B.length
theorem toldP_len (B : List (List Bool)) : (toldP B).length ≤ B.length := by
  have step : ∀ (B : List (List Bool)) (h : List Bool), (stepP B h).length ≤ B.length + 1 := fun B h => by
    unfold stepP
    split <;> simp
  have go : ∀ (rows B : List (List Bool)), (rows.foldl stepP B).length ≤ B.length + rows.length := fun rows => by
    induction rows with
    | nil => intro B; simp
    | cons h rows ih =>
      intro B
      have h1 := ih (stepP B h)
      have h2 := step B h
      simp only [List.foldl_cons, List.length_cons]
      omega
  have := go B []
  unfold toldP
  simpa using this
theorem rref_ex (h : Len n B) : ∃ S, Rref n B S ∧ S.length ≤ B.length := by
  obtain ⟨r, sp⟩ := told_red h
  obtain ⟨p, asc⟩ := sort_asc r
  exact ⟨_, Rref.of_perm r sp p asc, by rw [p.length_eq]; exact toldP_len B⟩
theorem rref_len (h : Len n B) (k : Rref n B S) : S.length ≤ B.length := by
  obtain ⟨T, hT, hl⟩ := rref_ex h
  rw [k.unique hT]
  exact hl
theorem ind_nil : Ind n [] := fun S h => by
  have := rref_len (n := n) (B := []) (fun b hb => by cases hb) h
  simpa using this
theorem rref_self (k : Rref n B S) : Rref n S S := ⟨k.red, k.asc, fun v => Iff.rfl⟩
theorem ind_rref (k : Rref n B S) : Ind n S := fun T hT => by rw [hT.unique (rref_self k)]
theorem ind_perm {P : List (List Bool)} (p : P.Perm B) (h : Ind n B) : Ind n P := fun S k => by
  rw [p.length_eq]
  exact h S ⟨k.red, k.asc, fun v => (k.span v).trans ⟨fun s => s.mono fun b hb => p.mem_iff.mp hb, fun s => s.mono fun b hb => p.mem_iff.mpr hb⟩⟩
end
end Z
set_option Elab.async false
set_option linter.all false
/-! G5: even rows. -/
namespace Z
/-- whether one and the other meet at an odd number of places -/
def dot : List Bool → List Bool → Bool
  | x :: xs, y :: ys => (x && y) ^^ dot xs ys
  | _, _ => false
theorem dot_comm : ∀ a b : List Bool, dot a b = dot b a
  | [], [] => rfl
  | [], _ :: _ => rfl
  | _ :: _, [] => rfl
  | x :: xs, y :: ys => by
    show ((x && y) ^^ dot xs ys) = ((y && x) ^^ dot ys xs)
    rw [dot_comm xs ys, Bool.and_comm]
theorem dot_xr : ∀ {a b : List Bool} (c : List Bool), a.length = b.length → dot (xr a b) c = (dot a c ^^ dot b c)
  | [], [], c, _ => by cases c <;> rfl
  | [], _ :: _, _, h => by cases h
  | _ :: _, [], _, h => by cases h
  | x :: xs, y :: ys, [], _ => rfl
  | x :: xs, y :: ys, z :: zs, h => by
    have ih := dot_xr (a := xs) (b := ys) zs (by simpa using h)
    show (((x ^^ y) && z) ^^ dot (xr xs ys) zs) = (((x && z) ^^ dot xs zs) ^^ ((y && z) ^^ dot ys zs))
    rw [ih]
    cases x <;> cases y <;> cases z <;> cases dot xs zs <;> cases dot ys zs <;> rfl
theorem dot_nul : ∀ (n : Nat) (c : List Bool), dot (nul n) c = false
  | 0, c => by cases c <;> rfl
  | n + 1, [] => rfl
  | n + 1, z :: zs => by
    have ih := dot_nul n zs
    show ((false && z) ^^ dot (nul n) zs) = false
    rw [ih]
    rfl
section
variable {n : Nat} {B S T : List (List Bool)}
theorem dot_sp (h : Len n B) {c : List Bool} (k : ∀ b ∈ B, dot b c = false) {v : List Bool} (s : Sp n B v) : dot v c = false := by
  induction s with
  | zero => exact dot_nul n c
  | add hb hv ih => rw [dot_xr _ (by rw [h _ hb, hv.len h]), k _ hb, ih]; rfl
/-- the row with marks at some places -/
def mkRow (n : Nat) (L : List Nat) : List Bool := (List.range n).map fun q => L.contains q
theorem mkRow_len (n : Nat) (L : List Nat) : (mkRow n L).length = n := by simp [mkRow]
theorem gt_mkRow {n : Nat} {L : List Nat} {q : Nat} (h : q < n) : gt (mkRow n L) q = L.contains q := by
  unfold gt mkRow
  rw [List.getD_eq_getElem?_getD, List.getElem?_map, List.getElem?_range h]
  rfl
theorem mkRow_cons {n : Nat} {p : Nat} {L : List Nat} (h : p ∉ L) : mkRow n (p :: L) = xr (mkRow n [p]) (mkRow n L) :=
  row_ext (by rw [xr_len (by rw [mkRow_len, mkRow_len]), mkRow_len, mkRow_len]) fun q => by
    rw [gt_xr (by rw [mkRow_len, mkRow_len])]
    rcases Nat.lt_or_ge q n with z | z
    · rw [gt_mkRow z, gt_mkRow z, gt_mkRow z, List.contains_cons, List.contains_cons]
      by_cases e : q = p
      · subst e
        have : L.contains q = false := by simpa using h
        rw [this]
        simp
      · have : (q == p) = false := by simpa using e
        rw [this]
        simp
    · rw [gt_out (by rw [mkRow_len]; exact z), gt_out (by rw [mkRow_len]; exact z), gt_out (by rw [mkRow_len]; exact z)]
      rfl
theorem dot_unit : ∀ (n p : Nat) (v : List Bool), v.length = n → dot (mkRow n [p]) v = gt v p
  | 0, p, v, h => by
    rw [List.eq_nil_of_length_eq_zero h]
    rfl
  | n + 1, p, [], h => by cases h
  | n + 1, p, z :: zs, h => by
    have e : mkRow (n + 1) [p] = (p == 0) :: (match p with | 0 => nul n | p + 1 => mkRow n [p]) := by
      unfold mkRow
      rw [List.range_succ_eq_map, List.map_cons, List.map_map]
      cases p with
      | zero =>
        congr 1
        apply List.ext_getElem (by simp [nul])
        intro i h1 h2
        simp [nul]
      | succ p =>
        congr 1
        apply List.ext_getElem (by simp)
        intro i h1 h2
        simp
    rw [e]
    cases p with
    | zero =>
      show ((true && z) ^^ dot (nul n) zs) = _
      rw [dot_nul]
      simp [gt]
    | succ p =>
      show ((false && z) ^^ dot (mkRow n [p]) zs) = gt (z :: zs) (p + 1)
      rw [dot_unit n p zs (by simpa using h)]
      simp [gt]
theorem mkRow_nil (n : Nat) : mkRow n [] = nul n := row_ext (by rw [mkRow_len, nul_len]) fun q => by
  rw [gt_nul]
  rcases Nat.lt_or_ge q n with z | z
  · rw [gt_mkRow z]; rfl
  · rw [gt_out (by rw [mkRow_len]; exact z)]
theorem dot_mkRow {v : List Bool} (hv : v.length = n) {p : Nat} {L : List Nat} (h : p ∉ L) : dot (mkRow n (p :: L)) v = (gt v p ^^ dot (mkRow n L) v) := by
  rw [mkRow_cons h, dot_xr _ (by rw [mkRow_len, mkRow_len]), dot_unit n p v hv]
/-! ### the free rows -/
def onesAt (S : List (List Bool)) (p : Nat) : List Nat := p :: (S.filter fun b => gt b p).map lead
def freeRow (n : Nat) (S : List (List Bool)) (p : Nat) : List Bool := mkRow n (onesAt S p)
def frees (n : Nat) (S : List (List Bool)) : List Nat := (List.range n).filter fun p => !(S.map lead).contains p
def freeRows (n : Nat) (S : List (List Bool)) : List (List Bool) := (frees n S).map (freeRow n S)
theorem mem_frees {p : Nat} : p ∈ frees n S ↔ p < n ∧ ∀ b ∈ S, lead b ≠ p := by
  unfold frees
  rw [List.mem_filter, List.mem_range]
  simp
theorem free_len (n : Nat) (S : List (List Bool)) : Len n (freeRows n S) := fun b hb => by
  obtain ⟨p, _, rfl⟩ := List.mem_map.mp hb
  exact mkRow_len _ _
theorem leads_nodup (r : Red n S) : (S.map lead).Nodup := by
  refine List.Pairwise.map _ (fun a b z => z) (List.Pairwise.imp_of_mem (fun {a b} ha hb hne z => ?_) r.nd)
  have := r.un a ha b hb hne
  rw [← z, lead_gt (r.ne a ha)] at this
  cases this
theorem lead_lt (r : Red n S) {b : List Bool} (hb : b ∈ S) : lead b < n := by
  rw [← r.len b hb]
  exact List.idxOf_lt_length_iff.mpr (r.ne b hb)
theorem dot_leads {v : List Bool} (hv : v.length = n) (p : Nat) : ∀ S : List (List Bool), (S.map lead).Nodup → dot (mkRow n ((S.filter fun b => gt b p).map lead)) v = par (fun b => gt v (lead b)) S p
  | [], _ => by
    rw [List.filter_nil, List.map_nil, mkRow_nil, dot_nul]
    rfl
  | b :: S, nd => by
    have nd' := List.nodup_cons.mp nd
    have ih := dot_leads hv p S nd'.2
    rw [List.filter_cons]
    show _ = ((gt v (lead b) && gt b p) ^^ par _ S p)
    cases g : gt b p with
    | false =>
      simp only [Bool.false_eq_true, if_false]
      rw [ih]
      simp
    | true =>
      simp only [if_true]
      rw [List.map_cons, dot_mkRow hv (fun z => nd'.1 (by
        obtain ⟨c, hc, e⟩ := List.mem_map.mp z
        exact List.mem_map.mpr ⟨c, (List.mem_filter.mp hc).1, e⟩)), ih]
      simp
theorem dot_free (r : Red n S) {v : List Bool} (hv : v.length = n) {p : Nat} (hp : p ∈ frees n S) : dot (freeRow n S p) v = (gt v p ^^ par (fun b => gt v (lead b)) S p) := by
  unfold freeRow onesAt
  rw [dot_mkRow hv, dot_leads hv p S (leads_nodup r)]
  intro z
  obtain ⟨c, hc, e⟩ := List.mem_map.mp z
  exact (mem_frees.mp hp).2 c (List.mem_filter.mp hc).1 e
theorem par_lead (r : Red n S) (f : List Bool → Bool) {b : List Bool} (hb : b ∈ S) : par f S (lead b) = f b := by
  have h1 := par_flip (f := fun c => if c == b then f b else false) (g := fun c => if c == b then !f b else false) (p := lead b) r.nd hb (fun c _ hne => by simp [hne]) (by simp)
  have h2 : par f S (lead b) = par (fun c => if c == b then f b else false) S (lead b) := by
    have go : ∀ C : List (List Bool), (∀ c ∈ C, c ∈ S) → par f C (lead b) = par (fun c => if c == b then f b else false) C (lead b) := fun C => by
      induction C with
      | nil => exact fun _ => rfl
      | cons c C ih =>
        intro hC
        unfold par
        rw [ih fun d hd => hC d (List.mem_cons_of_mem _ hd)]
        by_cases e : c = b
        · subst e
          simp
        · rw [r.un c (hC c (List.mem_cons_self ..)) b hb e]
          simp
    exact go S fun _ h => h
  rw [h2]
  cases e : f b with
  | true =>
    rw [e] at h1
    rw [h1, lead_gt (r.ne b hb), par_none (f := fun c => if (c == b) = true then !true else false) fun c _ hc => by simp at hc]
    rfl
  | false => exact par_none fun c _ hc => by simp at hc
/-- the rows of S are those that are even with the free rows -/
theorem free_even (r : Red n S) {v : List Bool} (hv : v.length = n) : Sp n S v ↔ ∀ u ∈ freeRows n S, dot u v = false := by
  constructor
  · intro s u hu
    obtain ⟨p, hp, rfl⟩ := List.mem_map.mp hu
    rw [dot_free r hv hp, r.tell s p, Bool.xor_self]
  · intro h
    have e : v = cmb n (S.map fun b => gt v (lead b)) S := row_ext (by rw [hv, cmb_len r.len]) fun p => by
      rw [gt_cmb r.len]
      rcases Nat.lt_or_ge p n with z | z
      · by_cases hp : p ∈ frees n S
        · have := h _ (List.mem_map.mpr ⟨p, hp, rfl⟩)
          rw [dot_free r hv hp] at this
          revert this
          cases gt v p <;> cases par (fun b => gt v (lead b)) S p <;> decide
        · obtain ⟨b, hb, e⟩ : ∃ b ∈ S, lead b = p := Classical.byContradiction fun y => hp (mem_frees.mpr ⟨z, fun b hb e => y ⟨b, hb, e⟩⟩)
          subst e
          exact (par_lead r (fun b => gt v (lead b)) hb).symm
      · rw [gt_out (by rw [hv]; exact z)]
        refine (par_none fun b hb _ => ?_).symm
        exact gt_out (by rw [r.len b hb]; exact z)
    rw [e]
    exact cmb_sp r.len _
theorem gt_freeRow (r : Red n S) {p q : Nat} (hq : q ∈ frees n S) : gt (freeRow n S p) q = (q == p) := by
  unfold freeRow onesAt
  rw [gt_mkRow (mem_frees.mp hq).1, List.contains_cons]
  have : ((S.filter fun b => gt b p).map lead).contains q = false := by
    rw [Bool.eq_false_iff]
    intro z
    obtain ⟨c, hc, e⟩ := List.mem_map.mp (List.contains_iff_mem.mp z)
    exact (mem_frees.mp hq).2 c (List.mem_filter.mp hc).1 e
  rw [this, Bool.or_false]
/-- the sum of the free rows at some places -/
def csum (n : Nat) (S : List (List Bool)) (l : List Nat) : List Bool := l.foldr (fun p v => xr (freeRow n S p) v) (nul n)
theorem csum_len : ∀ l : List Nat, (csum n S l).length = n
  | [] => nul_len n
  | p :: l => by
    show (xr (freeRow n S p) (csum n S l)).length = n
    have h1 : (freeRow n S p).length = n := mkRow_len _ _
    rw [xr_len (by rw [h1, csum_len l]), h1]
theorem csum_sp : ∀ {l : List Nat}, (∀ p ∈ l, p ∈ frees n S) → Sp n (freeRows n S) (csum n S l)
  | [], _ => .zero
  | p :: l, h => .add (List.mem_map.mpr ⟨p, h p (List.mem_cons_self ..), rfl⟩) (csum_sp fun q hq => h q (List.mem_cons_of_mem _ hq))
theorem gt_csum (r : Red n S) {q : Nat} (hq : q ∈ frees n S) : ∀ {l : List Nat}, l.Nodup → gt (csum n S l) q = l.contains q
  | [], _ => gt_nul n q
  | p :: l, nd => by
    have nd' := List.nodup_cons.mp nd
    show gt (xr (freeRow n S p) (csum n S l)) q = _
    rw [gt_xr (by rw [csum_len]; exact mkRow_len _ _), gt_freeRow r hq, gt_csum r hq nd'.2, List.contains_cons]
    by_cases e : q = p
    · subst e
      have : l.contains q = false := by simpa using nd'.1
      rw [this]
      simp
    · have : (q == p) = false := by simpa using e
      rw [this]
      simp
/-- the rows that are even with S are the sums of the free rows -/
theorem even_free (r : Red n S) {v : List Bool} (hv : v.length = n) : Sp n (freeRows n S) v ↔ ∀ b ∈ S, dot b v = false := by
  constructor
  · intro s b hb
    rw [dot_comm]
    exact dot_sp (free_len n S) (fun u hu => (free_even r (r.len b hb)).mp (Sp.mem r.len hb) u hu) s
  · intro h
    have nd : (frees n S).Nodup := List.nodup_range.filter _
    have hs : Sp n (freeRows n S) (csum n S ((frees n S).filter fun p => gt v p)) := csum_sp fun p hp => (List.mem_filter.mp hp).1
    generalize ew : csum n S ((frees n S).filter fun p => gt v p) = w at hs
    have lw := hs.len (free_len n S)
    have hw : ∀ b ∈ S, dot b w = false := fun b hb => by
      rw [dot_comm]
      exact dot_sp (free_len n S) (fun u hu => (free_even r (r.len b hb)).mp (Sp.mem r.len hb) u hu) hs
    have free : ∀ q ∈ frees n S, gt w q = gt v q := fun q hq => by
      rw [← ew, gt_csum r hq (nd.filter _)]
      cases g : gt v q with
      | true => exact List.contains_iff_mem.mpr (List.mem_filter.mpr ⟨hq, g⟩)
      | false =>
        rw [Bool.eq_false_iff]
        intro z
        have := (List.mem_filter.mp (List.contains_iff_mem.mp z)).2
        rw [g] at this
        cases this
    have e : v = w := by
      -- what is left has marks at leads alone
      have lx : (xr v w).length = n := by rw [xr_len (by rw [hv, lw]), hv]
      have x0 : ∀ q ∈ frees n S, gt (xr v w) q = false := fun q hq => by rw [gt_xr (by rw [hv, lw]), free q hq, Bool.xor_self]
      have x1 : ∀ b ∈ S, gt (xr v w) (lead b) = false := fun b hb => by
        have h1 : dot b (xr v w) = false := by rw [dot_comm, dot_xr _ (by rw [hv, lw]), dot_comm, h b hb, dot_comm, hw b hb]; rfl
        have h2 : xr v w = mkRow n ((S.filter fun c => gt (xr v w) (lead c)).map lead) := row_ext (by rw [mkRow_len, lx]) fun q => by
          rcases Nat.lt_or_ge q n with z | z
          · rw [gt_mkRow z]
            by_cases hq : q ∈ frees n S
            · rw [x0 q hq]
              symm
              rw [Bool.eq_false_iff]
              intro y
              obtain ⟨c, hc, e⟩ := List.mem_map.mp (List.contains_iff_mem.mp y)
              exact (mem_frees.mp hq).2 c (List.mem_filter.mp hc).1 e
            · obtain ⟨c, hc, e⟩ : ∃ b ∈ S, lead b = q := Classical.byContradiction fun y => hq (mem_frees.mpr ⟨z, fun b hb e => y ⟨b, hb, e⟩⟩)
              subst e
              cases g : gt (xr v w) (lead c) with
              | true => exact (List.contains_iff_mem.mpr (List.mem_map.mpr ⟨c, List.mem_filter.mpr ⟨hc, g⟩, rfl⟩)).symm
              | false =>
                symm
                rw [Bool.eq_false_iff]
                intro y
                obtain ⟨d, hd, e⟩ := List.mem_map.mp (List.contains_iff_mem.mp y)
                have hd' := List.mem_filter.mp hd
                rw [e, g] at hd'
                cases hd'.2
          · rw [gt_out (by rw [lx]; exact z), gt_out (by rw [mkRow_len]; exact z)]
        -- of leads, b has its own alone
        have h3 : ∀ C : List (List Bool), (∀ c ∈ C, c ∈ S) → (C.map lead).Nodup → dot (mkRow n (C.map lead)) b = (C.map lead).contains (lead b) := fun C => by
          induction C with
          | nil => exact fun _ _ => by rw [List.map_nil, mkRow_nil, dot_nul]; rfl
          | cons c C ih =>
            intro hC nd1
            have nd2 := List.nodup_cons.mp nd1
            rw [List.map_cons, dot_mkRow (r.len b hb) nd2.1, ih (fun d hd => hC d (List.mem_cons_of_mem _ hd)) nd2.2, List.contains_cons]
            by_cases ec : b = c
            · subst ec
              have : (C.map lead).contains (lead b) = false := by
                rw [Bool.eq_false_iff]
                exact fun z => nd2.1 (List.contains_iff_mem.mp z)
              rw [lead_gt (r.ne b hb), this]
              simp
            · have hc := hC c (List.mem_cons_self ..)
              rw [r.un b hb c hc ec]
              have : ¬ lead b = lead c := fun z => by
                have := r.un b hb c hc ec
                rw [← z, lead_gt (r.ne b hb)] at this
                cases this
              simp [this]
        rw [dot_comm] at h1
        cases g : gt (xr v w) (lead b) with
        | false => rfl
        | true =>
          exfalso
          rw [h2, h3 _ (fun c hc => (List.mem_filter.mp hc).1) ((leads_nodup r).sublist (List.Sublist.map _ List.filter_sublist))] at h1
          have : ((S.filter fun c => gt (xr v w) (lead c)).map lead).contains (lead b) = true := List.contains_iff_mem.mpr (List.mem_map.mpr ⟨b, List.mem_filter.mpr ⟨hb, g⟩, rfl⟩)
          rw [this] at h1
          cases h1
      refine row_ext (by rw [hv, lw]) fun q => ?_
      have hx : gt (xr v w) q = false := by
        rcases Nat.lt_or_ge q n with z | z
        · by_cases hq : q ∈ frees n S
          · exact x0 q hq
          · obtain ⟨c, hc, e⟩ : ∃ b ∈ S, lead b = q := Classical.byContradiction fun y => hq (mem_frees.mpr ⟨z, fun b hb e => y ⟨b, hb, e⟩⟩)
            subst e
            exact x1 c hc
        · exact gt_out (by rw [lx]; exact z)
      rw [gt_xr (by rw [hv, lw])] at hx
      revert hx
      cases gt v q <;> cases gt w q <;> decide
    rw [e]
    exact hs
/-- the other code's other code -/
theorem other_back (h : Rref n B S) (k : Rref n (freeRows n S) T) : Rref n (freeRows n T) S := by
  refine ⟨h.red, h.asc, fun v => ?_⟩
  constructor
  · intro s
    have lv := s.len h.red.len
    refine (even_free k.red lv).mpr fun t ht => ?_
    exact dot_sp (free_len n S) ((free_even h.red lv).mp s) ((k.span t).mp (Sp.mem k.red.len ht))
  · intro s
    have lv := s.len (free_len n T)
    refine (free_even h.red lv).mpr fun u hu => ?_
    exact dot_sp k.red.len ((even_free k.red lv).mp s) ((k.span u).mpr (Sp.mem (free_len n S) hu))
theorem other_even (h : Rref n B S) (k : Rref n (freeRows n S) T) {v : List Bool} (hv : v.length = n) (hB : Len n B) : Sp n T v ↔ ∀ b ∈ B, dot b v = false := by
  refine ((k.span v).trans (even_free h.red hv)).trans ⟨fun z b hb => ?_, fun z b hb => ?_⟩
  · exact dot_sp h.red.len z ((h.span b).mpr (Sp.mem hB hb))
  · exact dot_sp hB z ((h.span b).mp (Sp.mem h.red.len hb))
/-! ### how many -/
theorem nodup_sub_len {α : Type} [BEq α] [LawfulBEq α] : ∀ (A M : List α), A.Nodup → (∀ a ∈ A, a ∈ M) → A.length ≤ M.length
  | [], M, _, _ => Nat.zero_le _
  | a :: A, M, nd, hs => by
    have nd' := List.nodup_cons.mp nd
    have ha := hs a (List.mem_cons_self ..)
    have ih := nodup_sub_len A (M.erase a) nd'.2 fun b hb => (List.mem_erase_of_ne fun e => nd'.1 (by rw [← e]; exact hb)).mpr (hs b (List.mem_cons_of_mem _ hb))
    have := List.length_erase_of_mem ha
    have := List.length_pos_of_mem ha
    simp only [List.length_cons]
    omega
theorem frees_count (r : Red n S) : (frees n S).length + S.length = n := by
  have p : (frees n S ++ S.map lead).Nodup := List.nodup_append.mpr ⟨List.nodup_range.filter _, leads_nodup r, fun a ha b hb e => by
    obtain ⟨c, hc, rfl⟩ := List.mem_map.mp hb
    exact (mem_frees.mp ha).2 c hc e.symm⟩
  have h1 := nodup_sub_len _ (List.range n) p fun a ha => by
    rcases List.mem_append.mp ha with ha | ha
    · exact List.mem_range.mpr (mem_frees.mp ha).1
    · obtain ⟨c, hc, rfl⟩ := List.mem_map.mp ha
      exact List.mem_range.mpr (lead_lt r hc)
  have h2 := nodup_sub_len (List.range n) (frees n S ++ S.map lead) List.nodup_range fun a ha => by
    by_cases z : a ∈ S.map lead
    · exact List.mem_append_right _ z
    · exact List.mem_append_left _ (mem_frees.mpr ⟨List.mem_range.mp ha, fun b hb e => z (List.mem_map.mpr ⟨b, hb, e⟩)⟩)
  rw [List.length_append, List.length_map, List.length_range] at h1 h2
  omega
theorem free_count (r : Red n S) : (freeRows n S).length + S.length = n := by
  unfold freeRows
  rw [List.length_map]
  exact frees_count r
theorem told_ind (h : Len n B) : Ind n B ↔ (toldP B).length = B.length := by
  obtain ⟨r, sp⟩ := told_red h
  obtain ⟨p, asc⟩ := sort_asc r
  have k := Rref.of_perm r sp p asc
  constructor
  · intro i
    have := i _ k
    rw [p.length_eq] at this
    exact this
  · intro e S hS
    rw [hS.unique k, p.length_eq]
    exact e
theorem ind_snoc {r : List Bool} (h : Len n B) (hr : r.length = n) (i : Ind n B) (z : ¬ Sp n B r) : Ind n (B ++ [r]) := by
  have h2 : Len n (B ++ [r]) := fun b hb => (List.mem_append.mp hb).elim (h b) fun y => by rw [List.mem_singleton.mp y]; exact hr
  rw [told_ind h2]
  rw [told_ind h] at i
  obtain ⟨rd, sp⟩ := told_red h
  have e : toldP (B ++ [r]) = stepP (toldP B) r := by unfold toldP; rw [List.foldl_append]; rfl
  rw [e]
  obtain ⟨lk, k0, k1, k2⟩ := red_row rd rfl hr
  have hm : (red1 (toldP B) r).contains true = true := by
    cases c : (red1 (toldP B) r).contains true with
    | true => rfl
    | false =>
      exfalso
      have hn : true ∉ red1 (toldP B) r := fun y => by rw [List.contains_iff_mem.mpr y] at c; cases c
      have ek := not_nul lk hn
      refine z ((sp r).mp (k2.sub rd.len fun c hc => ?_))
      rcases List.mem_cons.mp hc with rfl | hc
      · rw [ek]
        exact .zero
      · exact Sp.mem rd.len hc
  unfold stepP
  rw [hm]
  simp [i]
theorem free_ind (r : Red n S) : Ind n (freeRows n S) := by
  have go : ∀ l m : List Nat, l ++ m = frees n S → Ind n (l.map (freeRow n S)) → Ind n ((frees n S).map (freeRow n S)) := fun l m => by
    induction m generalizing l with
    | nil => intro e i; rw [← e, List.append_nil]; exact i
    | cons p m ih =>
      intro e i
      have nd : (frees n S).Nodup := List.nodup_range.filter _
      rw [← e] at nd
      have hp : p ∈ frees n S := by rw [← e]; simp
      have hn : p ∉ l := fun z => (List.nodup_append.mp nd).2.2 p z p (List.mem_cons_self ..) rfl
      refine ih (l ++ [p]) (by rw [List.append_assoc]; exact e) ?_
      rw [List.map_append]
      have L1 : Len n (l.map (freeRow n S)) := fun b hb => by
        obtain ⟨q, _, rfl⟩ := List.mem_map.mp hb
        exact mkRow_len _ _
      refine ind_snoc L1 (mkRow_len _ _) i fun s => ?_
      have h0 : ∀ v, Sp n (l.map (freeRow n S)) v → gt v p = false := fun v sv => by
        induction sv with
        | zero => exact gt_nul n p
        | @add b w hb hw ihw =>
          rw [gt_xr (by rw [L1 b hb, hw.len L1]), ihw]
          obtain ⟨q, hq, rfl⟩ := List.mem_map.mp hb
          rw [gt_freeRow r hp]
          have : ¬ p = q := fun z => hn (z ▸ hq)
          simp [this]
      have := h0 _ s
      rw [gt_freeRow r hp] at this
      simp at this
  exact go [] _ rfl ind_nil
/-- ranks add up -/
theorem other_count (h : Rref n B S) (k : Rref n (freeRows n S) T) : T.length + S.length = n := by
  rw [free_ind h.red T k]
  exact free_count h.red
/-! ### all rows -/
def allR : Nat → List (List Bool)
  | 0 => [[]]
  | n + 1 => (allR n).map (fun r => r ++ [false]) ++ (allR n).map (fun r => r ++ [true])
theorem allR_len : ∀ n, Len n (allR n)
  | 0, b, hb => by rw [List.mem_singleton.mp hb]; rfl
  | n + 1, b, hb => by
    rcases List.mem_append.mp hb with z | z
    · obtain ⟨r, hr, rfl⟩ := List.mem_map.mp z
      simp [allR_len n r hr]
    · obtain ⟨r, hr, rfl⟩ := List.mem_map.mp z
      simp [allR_len n r hr]
theorem allR_mem : ∀ (n : Nat) (v : List Bool), v.length = n → v ∈ allR n
  | 0, v, h => by rw [List.eq_nil_of_length_eq_zero h]; exact List.mem_singleton.mpr rfl
  | n + 1, v, h => by
    have hne : v ≠ [] := fun e => by rw [e] at h; cases h
    have e := List.dropLast_concat_getLast hne
    have hd : v.dropLast ∈ allR n := allR_mem n _ (by simp [h])
    rw [← e]
    cases v.getLast hne with
    | false => exact List.mem_append_left _ (List.mem_map.mpr ⟨_, hd, rfl⟩)
    | true => exact List.mem_append_right _ (List.mem_map.mpr ⟨_, hd, rfl⟩)
theorem allR_nodup : ∀ n, (allR n).Nodup
  | 0 => by simp [allR]
  | n + 1 => by
    refine List.nodup_append.mpr ⟨?_, ?_, fun a ha b hb e => ?_⟩
    · exact List.Pairwise.map _ (fun a b z e => z (by simpa using e)) (allR_nodup n)
    · exact List.Pairwise.map _ (fun a b z e => z (by simpa using e)) (allR_nodup n)
    · obtain ⟨x, _, rfl⟩ := List.mem_map.mp ha
      obtain ⟨y, _, rfl⟩ := List.mem_map.mp hb
      have := congrArg List.getLast? e
      simp at this
end
theorem Rref.congr {rows rows' : List (List Bool)} (h : Rref n rows S) (e : ∀ v, Sp n rows v ↔ Sp n rows' v) : Rref n rows' S := ⟨h.red, h.asc, fun v => (h.span v).trans (e v)⟩
/-! ### as data -/
open PySem PySem.Spec PyProof.Rows L2
abbrev natD (k : Nat) : D := .int ((k : Nat) : Int)
theorem rangeD_nats (n : Nat) : rangeD 0 n 1 = (List.range n).map natD := by
  apply List.ext_getElem?
  intro i
  rcases Nat.lt_or_ge i n with z | z
  · rw [List.getElem?_map, List.getElem?_range z]
    cases e : (rangeD 0 n 1)[i]? with
    | none =>
      rw [List.getElem?_eq_none_iff, rangeD_len] at e
      omega
    | some x =>
      rw [(range_at e).2]
      rfl
  · rw [List.getElem?_eq_none (by rw [rangeD_len]; omega), List.getElem?_eq_none (by rw [List.length_map, List.length_range]; exact z)]
theorem solids_nats (L : List Nat) : solids (L.map natD) = true := solids_of fun k _ => solid_int _
theorem ix0 {x : D} {xs : List D} {P : D → Prop} : (∃ d, atI (x :: xs) 0 = some d ∧ P d) = P x :=
  propext ⟨fun ⟨d, e, h⟩ => by
    have e' : atI (x :: xs) 0 = some x := atI_ok (j := 0) rfl rfl
    rw [e'] at e
    rw [← Option.some.inj e] at h
    exact h, fun h => ⟨x, atI_ok (j := 0) rfl rfl, h⟩⟩
theorem ix1 {x y : D} {xs : List D} {P : D → Prop} : (∃ d, atI (x :: y :: xs) 1 = some d ∧ P d) = P y :=
  propext ⟨fun ⟨d, e, h⟩ => by
    have e' : atI (x :: y :: xs) 1 = some y := atI_ok (j := 1) rfl rfl
    rw [e'] at e
    rw [← Option.some.inj e] at h
    exact h, fun h => ⟨y, atI_ok (j := 1) rfl rfl, h⟩⟩
end Z
set_option Elab.async false
set_option linter.all false
set_option maxRecDepth 100000
set_option maxHeartbeats 4000000
/-! G6: sums and meets of codes. -/
namespace Z
section
variable {n : Nat} {A B C S T U : List (List Bool)}
theorem len_app (h : Len n A) (k : Len n B) : Len n (A ++ B) := fun b hb => (List.mem_append.mp hb).elim (h b) (k b)
theorem sp_left {v : List Bool} (s : Sp n A v) : Sp n (A ++ B) v := s.mono fun b hb => List.mem_append_left _ hb
theorem sp_right {v : List Bool} (s : Sp n B v) : Sp n (A ++ B) v := s.mono fun b hb => List.mem_append_right _ hb
theorem sp_app (hA : Len n A) (hB : Len n B) {v : List Bool} (s : Sp n (A ++ B) v) : ∃ a b, Sp n A a ∧ Sp n B b ∧ v = xr a b := by
  induction s with
  | zero => exact ⟨nul n, nul n, .zero, .zero, (xr_nul (nul_len n)).symm⟩
  | @add r w hr hw ih =>
    obtain ⟨a, b, ha, hb, rfl⟩ := ih
    have la := ha.len hA
    have lb := hb.len hB
    rcases List.mem_append.mp hr with z | z
    · exact ⟨xr r a, b, .add z ha, hb, (xr_assoc (by rw [hA r z, la]) (by rw [la, lb])).symm⟩
    · have lr := hB r z
      refine ⟨a, xr r b, ha, .add z hb, ?_⟩
      rw [← xr_assoc (by rw [lr, la]) (by rw [la, lb]), xr_comm (a := r) (by rw [lr, la]), xr_assoc (by rw [la, lr]) (by rw [lr, lb])]
theorem sp_app_iff (hA : Len n A) (hB : Len n B) (hS : Len n S) (hT : Len n T) (e1 : ∀ v, Sp n A v ↔ Sp n S v) (e2 : ∀ v, Sp n B v ↔ Sp n T v) (v : List Bool) : Sp n (A ++ B) v ↔ Sp n (S ++ T) v := by
  constructor
  · intro s
    obtain ⟨a, b, ha, hb, rfl⟩ := sp_app hA hB s
    exact (sp_left ((e1 a).mp ha)).xr (len_app hS hT) (sp_right ((e2 b).mp hb))
  · intro s
    obtain ⟨a, b, ha, hb, rfl⟩ := sp_app hS hT s
    exact (sp_left ((e1 a).mpr ha)).xr (len_app hA hB) (sp_right ((e2 b).mpr hb))
theorem xr_back {a b : List Bool} (h : a.length = b.length) : xr a (xr a b) = b := by
  rw [← xr_assoc rfl h, xr_self, xr_comm (by rw [nul_len, h]), xr_nul h.symm]
theorem sp_snoc (hB : Len n B) {r v : List Bool} (hr : r.length = n) (s : Sp n (B ++ [r]) v) : Sp n B v ∨ Sp n B (xr r v) := by
  induction s with
  | zero => exact .inl .zero
  | @add b w hb hw ih =>
    have lw : w.length = n := hw.len (len_app hB fun c hc => by rw [List.mem_singleton.mp hc]; exact hr)
    rcases List.mem_append.mp hb with z | z
    · rcases ih with y | y
      · exact .inl (.add z y)
      · refine .inr ?_
        have lb := hB b z
        rw [← xr_assoc (by rw [hr, lb]) (by rw [lb, lw]), xr_comm (a := r) (by rw [hr, lb]), xr_assoc (by rw [lb, hr]) (by rw [hr, lw])]
        exact .add z y
    · obtain rfl := List.mem_singleton.mp z
      rcases ih with y | y
      · refine .inr ?_
        rw [xr_back (by rw [hr, lw])]
        exact y
      · exact .inl y
theorem foldP_len' : ∀ (rows B : List (List Bool)), (rows.foldl stepP B).length ≤ B.length + rows.length
  | [], B => by simp
  | h :: rows, B => by
    have := foldP_len' rows (stepP B h)
    have h1 : (stepP B h).length ≤ B.length + 1 := by
      unfold stepP
      split <;> simp
    simp only [List.foldl_cons, List.length_cons]
    omega
theorem ind_prefix (hA : Len n A) (hB : Len n B) (i : Ind n (A ++ B)) : Ind n A := by
  rw [told_ind (len_app hA hB)] at i
  rw [told_ind hA]
  have e : toldP (A ++ B) = B.foldl stepP (toldP A) := by unfold toldP; rw [List.foldl_append]
  have h1 := foldP_len' B (toldP A)
  have h2 := toldP_len A
  rw [e, List.length_append] at i
  omega
theorem ind_out (hB : Len n B) {r : List Bool} (hr : r.length = n) (i : Ind n (B ++ [r])) : ¬ Sp n B r := fun s => by
  obtain ⟨S, hS, hl⟩ := rref_ex hB
  have L1 : Len n (B ++ [r]) := len_app hB fun c hc => by rw [List.mem_singleton.mp hc]; exact hr
  have k : Rref n (B ++ [r]) S := hS.congr fun v => ⟨fun s => sp_left s, fun t => t.sub hB fun b hb => by
    rcases List.mem_append.mp hb with z | z
    · exact Sp.mem hB z
    · rw [List.mem_singleton.mp z]; exact s⟩
  have := i S k
  rw [List.length_append, List.length_singleton] at this
  omega
theorem ind_congr (i : Ind n A) (hA : Len n A) (e : ∀ v, Sp n A v ↔ Sp n B v) (h : Rref n B S) : S.length = A.length := i S (h.congr fun v => (e v).symm)
/-- ranks of a sum and of a meet add up -/
theorem dims (hA : Len n A) (hB : Len n B) (iA : Ind n A) (iB : Ind n B) : ∃ U W : List (List Bool), Len n U ∧ Len n W ∧ Ind n U ∧ Ind n W ∧ U.length + W.length = A.length + B.length ∧ (∀ v, Sp n U v ↔ Sp n (A ++ B) v) ∧ ∀ v, Sp n W v ↔ Sp n A v ∧ Sp n B v := by
  have go : ∀ m l : List (List Bool), l ++ m = B → (∃ U W : List (List Bool), Len n U ∧ Len n W ∧ Ind n U ∧ Ind n W ∧ U.length + W.length = A.length + l.length ∧ (∀ v, Sp n U v ↔ Sp n (A ++ l) v) ∧ ∀ v, Sp n W v ↔ Sp n A v ∧ Sp n l v) →
      ∃ U W : List (List Bool), Len n U ∧ Len n W ∧ Ind n U ∧ Ind n W ∧ U.length + W.length = A.length + B.length ∧ (∀ v, Sp n U v ↔ Sp n (A ++ B) v) ∧ ∀ v, Sp n W v ↔ Sp n A v ∧ Sp n B v := fun m => by
    induction m with
    | nil => intro l e h; rw [List.append_nil] at e; subst e; exact h
    | cons p m ih =>
      intro l e h
      refine ih (l ++ [p]) (by rw [List.append_assoc]; exact e) ?_
      have hl : Len n l := fun b hb => hB b (by rw [← e]; exact List.mem_append_left _ hb)
      have hp : p.length = n := hB p (by rw [← e]; simp)
      have hp1 : Len n [p] := fun c hc => by rw [List.mem_singleton.mp hc]; exact hp
      have hm : Len n m := fun b hb => hB b (by rw [← e]; simp [hb])
      have i1 : Ind n (l ++ [p]) := ind_prefix (len_app hl hp1) hm (by rw [List.append_assoc]; exact (show l ++ ([p] ++ m) = B from e) ▸ iB)
      have np := ind_out hl hp i1
      obtain ⟨U, W, lU, lW, iU, iW, c, sU, sW⟩ := h
      by_cases q : Sp n (A ++ l) p
      · obtain ⟨s, t, hs, ht, ep⟩ := sp_app hA hl q
        have ls := hs.len hA
        have lt := ht.len hl
        have eS : s = xr p t := by
          rw [ep, xr_assoc (by rw [ls, lt]) rfl, xr_self, lt, xr_nul ls]
        have sp' : Sp n (l ++ [p]) s := by
          rw [eS]
          exact (sp_right (Sp.mem hp1 (List.mem_singleton.mpr rfl))).xr (len_app hl hp1) (sp_left ht)
        have ns : ¬ Sp n W s := fun z => by
          have := ((sW s).mp z).2.xr hl ht
          rw [← ep] at this
          exact np this
        refine ⟨U, W ++ [s], lU, len_app lW fun c hc => by rw [List.mem_singleton.mp hc]; exact ls, iU, ind_snoc lW ls iW ns, by rw [List.length_append, List.length_append, List.length_singleton, List.length_singleton]; omega, fun v => ?_, fun v => ?_⟩
        · rw [sU v, ← List.append_assoc]
          refine ⟨fun z => sp_left z, fun z => z.sub (len_app hA hl) fun b hb => ?_⟩
          rcases List.mem_append.mp hb with y | y
          · exact Sp.mem (len_app hA hl) y
          · rw [List.mem_singleton.mp y]; exact q
        · constructor
          · intro z
            obtain ⟨a, b, ha, hb, rfl⟩ := sp_app lW (fun c hc => by rw [List.mem_singleton.mp hc]; exact ls) z
            have h1 := (sW a).mp ha
            have l1 : Len n [s] := fun c hc => by rw [List.mem_singleton.mp hc]; exact ls
            refine ⟨h1.1.xr hA (hb.sub hA fun c hc => by rw [List.mem_singleton.mp hc]; exact hs), (sp_left h1.2).xr (len_app hl hp1) (hb.sub (len_app hl hp1) fun c hc => by rw [List.mem_singleton.mp hc]; exact sp')⟩
          · rintro ⟨z1, z2⟩
            have lv := z1.len hA
            rcases sp_snoc hl hp z2 with y | y
            · exact sp_left ((sW v).mpr ⟨z1, y⟩)
            · have h1 : Sp n W (xr s v) := (sW _).mpr ⟨hs.xr hA z1, by
                rw [eS, xr_comm (a := p) (by rw [hp, lt]), xr_assoc (by rw [lt, hp]) (by rw [hp, lv])]
                exact ht.xr hl y⟩
              have l1 : Len n (W ++ [s]) := len_app lW fun c hc => by rw [List.mem_singleton.mp hc]; exact ls
              have h2 := (Sp.mem l1 (b := s) (by simp)).xr l1 (sp_left (B := [s]) h1)
              rwa [xr_back (by rw [ls, lv])] at h2
      · refine ⟨U ++ [p], W, len_app lU hp1, lW, ind_snoc lU hp iU fun z => q ((sU p).mp z), iW, by rw [List.length_append, List.length_append, List.length_singleton]; omega, fun v => ?_, fun v => ?_⟩
        · have := sp_app_iff lU hp1 (len_app hA hl) hp1 sU (fun v => Iff.rfl) v
          rw [this, List.append_assoc]
        · rw [sW v]
          refine ⟨fun z => ⟨z.1, sp_left z.2⟩, fun z => ⟨z.1, ?_⟩⟩
          have lv := z.1.len hA
          rcases sp_snoc hl hp z.2 with y | y
          · exact y
          · refine (q ?_).elim
            have h1 := (sp_right (A := A) y).xr (len_app hA hl) (sp_left (B := l) z.1)
            rw [xr_assoc (by rw [hp, lv]) rfl, xr_self, lv, xr_nul hp] at h1
            exact h1
  refine go B [] rfl ⟨A, [], hA, fun b hb => (by cases hb), iA, ind_nil, by simp, fun v => by rw [List.append_nil], fun v => ⟨fun s => ?_, fun s => s.2⟩⟩
  exact ⟨s.mono fun b hb => (by cases hb), s⟩
theorem sums_mem (hB : Len n B) {v : List Bool} : v ∈ sums n B ↔ Sp n B v := ⟨fun h => sums_go hB B [nul n] (fun _ h => h) (fun w hw => by rw [List.mem_singleton.mp hw]; exact .zero) v h, sums_all hB⟩
theorem sums_nodup (h : Rref n B S) (hB : Len n B) (hk : S.length = B.length) : (sums n B).Nodup := by
  have e := sums_sorted h hB hk
  have p : (sums n B).Perm (numbered n S) := by rw [← e]; exact (List.mergeSort_perm _ _).symm
  refine p.nodup_iff.mpr ((numbered_asc h.red h.asc).imp fun {a b} z e => by rw [e] at z; exact List.lt_irrefl _ z)
end
open PySem PySem.Spec PyProof.Rows L2
/-- two ways that go on alike -/
theorem joinK {G : Prop} {P Q : En → Prop} (key : ∀ ρ, Q ρ → P ρ) (main : (∀ ρ, Q ρ → P ρ) → G) : G := main key
theorem any_rows (x : List Bool) : ∀ L : List (List Bool), ((rowsD L).any fun z => PyData.eqv z (rowD x)) = L.contains x
  | [] => rfl
  | k :: L => by
    show ((rowD k :: rowsD L).any fun z => PyData.eqv z (rowD x)) = _
    rw [List.any_cons, any_rows x L, List.contains_cons, eqv_rowD]
    congr 1
    rw [Bool.eq_iff_iff, beq_iff_eq, beq_iff_eq, eq_comm]
theorem fIn_rows {neg : Bool} {x : List Bool} {L : List (List Bool)} {R : D → Prop} (h : R (.bool (if neg then !L.contains x else L.contains x))) : fIn neg (rowD x) (.list (rowsD L)) R :=
  ⟨plain_rowD x, plain_rowsD L, by have := depth_rowsD L; rw [depth_rowD]; omega, by rw [any_rows]; exact h⟩
end Z
set_option Elab.async false
set_option linter.all false
set_option maxRecDepth 100000
set_option maxHeartbeats 4000000
/-! G7: rows seen at places; kernels and images. -/
namespace Z
/-- a map of rows that keeps sums -/
structure Lin (n m : Nat) (f : List Bool → List Bool) : Prop where
  len : ∀ v, v.length = n → (f v).length = m
  add : ∀ u v, u.length = n → v.length = n → f (xr u v) = xr (f u) (f v)
  zer : f (nul n) = nul m
section
variable {n m : Nat} {A B C S T U : List (List Bool)} {f : List Bool → List Bool}
theorem Lin.lens (h : Lin n m f) (hB : Len n B) : Len m (B.map f) := fun b hb => by
  obtain ⟨c, hc, rfl⟩ := List.mem_map.mp hb
  exact h.len c (hB c hc)
theorem Lin.sp (h : Lin n m f) (hB : Len n B) (w : List Bool) : Sp m (B.map f) w ↔ ∃ u, Sp n B u ∧ w = f u := by
  constructor
  · intro s
    induction s with
    | zero => exact ⟨nul n, .zero, h.zer.symm⟩
    | @add b v hb hv ih =>
      obtain ⟨c, hc, rfl⟩ := List.mem_map.mp hb
      obtain ⟨u, hu, rfl⟩ := ih
      exact ⟨xr c u, .add hc hu, (h.add c u (hB c hc) (hu.len hB)).symm⟩
  · rintro ⟨u, hu, rfl⟩
    induction hu with
    | zero => rw [h.zer]; exact .zero
    | @add b v hb hv ih =>
      rw [h.add b v (hB b hb) (hv.len hB)]
      exact .add (List.mem_map.mpr ⟨b, hb, rfl⟩) ih
/-- ranks of a kernel and of an image add up -/
theorem rank_null (h : Lin n m f) (hB : Len n B) (iB : Ind n B) : ∃ K R : List (List Bool), Len n K ∧ Len m R ∧ Ind n K ∧ Ind m R ∧ K.length + R.length = B.length ∧ (∀ v, Sp n K v ↔ Sp n B v ∧ f v = nul m) ∧ ∀ w, Sp m R w ↔ ∃ u, Sp n B u ∧ w = f u := by
  have go : ∀ q l : List (List Bool), l ++ q = B → (∃ K R : List (List Bool), Len n K ∧ Len m R ∧ Ind n K ∧ Ind m R ∧ K.length + R.length = l.length ∧ (∀ v, Sp n K v ↔ Sp n l v ∧ f v = nul m) ∧ ∀ w, Sp m R w ↔ ∃ u, Sp n l u ∧ w = f u) →
      ∃ K R : List (List Bool), Len n K ∧ Len m R ∧ Ind n K ∧ Ind m R ∧ K.length + R.length = B.length ∧ (∀ v, Sp n K v ↔ Sp n B v ∧ f v = nul m) ∧ ∀ w, Sp m R w ↔ ∃ u, Sp n B u ∧ w = f u := fun q => by
    induction q with
    | nil => intro l e h; rw [List.append_nil] at e; subst e; exact h
    | cons p q ih =>
      intro l e hyp
      refine ih (l ++ [p]) (by rw [List.append_assoc]; exact e) ?_
      have hl : Len n l := fun b hb => hB b (by rw [← e]; exact List.mem_append_left _ hb)
      have hp : p.length = n := hB p (by rw [← e]; simp)
      have hp1 : Len n [p] := fun c hc => by rw [List.mem_singleton.mp hc]; exact hp
      have hq : Len n q := fun b hb => hB b (by rw [← e]; simp [hb])
      have i1 : Ind n (l ++ [p]) := ind_prefix (len_app hl hp1) hq (by rw [List.append_assoc]; exact (show l ++ ([p] ++ q) = B from e) ▸ iB)
      have np := ind_out hl hp i1
      have lp := len_app hl hp1
      have sp1 : Sp n (l ++ [p]) p := sp_right (Sp.mem hp1 (List.mem_singleton.mpr rfl))
      obtain ⟨K, R, lK, lR, iK, iR, c, sK, sR⟩ := hyp
      have fp := h.len p hp
      by_cases z : Sp m R (f p)
      · obtain ⟨u, hu, eu⟩ := (sR _).mp z
        have lu := hu.len hl
        have fu := h.len u lu
        have fz : f (xr p u) = nul m := by rw [h.add p u hp lu, eu, xr_self, fu]
        have spu : Sp n (l ++ [p]) (xr p u) := sp1.xr lp (sp_left hu)
        have lpu : (xr p u).length = n := by rw [xr_len (by rw [hp, lu]), hp]
        have l1 : Len n [xr p u] := fun c hc => by rw [List.mem_singleton.mp hc]; exact lpu
        have nin : ¬ Sp n K (xr p u) := fun y => by
          have h1 := ((sK _).mp y).1.xr hl hu
          rw [xr_assoc (by rw [hp, lu]) rfl, xr_self, lu, xr_nul hp] at h1
          exact np h1
        refine ⟨K ++ [xr p u], R, len_app lK l1, lR, ind_snoc lK lpu iK nin, iR, by rw [List.length_append, List.length_append, List.length_singleton, List.length_singleton]; omega, fun v => ⟨fun s => ?_, fun ⟨s, ez⟩ => ?_⟩, fun w => ⟨fun s => ?_, fun ⟨v, s, ew⟩ => ?_⟩⟩
        · obtain ⟨a, b, ha, hb, rfl⟩ := sp_app lK l1 s
          have h1 := (sK a).mp ha
          have la := ha.len lK
          have hb' : b = nul n ∨ b = xr p u := by
            clear s
            induction hb with
            | zero => exact .inl rfl
            | @add r w hr hw ih =>
              rw [List.mem_singleton.mp hr]
              rcases ih with e1 | e1
              · exact .inr (by rw [e1, xr_nul lpu])
              · exact .inl (by rw [e1, xr_self, lpu])
          rcases hb' with rfl | rfl
          · rw [xr_nul la]
            exact ⟨sp_left h1.1, h1.2⟩
          · refine ⟨(sp_left h1.1).xr lp spu, ?_⟩
            rw [h.add a _ la lpu, h1.2, fz, xr_nul (nul_len m)]
        · have lv := s.len lp
          rcases sp_snoc hl hp s with y | y
          · exact sp_left ((sK v).mpr ⟨y, ez⟩)
          · have h1 : Sp n K (xr (xr p u) v) := (sK _).mpr ⟨by
              rw [xr_comm (a := p) (by rw [hp, lu]), xr_assoc (by rw [lu, hp]) (by rw [hp, lv])]
              exact hu.xr hl y, by rw [h.add _ v lpu lv, fz, ez, xr_nul (nul_len m)]⟩
            have l2 := len_app lK l1
            have h2 := (Sp.mem l2 (b := xr p u) (by simp)).xr l2 (sp_left (B := [xr p u]) h1)
            rwa [xr_back (by rw [lpu, lv])] at h2
        · obtain ⟨v, hv, ew⟩ := (sR w).mp s
          exact ⟨v, sp_left hv, ew⟩
        · have lv := s.len lp
          rcases sp_snoc hl hp s with y | y
          · exact (sR w).mpr ⟨v, y, ew⟩
          · have h1 : Sp m R (f (xr p v)) := (sR _).mpr ⟨_, y, rfl⟩
            have h2 := z.xr lR h1
            rw [h.add p v hp lv, xr_back (by rw [fp, h.len v lv])] at h2
            rw [ew]
            exact h2
      · have l1 : Len m [f p] := fun c hc => by rw [List.mem_singleton.mp hc]; exact fp
        refine ⟨K, R ++ [f p], lK, len_app lR l1, iK, ind_snoc lR fp iR z, by rw [List.length_append, List.length_append, List.length_singleton, List.length_singleton]; omega, fun v => ?_, fun w => ⟨fun s => ?_, fun ⟨v, s, ew⟩ => ?_⟩⟩
        · rw [sK v]
          refine ⟨fun y => ⟨sp_left y.1, y.2⟩, fun y => ⟨?_, y.2⟩⟩
          have lv := y.1.len lp
          rcases sp_snoc hl hp y.1 with x | x
          · exact x
          · refine (z ((sR _).mpr ⟨_, x, ?_⟩)).elim
            rw [h.add p v hp lv, y.2, xr_nul fp]
        · obtain ⟨a, b, ha, hb, rfl⟩ := sp_app lR l1 s
          obtain ⟨u, hu, eu⟩ := (sR a).mp ha
          have la := ha.len lR
          have hb' : b = nul m ∨ b = f p := by
            clear s
            induction hb with
            | zero => exact .inl rfl
            | @add r w hr hw ih =>
              rw [List.mem_singleton.mp hr]
              rcases ih with e1 | e1
              · exact .inr (by rw [e1, xr_nul fp])
              · exact .inl (by rw [e1, xr_self, fp])
          rcases hb' with rfl | rfl
          · exact ⟨u, sp_left hu, by rw [xr_nul la]; exact eu⟩
          · exact ⟨xr u p, (sp_left hu).xr lp sp1, by rw [h.add u p (hu.len hl) hp, eu]⟩
        · have lv := s.len lp
          rw [ew]
          rcases sp_snoc hl hp s with y | y
          · exact sp_left ((sR _).mpr ⟨v, y, rfl⟩)
          · have h1 : Sp m R (f (xr p v)) := (sR _).mpr ⟨_, y, rfl⟩
            have l2 := len_app lR l1
            have h2 := (Sp.mem l2 (b := f p) (by simp)).xr l2 (sp_left (B := [f p]) h1)
            rw [h.add p v hp lv, xr_back (by rw [fp, h.len v lv])] at h2
            exact h2
  refine go B [] rfl ⟨[], [], fun b hb => (by cases hb), fun b hb => (by cases hb), ind_nil, ind_nil, by simp, fun v => ⟨fun s => ?_, fun s => s.1⟩, fun w => ⟨fun s => ?_, fun ⟨u, hu, e⟩ => ?_⟩⟩
  · cases s with
    | zero => exact ⟨.zero, h.zer⟩
    | add hb _ => cases hb
  · cases s with
    | zero => exact ⟨nul n, .zero, h.zer.symm⟩
    | add hb _ => cases hb
  · cases hu with
    | zero => rw [e, h.zer]; exact .zero
    | add hb _ => cases hb
theorem ind_zero (hB : Len n B) (iB : Ind n B) (h : ∀ v, Sp n B v → v = nul n) : B.length = 0 := by
  have k : Rref n B [] := by
    refine ⟨red_nil, .nil, fun v => ⟨fun s => ?_, fun s => ?_⟩⟩
    · cases s with
      | zero => exact .zero
      | add hb _ => cases hb
    · rw [h v s]
      exact .zero
  have := iB [] k
  simpa using this.symm
/-! ### places -/
def atP (P : List Nat) (v : List Bool) : List Bool := P.map fun p => gt v p
theorem atP_len (P : List Nat) (v : List Bool) : (atP P v).length = P.length := List.length_map ..
theorem gt_atP {P : List Nat} {v : List Bool} {j : Nat} (h : j < P.length) : gt (atP P v) j = gt v P[j] := by
  show (P.map fun p => gt v p).getD j false = _
  rw [List.getD_eq_getElem?_getD, List.getElem?_map, List.getElem?_eq_getElem h]
  rfl
theorem lin_atP (n : Nat) (P : List Nat) : Lin n P.length (atP P) := by
  refine ⟨fun v _ => atP_len P v, fun u v hu hv => ?_, ?_⟩
  · refine row_ext (by rw [xr_len (by rw [atP_len, atP_len]), atP_len, atP_len]) fun j => ?_
    rw [gt_xr (by rw [atP_len, atP_len])]
    rcases Nat.lt_or_ge j P.length with z | z
    · rw [gt_atP z, gt_atP z, gt_atP z, gt_xr (by rw [hu, hv])]
    · rw [gt_out (by rw [atP_len]; exact z), gt_out (by rw [atP_len]; exact z), gt_out (by rw [atP_len]; exact z)]
      rfl
  · refine row_ext (by rw [atP_len, nul_len]) fun j => ?_
    rw [gt_nul]
    rcases Nat.lt_or_ge j P.length with z | z
    · rw [gt_atP z, gt_nul]
    · rw [gt_out (by rw [atP_len]; exact z)]
/-- the row with told marks at places, noughts elsewhere -/
def extP (n : Nat) (P : List Nat) (v : List Bool) : List Bool := (List.range n).map fun q => gt v (P.idxOf q) && P.contains q
theorem extP_len (n : Nat) (P : List Nat) (v : List Bool) : (extP n P v).length = n := by simp [extP]
theorem gt_extP {P : List Nat} {v : List Bool} {q : Nat} (h : q < n) : gt (extP n P v) q = (gt v (P.idxOf q) && P.contains q) := by
  show ((List.range n).map fun q => gt v (P.idxOf q) && P.contains q).getD q false = _
  rw [List.getD_eq_getElem?_getD, List.getElem?_map, List.getElem?_range h]
  rfl
theorem extP_out {P : List Nat} {v : List Bool} {q : Nat} (h : q ∉ P) : gt (extP n P v) q = false := by
  rcases Nat.lt_or_ge q n with z | z
  · rw [gt_extP z]
    have : P.contains q = false := by simpa using h
    rw [this, Bool.and_false]
  · exact gt_out (by rw [extP_len]; exact z)
theorem idxOf_at {P : List Nat} (nd : P.Nodup) {j : Nat} (h : j < P.length) : P.idxOf P[j] = j := by
  have h1 : P.idxOf P[j] < P.length := List.idxOf_lt_length_iff.mpr (List.getElem_mem h)
  have h2 : P[P.idxOf P[j]] = P[j] := List.getElem_idxOf h1
  rcases Nat.lt_trichotomy (P.idxOf P[j]) j with z | z | z
  · exact (List.pairwise_iff_getElem.mp nd _ _ h1 h z h2).elim
  · exact z
  · exact (List.pairwise_iff_getElem.mp nd _ _ h h1 z h2.symm).elim
theorem atP_extP {P : List Nat} (nd : P.Nodup) (hP : ∀ p ∈ P, p < n) {v : List Bool} (hv : v.length = P.length) : atP P (extP n P v) = v :=
  row_ext (by rw [atP_len, hv]) fun j => by
    rcases Nat.lt_or_ge j P.length with z | z
    · rw [gt_atP z, gt_extP (hP _ (List.getElem_mem z)), idxOf_at nd z]
      have : P.contains P[j] = true := List.contains_iff_mem.mpr (List.getElem_mem z)
      rw [this, Bool.and_true]
    · rw [gt_out (by rw [atP_len]; exact z), gt_out (by rw [hv]; exact z)]
theorem extP_atP {P : List Nat} {v : List Bool} (hv : v.length = n) (h0 : ∀ q, q < n → q ∉ P → gt v q = false) : extP n P (atP P v) = v :=
  row_ext (by rw [extP_len, hv]) fun q => by
    rcases Nat.lt_or_ge q n with z | z
    · by_cases hq : q ∈ P
      · have h1 : P.idxOf q < P.length := List.idxOf_lt_length_iff.mpr hq
        have : P.contains q = true := List.contains_iff_mem.mpr hq
        rw [gt_extP z, gt_atP h1, List.getElem_idxOf h1, this, Bool.and_true]
      · rw [extP_out hq, h0 q z hq]
    · rw [gt_out (by rw [extP_len]; exact z), gt_out (by rw [hv]; exact z)]
/-- dot, as a sum over places -/
def psum (g : Nat → Bool) : List Nat → Bool
  | [] => false
  | p :: P => g p ^^ psum g P
theorem psum_congr {g h : Nat → Bool} : ∀ {P : List Nat}, (∀ p ∈ P, g p = h p) → psum g P = psum h P
  | [], _ => rfl
  | p :: P, e => by
    show (g p ^^ psum g P) = (h p ^^ psum h P)
    rw [e p (List.mem_cons_self ..), psum_congr fun q hq => e q (List.mem_cons_of_mem _ hq)]
theorem psum_zero {g : Nat → Bool} : ∀ {P : List Nat}, (∀ p ∈ P, g p = false) → psum g P = false
  | [], _ => rfl
  | p :: P, e => by
    show (g p ^^ psum g P) = false
    rw [e p (List.mem_cons_self ..), psum_zero fun q hq => e q (List.mem_cons_of_mem _ hq)]
    rfl
theorem psum_app {g : Nat → Bool} : ∀ (P Q : List Nat), psum g (P ++ Q) = (psum g P ^^ psum g Q)
  | [], Q => by simp [psum]
  | p :: P, Q => by
    show (g p ^^ psum g (P ++ Q)) = ((g p ^^ psum g P) ^^ psum g Q)
    rw [psum_app P Q, Bool.xor_assoc]
theorem psum_map {g : Nat → Bool} {h : Nat → Nat} : ∀ (P : List Nat), psum g (P.map h) = psum (fun p => g (h p)) P
  | [] => rfl
  | p :: P => by
    show (g (h p) ^^ psum g (P.map h)) = (g (h p) ^^ psum _ P)
    rw [psum_map P]
theorem psum_perm {g : Nat → Bool} {P Q : List Nat} (p : P.Perm Q) : psum g P = psum g Q := by
  induction p with
  | nil => rfl
  | cons x _ ih => show (g x ^^ psum g _) = (g x ^^ psum g _); rw [ih]
  | swap x y l =>
    show (g y ^^ (g x ^^ psum g l)) = (g x ^^ (g y ^^ psum g l))
    cases g x <;> cases g y <;> cases psum g l <;> rfl
  | trans _ _ a b => exact a.trans b
theorem dot_psum : ∀ {a b : List Bool}, a.length = b.length → dot a b = psum (fun i => gt a i && gt b i) (List.range a.length)
  | [], [], _ => rfl
  | [], _ :: _, h => by cases h
  | _ :: _, [], h => by cases h
  | x :: xs, y :: ys, h => by
    have ih := dot_psum (a := xs) (b := ys) (by simpa using h)
    rw [List.length_cons, List.range_succ_eq_map]
    show ((x && y) ^^ dot xs ys) = ((gt (x :: xs) 0 && gt (y :: ys) 0) ^^ psum _ ((List.range xs.length).map Nat.succ))
    rw [ih, psum_map]
    rfl
def outP (n : Nat) (P : List Nat) : List Nat := (List.range n).filter fun q => !P.contains q
theorem mem_outP {P : List Nat} {q : Nat} : q ∈ outP n P ↔ q < n ∧ q ∉ P := by
  unfold outP
  rw [List.mem_filter, List.mem_range]
  simp
theorem split_perm {P : List Nat} (nd : P.Nodup) (hP : ∀ p ∈ P, p < n) : (List.range n).Perm (P ++ outP n P) := by
  have nd2 : (P ++ outP n P).Nodup := List.nodup_append.mpr ⟨nd, List.nodup_range.filter _, fun a ha b hb e => (mem_outP.mp hb).2 (e ▸ ha)⟩
  refine perm_of_sub _ _ nd2 (fun a ha => ?_) ?_
  · rcases List.mem_append.mp ha with z | z
    · exact List.mem_range.mpr (hP a z)
    · exact List.mem_range.mpr (mem_outP.mp z).1
  · exact nodup_sub_len _ _ List.nodup_range fun a ha => by
      by_cases z : a ∈ P
      · exact List.mem_append_left _ z
      · exact List.mem_append_right _ (mem_outP.mpr ⟨List.mem_range.mp ha, z⟩)
theorem dot_ext {P : List Nat} (nd : P.Nodup) (hP : ∀ p ∈ P, p < n) {o v : List Bool} (ho : o.length = n) (hv : v.length = P.length) : dot (atP P o) v = dot o (extP n P v) := by
  rw [dot_psum (by rw [atP_len, hv]), dot_psum (by rw [ho, extP_len]), atP_len, ho, psum_perm (split_perm nd hP), psum_app]
  have h0 : psum (fun i => gt o i && gt (extP n P v) i) (outP n P) = false := psum_zero fun q hq => by rw [extP_out (mem_outP.mp hq).2, Bool.and_false]
  rw [h0, Bool.xor_false]
  have e : P = (List.range P.length).map fun j => P.getD j 0 := by
    apply List.ext_getElem (by simp)
    intro j h1 h2
    simp [List.getElem?_eq_getElem h1]
  have h1 : psum (fun i => gt o i && gt (extP n P v) i) P = psum (fun i => gt o i && gt (extP n P v) i) ((List.range P.length).map fun j => P.getD j 0) := congrArg _ e
  rw [h1, psum_map]
  refine psum_congr fun j hj => ?_
  have z := List.mem_range.mp hj
  have e2 : P.getD j 0 = P[j] := by rw [List.getD_eq_getElem?_getD, List.getElem?_eq_getElem z]; rfl
  have e3 := congrArg (fun r => gt r j) (atP_extP (n := n) nd hP hv)
  simp only [gt_atP z] at e3
  rw [e2, gt_atP z, e3]
/-! ### the code left at places -/
structure LeftAt (n : Nat) (B : List (List Bool)) (P : List Nat) (L : List (List Bool)) : Prop where
  red : Red P.length L
  asc : L.Pairwise fun a b => lead a < lead b
  span : ∀ v, Sp P.length L v ↔ v.length = P.length ∧ Sp n B (extP n P v)
theorem LeftAt.unique {P : List Nat} {L M : List (List Bool)} (h : LeftAt n B P L) (k : LeftAt n B P M) : L = M :=
  Rref.unique (rows := L) ⟨h.red, h.asc, fun v => Iff.rfl⟩ ⟨k.red, k.asc, fun v => (k.span v).trans (h.span v).symm⟩
theorem LeftAt.rref {P : List Nat} {L : List (List Bool)} (h : LeftAt n B P L) : Rref P.length L L := ⟨h.red, h.asc, fun v => Iff.rfl⟩
theorem LeftAt.congr {P : List Nat} {L : List (List Bool)} (h : LeftAt n B P L) (e : ∀ v, Sp n B v ↔ Sp n C v) : LeftAt n C P L := ⟨h.red, h.asc, fun v => (h.span v).trans (and_congr Iff.rfl (e _))⟩
theorem left_of {P : List Nat} {O Q L : List (List Bool)} (nd : P.Nodup) (hP : ∀ p ∈ P, p < n) (hB : Len n B) (hS : Rref n B S) (hO : Rref n (freeRows n S) O) (hQ : Rref P.length (O.map (atP P)) Q) (hL : Rref P.length (freeRows P.length Q) L) : LeftAt n B P L := by
  have lO := hO.red.len
  have lM := (lin_atP n P).lens lO
  refine ⟨hL.red, hL.asc, fun v => ?_⟩
  have key : ∀ v : List Bool, v.length = P.length → (Sp P.length L v ↔ Sp n B (extP n P v)) := fun v lv => by
    rw [hL.span v, even_free hQ.red lv]
    have hback := other_back hS hO
    have h1 : Sp n B (extP n P v) ↔ ∀ o ∈ O, dot o (extP n P v) = false := by
      rw [← hS.span, hback.span, even_free hO.red (extP_len n P v)]
    rw [h1]
    constructor
    · intro h o ho
      rw [← dot_ext nd hP (lO o ho) lv]
      exact dot_sp hQ.red.len h ((hQ.span _).mpr (Sp.mem lM (List.mem_map.mpr ⟨o, ho, rfl⟩)))
    · intro h b hb
      refine dot_sp lM (fun w hw => ?_) ((hQ.span b).mp (Sp.mem hQ.red.len hb))
      obtain ⟨o, ho, rfl⟩ := List.mem_map.mp hw
      rw [dot_ext nd hP (lO o ho) lv]
      exact h o ho
  constructor
  · intro s
    have lv := s.len hL.red.len
    exact ⟨lv, (key v lv).mp s⟩
  · rintro ⟨lv, s⟩
    exact (key v lv).mpr s
/-- what is left and what is seen elsewhere add up -/
theorem left_rank {P : List Nat} {L Q : List (List Bool)} (nd : P.Nodup) (hP : ∀ p ∈ P, p < n) (hB : Len n B) (iB : Ind n B) (hL : LeftAt n B P L) (hQ : Rref (outP n P).length (B.map (atP (outP n P))) Q) : L.length + Q.length = B.length := by
  obtain ⟨K, R, lK, lR, iK, iR, c, sK, sR⟩ := rank_null (lin_atP n (outP n P)) hB iB
  have h1 : Q.length = R.length := iR Q (hQ.congr fun w => ((lin_atP n (outP n P)).sp hB w).trans (sR w).symm)
  have zero : ∀ v, Sp n K v → v.length = n ∧ Sp n B v ∧ ∀ q, q < n → q ∉ P → gt v q = false := fun v s => by
    have lv := s.len lK
    obtain ⟨s1, s2⟩ := (sK v).mp s
    refine ⟨lv, s1, fun q hq hn => ?_⟩
    have hm : q ∈ outP n P := mem_outP.mpr ⟨hq, hn⟩
    obtain ⟨j, hj, e⟩ := List.getElem_of_mem hm
    have := congrArg (fun r => gt r j) s2
    simp only [gt_nul] at this
    rw [gt_atP hj, e] at this
    exact this
  obtain ⟨K2, R2, lK2, lR2, iK2, iR2, c2, sK2, sR2⟩ := rank_null (lin_atP n P) lK iK
  have k0 : K2.length = 0 := ind_zero lK2 iK2 fun v s => by
    obtain ⟨s1, s2⟩ := (sK2 v).mp s
    obtain ⟨lv, _, h0⟩ := zero v s1
    have := extP_atP lv h0
    rw [← this, s2]
    refine row_ext (by rw [extP_len, nul_len]) fun q => ?_
    rw [gt_nul]
    rcases Nat.lt_or_ge q n with z | z
    · rw [gt_extP z, gt_nul, Bool.false_and]
    · exact gt_out (by rw [extP_len]; exact z)
  have h2 : L.length = R2.length := iR2 L (hL.rref.congr fun v => by
    rw [hL.span v, sR2 v]
    constructor
    · rintro ⟨lv, s⟩
      refine ⟨extP n P v, (sK _).mpr ⟨s, ?_⟩, (atP_extP nd hP lv).symm⟩
      refine row_ext (by rw [atP_len, nul_len]) fun j => ?_
      rw [gt_nul]
      rcases Nat.lt_or_ge j (outP n P).length with z | z
      · rw [gt_atP z, extP_out (mem_outP.mp (List.getElem_mem z)).2]
      · exact gt_out (by rw [atP_len]; exact z)
    · rintro ⟨u, hu, rfl⟩
      obtain ⟨lu, su, h0⟩ := zero u hu
      exact ⟨atP_len P u, by rw [extP_atP lu h0]; exact su⟩)
  omega
end
open PySem PySem.Spec PyProof.Rows L2
end Z
set_option Elab.async false
set_option linter.all false
set_option maxRecDepth 100000
set_option maxHeartbeats 4000000
/-! G8: rows made of rows, bases changed. -/
namespace Z
section
variable {n k : Nat} {A B C S T : List (List Bool)}
/-- the places of the marks -/
def idxs (c : List Bool) : List Nat := (List.range c.length).filter fun i => gt c i
theorem mem_idxs {c : List Bool} {i : Nat} : i ∈ idxs c ↔ gt c i = true := by
  unfold idxs
  rw [List.mem_filter, List.mem_range]
  refine ⟨fun z => z.2, fun z => ⟨Nat.lt_of_not_le fun h => (by rw [gt_out h] at z; cases z), z⟩⟩
theorem idxs_asc (c : List Bool) : (idxs c).Pairwise (· < ·) := List.Pairwise.sublist List.filter_sublist List.pairwise_lt_range
theorem idxs_lt {c : List Bool} {i : Nat} (h : i ∈ idxs c) : i < c.length := by
  unfold idxs at h
  exact List.mem_range.mp (List.mem_filter.mp h).1
theorem up_same : ∀ {A B : List Nat}, A.Pairwise (· < ·) → B.Pairwise (· < ·) → (∀ x, x ∈ A ↔ x ∈ B) → A = B
  | [], [], _, _, _ => rfl
  | [], c :: C, _, _, h => by have := (h c).mpr (List.mem_cons_self ..); cases this
  | b :: B, [], _, _, h => by have := (h b).mp (List.mem_cons_self ..); cases this
  | b :: B, c :: C, hB, hC, h => by
    rw [List.pairwise_cons] at hB hC
    have e : b = c := by
      rcases List.mem_cons.mp ((h b).mp (List.mem_cons_self ..)) with z | z
      · exact z
      · rcases List.mem_cons.mp ((h c).mpr (List.mem_cons_self ..)) with y | y
        · exact y.symm
        · have h1 := hB.1 c y
          have h2 := hC.1 b z
          omega
    subst e
    rw [up_same hB.2 hC.2 fun d => ⟨fun hd => ?_, fun hd => ?_⟩]
    · rcases List.mem_cons.mp ((h d).mp (List.mem_cons_of_mem _ hd)) with z | z
      · have := hB.1 d hd
        omega
      · exact z
    · rcases List.mem_cons.mp ((h d).mpr (List.mem_cons_of_mem _ hd)) with z | z
      · have := hC.1 d hd
        omega
      · exact z
/-! ### a base with another row -/
theorem len_erase (hB : Len n B) (i : Nat) : Len n (B.eraseIdx i) := fun b hb => hB b (List.mem_of_mem_eraseIdx hb)
theorem perm_set : ∀ {B : List (List Bool)} {i : Nat} (r : List Bool), i < B.length → (B.set i r).Perm (B.eraseIdx i ++ [r])
  | [], _, _, h => by simp at h
  | b :: B, 0, r, _ => by
    rw [List.set_cons_zero, List.eraseIdx_cons_zero]
    exact (List.perm_append_comm (l₁ := B) (l₂ := [r])).symm
  | b :: B, i + 1, r, h => by
    rw [List.set_cons_succ, List.eraseIdx_cons_succ]
    exact (perm_set r (by simpa using h)).cons b
theorem ind_set (hB : Len n B) {i : Nat} (hi : i < B.length) (iB : Ind n B) {r : List Bool} (hr : r.length = n) : Ind n (B.set i r) ↔ ¬ Sp n (B.eraseIdx i) r := by
  have le := len_erase hB i
  have p0 : B.Perm (B.eraseIdx i ++ [B[i]]) := by
    have := perm_set (B := B) (i := i) B[i] hi
    rwa [List.set_getElem_self] at this
  have li : B[i].length = n := hB _ (List.getElem_mem _)
  have i0 : Ind n (B.eraseIdx i) := ind_prefix le (fun c hc => by rw [List.mem_singleton.mp hc]; exact li) (ind_perm p0.symm iB)
  constructor
  · intro h
    exact ind_out le hr (ind_perm (perm_set r hi).symm h)
  · intro h
    exact ind_perm (perm_set r hi) (ind_snoc le hr i0 h)
theorem ind_set_self (hB : Len n B) {i : Nat} (hi : i < B.length) (iB : Ind n B) : ¬ Sp n (B.eraseIdx i) B[i] := by
  have := (ind_set hB hi iB (r := B[i]) (hB _ (List.getElem_mem _))).mp (by rw [List.set_getElem_self]; exact iB)
  exact this
/-- of those that make a row of a base, one can stand in its place -/
theorem exchange (hB : Len n B) (hC : Len n C) (iB : Ind n B) {i : Nat} (hi : i < B.length) {c : List Bool} (hc : c.length = C.length) (e : cmb n c C = B[i]) : ∃ j, gt c j = true ∧ ∃ hj : j < C.length, Ind n (B.set i C[j]) := Classical.byContradiction fun z => by
  apply ind_set_self hB hi iB
  rw [← e]
  have go : ∀ (C : List (List Bool)) (c : List Bool), Len n C → (∀ j, gt c j = true → ∀ hj : j < C.length, Sp n (B.eraseIdx i) C[j]) → Sp n (B.eraseIdx i) (cmb n c C) := fun C => by
    induction C with
    | nil => intro c _ _; cases c <;> exact .zero
    | cons d C ih =>
      intro c hC h
      cases c with
      | nil => exact .zero
      | cons x c =>
        have s := ih c (fun e he => hC e (List.mem_cons_of_mem _ he)) fun j g hj => h (j + 1) g (by simpa using hj)
        cases x with
        | false => exact s
        | true => exact (h 0 rfl (by simp)).xr (len_erase hB i) s
  refine go C c hC fun j g hj => Classical.byContradiction fun y => z ⟨j, g, hj, ?_⟩
  exact (ind_set hB hi iB (hC _ (List.getElem_mem _))).mpr y
/-! ### rows taken down by others -/
end
open PySem PySem.Spec PyProof.Rows L2
/-! ### as data -/
theorem cutL_drop {α : Type} (xs : List α) (k : Nat) : cutL xs (some (k : Int)) none = xs.drop k := by
  unfold cutL
  rw [HT.sIx_none, HT.sIx_nat]
  rcases Nat.le_total k xs.length with h | h
  · rw [Nat.min_eq_left h, List.take_of_length_le (by rw [List.length_drop]; omega)]
  · rw [Nat.min_eq_right h, Nat.sub_self, List.take_zero, List.drop_eq_nil_of_le h]
end Z
set_option Elab.async false
set_option linter.all false
set_option maxRecDepth 100000
set_option maxHeartbeats 4000000
/-! G9: rows of any marks. -/
set_option Elab.async false
set_option linter.all false
set_option maxRecDepth 100000
set_option maxHeartbeats 4000000
/-! G10: rows as numbers, place k for 2 to the k. -/
namespace Z
open PySem PySem.Spec PyProof.Rows L2
section
variable {n m : Nat} {A B C S T U : List (List Bool)} {f : List Bool → List Bool}
def numB : List Bool → Nat
  | [] => 0
  | b :: bs => bN b + 2 * numB bs
/-- the last place with a mark -/
def top : List Bool → Nat
  | [] => 0
  | b :: bs => if bs.contains true then top bs + 1 else 0
theorem gt_cons (b : Bool) (bs : List Bool) (p : Nat) : gt (b :: bs) (p + 1) = gt bs p := rfl
theorem top_gt : ∀ {h : List Bool}, true ∈ h → gt h (top h) = true
  | [], z => by cases z
  | b :: bs, z => by
    unfold top
    by_cases c : bs.contains true = true
    · rw [if_pos c, gt_cons]
      exact top_gt (by simpa using c)
    · rw [if_neg c]
      rcases List.mem_cons.mp z with rfl | z
      · rfl
      · exact absurd (by simpa using z) c
/-! ### numbers solved -/
theorem sp_one {h : List Bool} (hl : h.length = n) {u : List Bool} (s : Sp n [h] u) : u = nul n ∨ u = h := by
  induction s with
  | zero => exact .inl rfl
  | @add c u hc su ih =>
    rw [List.mem_singleton.mp hc]
    rcases ih with rfl | rfl
    · right; rw [xr_nul hl]
    · left; rw [xr_self, hl]
theorem sp_split {h : List Bool} (hl : h.length = n) (hL : Len n A) {v : List Bool} (s : Sp n (h :: A) v) : Sp n A v ∨ ∃ w, Sp n A w ∧ v = xr h w := by
  have l1 : Len n [h] := fun b hb => by rw [List.mem_singleton.mp hb]; exact hl
  obtain ⟨a, b, sa, sb, rfl⟩ := sp_app (A := [h]) l1 hL s
  have lb := sb.len hL
  rcases sp_one hl sa with rfl | rfl
  · left
    rw [xr_comm (by rw [nul_len, lb]), xr_nul lb]
    exact sb
  · exact .inr ⟨b, sb, rfl⟩
/-- how many rows are independent -/
def rkN (B : List (List Bool)) : Nat := (toldP B).length
theorem rk_eq (h : Len n B) (k : Rref n B S) : S.length = rkN B := by
  obtain ⟨r, sp⟩ := told_red h
  obtain ⟨p, asc⟩ := sort_asc r
  rw [k.unique (Rref.of_perm r sp p asc), p.length_eq]
  rfl
theorem rk_ind (hB : Len n B) (hA : Len n A) (i : Ind n A) (e : ∀ v, Sp n A v ↔ Sp n B v) : A.length = rkN B := by
  obtain ⟨S, hS, _⟩ := rref_ex hB
  rw [← rk_eq hB hS]
  exact (ind_congr i hA e hS).symm
theorem rk_congr (hA : Len n A) (hB : Len n B) (e : ∀ v, Sp n A v ↔ Sp n B v) : rkN A = rkN B := by
  obtain ⟨S, hS, _⟩ := rref_ex hA
  rw [← rk_eq hA hS]
  exact rk_eq hB (hS.congr e)
theorem rk_le (B : List (List Bool)) : rkN B ≤ B.length := toldP_len B
theorem ind_rk (hB : Len n B) : Ind n B ↔ rkN B = B.length := told_ind hB
end
end Z
set_option Elab.async false
set_option linter.all false
set_option maxRecDepth 100000
set_option maxHeartbeats 4000000
/-! G11: ranks at places, widths. -/
namespace Z
open PySem PySem.Spec PyProof.Rows L2
section
variable {n m : Nat} {A B C S T U : List (List Bool)} {f : List Bool → List Bool} {P Q : List Nat}
/-- a row with noughts outside P -/
def maskP (n : Nat) (P : List Nat) (v : List Bool) : List Bool := (List.range n).map fun q => gt v q && P.contains q
theorem maskP_len (n : Nat) (P : List Nat) (v : List Bool) : (maskP n P v).length = n := by simp [maskP]
theorem gt_maskP {v : List Bool} {q : Nat} (h : q < n) : gt (maskP n P v) q = (gt v q && P.contains q) := by
  unfold maskP gt
  simp [h]
theorem lin_mask (n : Nat) (P : List Nat) : Lin n n (maskP n P) := by
  refine ⟨fun v _ => maskP_len n P v, fun u v hu hv => ?_, ?_⟩
  · refine row_ext (by rw [maskP_len, xr_len (by rw [maskP_len, maskP_len]), maskP_len]) fun p => ?_
    by_cases hp : p < n
    · rw [gt_xr (by rw [maskP_len, maskP_len]), gt_maskP hp, gt_maskP hp, gt_maskP hp, gt_xr (by rw [hu, hv])]
      cases gt u p <;> cases gt v p <;> cases P.contains p <;> rfl
    · rw [gt_out (by rw [maskP_len]; omega), gt_out (by rw [xr_len (by rw [maskP_len, maskP_len]), maskP_len]; omega)]
  · refine row_ext (by rw [maskP_len, nul_len]) fun p => ?_
    by_cases hp : p < n
    · rw [gt_maskP hp, gt_nul, Bool.false_and]
    · rw [gt_out (by rw [maskP_len]; omega), gt_nul]
/-- maps that lose nothing keep the rank -/
theorem rk_map (h : Lin n m f) (hB : Len n B) (z : ∀ v, Sp n B v → f v = nul m → v = nul n) : rkN (B.map f) = rkN B := by
  obtain ⟨S, hS, _⟩ := rref_ex hB
  have lS := hS.red.len
  have iS : Ind n S := ind_rref hS
  obtain ⟨K, R, lK, lR, iK, iR, c, sK, sR⟩ := rank_null h lS iS
  have k0 : K.length = 0 := ind_zero lK iK fun v s => by
    obtain ⟨s1, s2⟩ := (sK v).mp s
    exact z v ((hS.span v).mp s1) s2
  rw [← rk_eq hB hS, ← rk_ind (h.lens hB) lR iR fun w => (sR w).trans (((h.sp hB w).trans (exists_congr fun u => and_congr (hS.span u).symm Iff.rfl)).symm)]
  omega
theorem atP_mask {v : List Bool} (hP : ∀ p ∈ P, p < n) : atP P (maskP n P v) = atP P v := by
  unfold atP
  refine List.map_congr_left fun p hp => ?_
  rw [gt_maskP (hP p hp)]
  simp [hp]
theorem mask_zero {v : List Bool} (hP : ∀ p ∈ P, p < n) (h : atP P v = nul P.length) : maskP n P v = nul n := by
  refine row_ext (by rw [maskP_len, nul_len]) fun q => ?_
  by_cases hq : q < n
  · rw [gt_maskP hq, gt_nul]
    by_cases c : q ∈ P
    · obtain ⟨j, hj, e⟩ := List.mem_iff_getElem.mp c
      have := congrArg (fun r => gt r j) h
      simp only [gt_atP hj, gt_nul, e] at this
      rw [this]; rfl
    · simp [c]
  · rw [gt_out (by rw [maskP_len]; omega), gt_nul]
/-- the rank at places -/
def rkP (B : List (List Bool)) (P : List Nat) : Nat := rkN (B.map (atP P))
theorem rkP_mask (hB : Len n B) (hP : ∀ p ∈ P, p < n) : rkN (B.map (maskP n P)) = rkP B P := by
  have l1 := (lin_mask n P).lens hB
  have := rk_map (B := B.map (maskP n P)) (lin_atP n P) l1 fun v s e => by
    obtain ⟨u, su, rfl⟩ := ((lin_mask n P).sp hB v).mp s
    rw [atP_mask hP] at e
    exact mask_zero hP e
  rw [← this]
  unfold rkP
  congr 1
  rw [List.map_map]
  exact List.map_congr_left fun v hv => by simp only [Function.comp]; exact atP_mask hP
theorem rkP_eq {R : List (List Bool)} (hB : Len n B) (h : Rref P.length (B.map (atP P)) R) : R.length = rkP B P := rk_eq ((lin_atP n P).lens hB) h
/-- rows of the code that are noughts on P -/
def Ker (n : Nat) (B : List (List Bool)) (P : List Nat) (K : List (List Bool)) : Prop := Len n K ∧ Ind n K ∧ ∀ v, Sp n K v ↔ Sp n B v ∧ ∀ p ∈ P, gt v p = false
theorem at_zero {v : List Bool} : atP P v = nul P.length ↔ ∀ p ∈ P, gt v p = false := by
  constructor
  · intro h p hp
    obtain ⟨j, hj, e⟩ := List.mem_iff_getElem.mp hp
    have := congrArg (fun r => gt r j) h
    simp only [gt_atP hj, gt_nul, e] at this
    exact this
  · intro h
    refine row_ext (by rw [atP_len, nul_len]) fun j => ?_
    rw [gt_nul]
    by_cases hj : j < P.length
    · rw [gt_atP hj]; exact h _ (List.getElem_mem hj)
    · rw [gt_out (by rw [atP_len]; omega)]
theorem ker_ex (hB : Len n B) (iB : Ind n B) (P : List Nat) : ∃ K, Ker n B P K ∧ K.length + rkP B P = B.length := by
  obtain ⟨K, R, lK, lR, iK, iR, c, sK, sR⟩ := rank_null (lin_atP n P) hB iB
  refine ⟨K, ⟨lK, iK, fun v => (sK v).trans (and_congr Iff.rfl at_zero)⟩, ?_⟩
  have := rk_ind ((lin_atP n P).lens hB) lR iR fun w => (sR w).trans ((lin_atP n P).sp hB w).symm
  unfold rkP
  omega
theorem sub_len (hA : Len n A) (iA : Ind n A) (hB : Len n B) (h : ∀ v, Sp n A v → Sp n B v) : A.length ≤ B.length := by
  obtain ⟨S, hS, _⟩ := rref_ex hA
  have nd := sums_nodup hS hA (iA S hS)
  have := nodup_sub_len (sums n A) (sums n B) nd fun v hv => (sums_mem hB).mpr (h v ((sums_mem hA).mp hv))
  unfold sums at this
  rw [sums_len, sums_len] at this
  simp only [List.length_singleton, Nat.one_mul] at this
  exact (Nat.pow_le_pow_iff_right (by decide)).mp this
theorem rkP_mono (hB : Len n B) (iB : Ind n B) (h : ∀ p ∈ P, p ∈ Q) : rkP B P ≤ rkP B Q := by
  obtain ⟨K, k1, k2⟩ := ker_ex hB iB P
  obtain ⟨L, l1, l2⟩ := ker_ex hB iB Q
  have := sub_len l1.1 l1.2.1 k1.1 fun v s => (k1.2.2 v).mpr ⟨((l1.2.2 v).mp s).1, fun p hp => ((l1.2.2 v).mp s).2 p (h p hp)⟩
  omega
theorem rkP_same (hB : Len n B) (iB : Ind n B) (h : ∀ p, p ∈ P ↔ p ∈ Q) : rkP B P = rkP B Q := Nat.le_antisymm (rkP_mono hB iB fun p hp => (h p).mp hp) (rkP_mono hB iB fun p hp => (h p).mpr hp)
/-- less is told by meets and joins together -/
theorem rkP_sub (hB : Len n B) (iB : Ind n B) {I V : List Nat} (hI : ∀ p ∈ I, p ∈ P ∧ p ∈ Q) (hV : ∀ p ∈ V, p ∈ P ∨ p ∈ Q) : rkP B I + rkP B V ≤ rkP B P + rkP B Q := by
  obtain ⟨K1, a1, a2⟩ := ker_ex hB iB P
  obtain ⟨K2, b1, b2⟩ := ker_ex hB iB Q
  obtain ⟨K3, c1, c2⟩ := ker_ex hB iB I
  obtain ⟨K4, d1, d2⟩ := ker_ex hB iB V
  obtain ⟨U, W, lU, lW, iU, iW, c, sU, sW⟩ := dims a1.1 b1.1 a1.2.1 b1.2.1
  have h1 : U.length ≤ K3.length := sub_len lU iU c1.1 fun v s => by
    have s := (sU v).mp s
    refine s.sub c1.1 fun b hb => (c1.2.2 b).mpr ?_
    rcases List.mem_append.mp hb with hb | hb
    · have := (a1.2.2 b).mp (Sp.mem a1.1 hb)
      exact ⟨this.1, fun p hp => this.2 p (hI p hp).1⟩
    · have := (b1.2.2 b).mp (Sp.mem b1.1 hb)
      exact ⟨this.1, fun p hp => this.2 p (hI p hp).2⟩
  have h2 : W.length ≤ K4.length := sub_len lW iW d1.1 fun v s => by
    obtain ⟨s1, s2⟩ := (sW v).mp s
    have s1 := (a1.2.2 v).mp s1
    have s2 := (b1.2.2 v).mp s2
    exact (d1.2.2 v).mpr ⟨s1.1, fun p hp => (hV p hp).elim (s1.2 p) (s2.2 p)⟩
  omega
theorem rkP_nil : rkP B [] = 0 := by
  have h := rk_le (B.map (atP []))
  unfold rkP
  have l : Len 0 (B.map (atP [])) := fun b hb => by
    obtain ⟨c, _, rfl⟩ := List.mem_map.mp hb
    rfl
  obtain ⟨S, hS, _⟩ := rref_ex l
  rw [← rk_eq l hS]
  have := hS.red.count
  omega
theorem rkP_le : rkP B P ≤ P.length := by
  have l : Len P.length (B.map (atP P)) := fun b hb => by
    obtain ⟨c, _, rfl⟩ := List.mem_map.mp hb
    exact atP_len P c
  unfold rkP
  obtain ⟨S, hS, _⟩ := rref_ex l
  rw [← rk_eq l hS]
  exact hS.red.count
theorem atP_all {v : List Bool} (h : v.length = n) : atP (List.range n) v = v := by
  refine row_ext (by rw [atP_len, List.length_range, h]) fun p => ?_
  by_cases hp : p < n
  · rw [gt_atP (by rw [List.length_range]; exact hp), List.getElem_range]
  · rw [gt_out (by rw [atP_len, List.length_range]; omega), gt_out (by omega)]
theorem rkP_all (hB : Len n B) (iB : Ind n B) : rkP B (List.range n) = B.length := by
  unfold rkP
  have : B.map (atP (List.range n)) = B := by
    exact (List.map_congr_left (g := fun v => v) fun v hv => atP_all (hB v hv)).trans (List.map_id' B)
  rw [this]
  exact (ind_rk hB).mp iB
theorem rkP_more (hB : Len n B) (iB : Ind n B) {p : Nat} (h : ∀ q, q ∈ Q ↔ q ∈ P ∨ q = p) : rkP B P ≤ rkP B Q ∧ rkP B Q ≤ rkP B P + 1 := by
  refine ⟨rkP_mono hB iB fun q hq => (h q).mpr (.inl hq), ?_⟩
  have h1 := rkP_sub hB iB (P := P) (Q := [p]) (I := []) (V := Q) (fun q hq => by cases hq) fun q hq => ((h q).mp hq).imp id fun z => List.mem_singleton.mpr z
  have h2 : rkP B [p] ≤ 1 := rkP_le
  rw [rkP_nil] at h1
  omega
/-- widths of other codes -/
theorem rk_other {O : List (List Bool)} (nd : P.Nodup) (hP : ∀ p ∈ P, p < n) (hB : Len n B) (iB : Ind n B) (hS : Rref n B S) (hO : Rref n (freeRows n S) O) : rkP O P + B.length = P.length + rkP B (outP n P) := by
  have lO := hO.red.len
  obtain ⟨Q1, hQ1, _⟩ := rref_ex ((lin_atP n P).lens lO)
  obtain ⟨L, hL, _⟩ := rref_ex (free_len P.length Q1)
  have la := left_of nd hP hB hS hO hQ1 hL
  obtain ⟨Q2, hQ2, _⟩ := rref_ex ((lin_atP n (outP n P)).lens hB)
  have c1 := left_rank nd hP hB iB la hQ2
  have c2 := other_count hQ1 hL
  have e1 := rkP_eq lO hQ1
  have e2 := rkP_eq hB hQ2
  omega
theorem out_len (nd : P.Nodup) (hP : ∀ p ∈ P, p < n) : P.length + (outP n P).length = n := by
  have := (split_perm nd hP).length_eq
  rw [List.length_range, List.length_append] at this
  omega
theorem out_nodup (n : Nat) (P : List Nat) : (outP n P).Nodup := List.Nodup.sublist List.filter_sublist List.nodup_range
theorem rkP_congr (hA : Len n A) (hB : Len n B) (e : ∀ v, Sp n A v ↔ Sp n B v) : rkP A P = rkP B P :=
  rk_congr ((lin_atP n P).lens hA) ((lin_atP n P).lens hB) fun w => by
    rw [(lin_atP n P).sp hA w, (lin_atP n P).sp hB w]
    exact exists_congr fun u => and_congr (e u) Iff.rfl
theorem ind_count (hB : Len n B) (iB : Ind n B) : B.length ≤ n := by
  obtain ⟨S, hS, _⟩ := rref_ex hB
  have := hS.red.count
  have := iB S hS
  omega
end
end Z
set_option Elab.async false
set_option linter.all false
set_option maxRecDepth 100000
set_option maxHeartbeats 4000000
/-! G12: how many rows of a code are noughts on places, or beside them; how many sums they have. -/
namespace Z
open PySem PySem.Spec PyProof.Rows L2
section
variable {n : Nat} {B K S : List (List Bool)} {P : List Nat}
theorem mask_nul {v : List Bool} (hP : ∀ p ∈ P, p < n) : maskP n P v = nul n ↔ ∀ p ∈ P, gt v p = false := by
  constructor
  · intro e p hp
    have := congrArg (fun r => gt r p) e
    simp only [gt_maskP (hP p hp), gt_nul] at this
    simpa [hp] using this
  · intro z
    refine row_ext (by rw [maskP_len, nul_len]) fun q => ?_
    by_cases hq : q < n
    · rw [gt_maskP hq, gt_nul]
      by_cases c : q ∈ P
      · rw [z q c]; rfl
      · simp [c]
    · rw [gt_out (by rw [maskP_len]; omega), gt_nul]
theorem sums_nd (hB : Len n B) (iB : Ind n B) : (sums n B).Nodup := by
  obtain ⟨S, hS, _⟩ := rref_ex hB
  exact sums_nodup hS hB (iB S hS)
theorem sums_count (B : List (List Bool)) : (sums n B).length = 2 ^ B.length := by
  unfold sums
  rw [sums_len, List.length_singleton, Nat.one_mul]
theorem same_len {α : Type} [BEq α] [LawfulBEq α] {A M : List α} (h1 : A.Nodup) (h2 : M.Nodup) (h : ∀ x, x ∈ A ↔ x ∈ M) : A.length = M.length :=
  Nat.le_antisymm (nodup_sub_len A M h1 fun x hx => (h x).mp hx) (nodup_sub_len M A h2 fun x hx => (h x).mpr hx)
theorem filter_count (hB : Len n B) (iB : Ind n B) (hK : Ker n B P K) {g : List Bool → Bool} (h : ∀ v, Sp n B v → (g v = true ↔ ∀ p ∈ P, gt v p = false)) : ((sums n B).filter g).length = 2 ^ K.length := by
  rw [← sums_count (n := n) K]
  refine same_len (List.Nodup.sublist List.filter_sublist (sums_nd hB iB)) (sums_nd hK.1 hK.2.1) fun v => ?_
  rw [List.mem_filter, sums_mem hB, sums_mem hK.1, hK.2.2 v]
  exact ⟨fun z => ⟨z.1, (h v z.1).mp z.2⟩, fun z => ⟨z.1, (h v z.1).mpr z.2⟩⟩
end
end Z
set_option Elab.async false
set_option linter.all false
set_option maxRecDepth 100000
set_option maxHeartbeats 4000000
/-! G13: heads with their places, as data. -/
namespace Z
open PySem PySem.Spec PyProof.Rows L2
section
variable {n : Nat} {B S : List (List Bool)}
def bitsD (r : List Bool) : List D := r.map fun b => .int (bI b)
theorem bitsD_row (r : List Bool) : (rowI r).map PyData.int = bitsD r := row_ints r
theorem solids_bitsD (r : List Bool) : solids (bitsD r) = true := solids_of fun b _ => solid_int _
theorem bitsD_xr (a b : List Bool) : ((a.zip b).map fun p => (.int (bI (p.1 ^^ p.2)) : D)) = bitsD (xr a b) := by rw [xr_zip, bitsD_row]
theorem at_bitsD {r : List Bool} {p : Nat} (h : p < r.length) : atI (bitsD r) (p : Int) = some (.int (bI (gt r p))) := atI_ok (by rw [← bitsD_row]; exact at_rowD h) rfl
end
end Z
set_option Elab.async false
set_option linter.all false
set_option maxRecDepth 100000
set_option maxHeartbeats 4000000
/-! G14: values of all kinds: how great they are, how they may be bent; what is a tuple of numbers below a bound, a row. -/
namespace Z
open PySem PySem.Spec PyProof.Rows L2
mutual
/-- an upper bound on how many signs show it -/
def wg : D → Nat
  | .none => 5
  | .bool _ => 6
  | .int _ => 15
  | .str x => (PyData.str x).shown.length
  | .list ds => wgs ds + 4
  | .tuple ds => wgs ds + 4
  | .dict kvs => wgk kvs + 4
def wgs : List D → Nat
  | [] => 0
  | d :: ds => wg d + 2 + wgs ds
def wgk : List (D × D) → Nat
  | [] => 0
  | (_, d) :: r => wg d + 2 + wgk r
end
mutual
/-- what never changes, its ints at most m either way -/
def good (m : Nat) : D → Bool
  | .none => true
  | .bool _ => true
  | .int i => decide (i.natAbs ≤ m)
  | .str _ => true
  | .list _ => false
  | .tuple ds => goods m ds
  | .dict kvs => (isFrz kvs && goodk m kvs) || (isFrd kvs && kvs.length == 1)
def goods (m : Nat) : List D → Bool
  | [] => true
  | d :: ds => good m d && goods m ds
def goodk (m : Nat) : List (D × D) → Bool
  | [] => true
  | (_, d) :: r => good m d && goodk m r
end
theorem goods_all {m : Nat} : ∀ {ds : List D}, goods m ds = true ↔ ∀ d ∈ ds, good m d = true
  | [] => by simp [goods]
  | d :: ds => by simp [goods, goods_all]
mutual
theorem good_can {m : Nat} : ∀ d : D, good m d = true → canT d = true
  | .none, _ => by simp [canT]
  | .bool _, _ => by simp [canT]
  | .int _, _ => by simp [canT]
  | .str _, _ => by simp [canT]
  | .list _, h => by simp [good] at h
  | .tuple ds, h => by
    simp only [canT]
    exact goods_can ds (by simpa only [good] using h)
  | .dict kvs, h => by
    simp only [good, Bool.or_eq_true, Bool.and_eq_true] at h
    simp only [canT, Bool.or_eq_true, Bool.and_eq_true]
    exact h.imp (fun z => ⟨z.1, goodk_can kvs z.2⟩) id
theorem goods_can {m : Nat} : ∀ ds : List D, goods m ds = true → canTs ds = true
  | [], _ => by simp [canTs]
  | d :: ds, h => by
    simp only [goods, Bool.and_eq_true] at h
    simp only [canTs, good_can d h.1, goods_can ds h.2, Bool.and_self]
theorem goodk_can {m : Nat} : ∀ ds : List (D × D), goodk m ds = true → canTk ds = true
  | [], _ => by simp [canTk]
  | (_, d) :: ds, h => by
    simp only [goodk, Bool.and_eq_true] at h
    simp only [canTk, good_can d h.1, goodk_can ds h.2, Bool.and_self]
end
mutual
theorem good_solid {m : Nat} : ∀ d : D, good m d = true → solid d = true
  | .none, _ => by simp [solid]
  | .bool _, _ => by simp [solid]
  | .int _, _ => by simp [solid]
  | .str _, _ => by simp [solid]
  | .list _, h => by simp [good] at h
  | .tuple ds, h => by
    simp only [solid]
    exact goods_solid ds (by simpa only [good] using h)
  | .dict kvs, h => by
    simp only [good, Bool.or_eq_true, Bool.and_eq_true] at h
    rcases h with ⟨z, _⟩ | ⟨z, _⟩
    · obtain ⟨r, rfl⟩ := isFrz_cons z
      simp [solid, isSrc, isFrz]
    · obtain ⟨r, rfl⟩ := isFrd_cons z
      simp [solid, isSrc, isFrd]
theorem goods_solid {m : Nat} : ∀ ds : List D, goods m ds = true → solids ds = true
  | [], _ => by simp [solids]
  | d :: ds, h => by
    simp only [goods, Bool.and_eq_true] at h
    simp only [solids, good_solid d h.1, goods_solid ds h.2, Bool.and_self]
end
mutual
theorem good_mono {m m' : Nat} (hm : m ≤ m') : ∀ d : D, good m d = true → good m' d = true
  | .none, _ => by simp [good]
  | .bool _, _ => by simp [good]
  | .int i, h => by
    simp only [good, decide_eq_true_eq] at h ⊢
    omega
  | .str _, _ => by simp [good]
  | .list _, h => by simp [good] at h
  | .tuple ds, h => by
    simp only [good]
    exact goods_mono hm ds (by simpa only [good] using h)
  | .dict kvs, h => by
    simp only [good, Bool.or_eq_true, Bool.and_eq_true] at h ⊢
    exact h.imp (fun z => ⟨z.1, goodk_mono hm kvs z.2⟩) id
theorem goods_mono {m m' : Nat} (hm : m ≤ m') : ∀ ds : List D, goods m ds = true → goods m' ds = true
  | [], _ => by simp [goods]
  | d :: ds, h => by
    simp only [goods, Bool.and_eq_true] at h ⊢
    exact ⟨good_mono hm d h.1, goods_mono hm ds h.2⟩
theorem goodk_mono {m m' : Nat} (hm : m ≤ m') : ∀ ds : List (D × D), goodk m ds = true → goodk m' ds = true
  | [], _ => by simp [goodk]
  | (_, d) :: ds, h => by
    simp only [goodk, Bool.and_eq_true] at h ⊢
    exact ⟨good_mono hm d h.1, goodk_mono hm ds h.2⟩
end
theorem log_small {i : Int} (h : i.natAbs ≤ 100000000000) : i.natAbs.log2 < 1920 := log2_small (Nat.lt_of_le_of_lt h (by decide))
mutual
theorem good_show {m : Nat} (hm : m ≤ 100000000000) : ∀ d : D, good m d = true → (thaw d).showable = true ∧ (thaw d).shown.length ≤ wg d
  | .none, _ => by
    simp only [thaw, wg]
    exact ⟨by decide, by decide⟩
  | .bool b, _ => by
    simp only [thaw, wg]
    cases b <;> exact ⟨by decide, by decide⟩
  | .int i, h => by
    simp only [good, decide_eq_true_eq] at h
    simp only [thaw, wg, PyData.showable, decide_eq_true_eq]
    exact ⟨log_small (Nat.le_trans h hm), Nat.le_trans (PyData.shown_int_le (show i.natAbs < 10 ^ 12 from Nat.lt_of_le_of_lt (Nat.le_trans h hm) (by decide))) (by decide)⟩
  | .str x, _ => by
    simp only [thaw, wg, PyData.showable]
    exact ⟨trivial, Nat.le_refl _⟩
  | .list _, h => by simp [good] at h
  | .tuple ds, h => by
    obtain ⟨h1, h2⟩ := goods_show hm ds (by simpa only [good] using h)
    simp only [thaw, wg, PyData.showable, PyData.shown]
    refine ⟨h1, Nat.le_trans (tupleText_len_le _) ?_⟩
    omega
  | .dict kvs, h => by
    simp only [good, Bool.or_eq_true, Bool.and_eq_true] at h
    rcases h with ⟨z, hk⟩ | ⟨z, hl⟩
    · obtain ⟨r, rfl⟩ := isFrz_cons z
      simp only [goodk, Bool.and_eq_true] at hk
      obtain ⟨h1, h2⟩ := goodk_show hm r hk.2
      have e : thaw (.dict ((.bool true, .none) :: r)) = .list (thawk r) := by simp only [thaw, if_pos z, thawk, List.tail_cons]
      rw [e]
      simp only [wg, wgk, PyData.showable, PyData.shown]
      refine ⟨h1, Nat.le_trans (listText_len_le _) ?_⟩
      omega
    · obtain ⟨r, rfl⟩ := isFrd_cons z
      obtain rfl : r = [] := by simpa using hl
      rw [show thaw (.dict [(.bool false, .none)]) = .dict [] from thaw_frd]
      simp only [wg, wgk]
      exact ⟨by decide, by decide⟩
theorem goods_show {m : Nat} (hm : m ≤ 100000000000) : ∀ ds : List D, goods m ds = true → PyData.showableAll (thaws ds) = true ∧ ((PyData.shownAll (thaws ds)).map (·.length)).sum + 2 * (PyData.shownAll (thaws ds)).length ≤ wgs ds
  | [], _ => by simp [thaws, PyData.showableAll, PyData.shownAll, wgs]
  | d :: ds, h => by
    simp only [goods, Bool.and_eq_true] at h
    obtain ⟨a1, a2⟩ := good_show hm d h.1
    obtain ⟨b1, b2⟩ := goods_show hm ds h.2
    simp only [thaws, PyData.showableAll, PyData.shownAll, wgs, a1, b1, List.map_cons, List.sum_cons, List.length_cons]
    exact ⟨rfl, by omega⟩
theorem goodk_show {m : Nat} (hm : m ≤ 100000000000) : ∀ ds : List (D × D), goodk m ds = true → PyData.showableAll (thawk ds) = true ∧ ((PyData.shownAll (thawk ds)).map (·.length)).sum + 2 * (PyData.shownAll (thawk ds)).length ≤ wgk ds
  | [], _ => by simp [thawk, PyData.showableAll, PyData.shownAll, wgk]
  | (_, d) :: ds, h => by
    simp only [goodk, Bool.and_eq_true] at h
    obtain ⟨a1, a2⟩ := good_show hm d h.1
    obtain ⟨b1, b2⟩ := goodk_show hm ds h.2
    simp only [thawk, PyData.showableAll, PyData.shownAll, wgk, a1, b1, List.map_cons, List.sum_cons, List.length_cons]
    exact ⟨rfl, by omega⟩
end
/-- a value of any kind that never changes: ints at most m either way, at most k deep, shown by at most L signs -/
structure Vl (m k L : Nat) (d : D) : Prop where
  good : good m d = true
  dep : (thaw d).depth ≤ k
  wt : wg d ≤ L
theorem Vl.ok {m k L : Nat} {d : D} (h : Vl m k L d) (hm : m ≤ 100000000000) (hk : k ≤ 40) (hL : L ≤ 10000000) : OkT 40 10000000 d :=
  ⟨good_can _ h.good, Nat.le_trans h.dep hk, (good_show hm _ h.good).1, Nat.le_trans (good_show hm _ h.good).2 (Nat.le_trans h.wt hL)⟩
theorem Vl.solid {m k L : Nat} {d : D} (h : Vl m k L d) : solid d = true := good_solid _ h.good
theorem Vl.mono {m k L m' k' L' : Nat} {d : D} (h : Vl m k L d) (a : m ≤ m') (b : k ≤ k') (c : L ≤ L') : Vl m' k' L' d := ⟨good_mono a _ h.good, Nat.le_trans h.dep b, Nat.le_trans h.wt c⟩
theorem wgs_len : ∀ ds : List D, 2 * ds.length ≤ wgs ds
  | [] => by simp [wgs]
  | d :: ds => by
    have := wgs_len ds
    simp only [wgs, List.length_cons]
    omega
theorem depthAll_le {k : Nat} : ∀ {ds : List D}, PyData.depthAll (thaws ds) ≤ k ↔ ∀ d ∈ ds, (thaw d).depth ≤ k
  | [] => by simp [thaws, PyData.depthAll]
  | d :: ds => by
    simp only [thaws, PyData.depthAll, List.mem_cons, forall_eq_or_imp, Nat.max_le, depthAll_le]
/-- a tuple of such -/
theorem Vl.tuple {m k L : Nat} {ds : List D} (h : ∀ d ∈ ds, ∃ l, Vl m k l d) (w : wgs ds + 4 ≤ L) : Vl m (k + 1) L (.tuple ds) := by
  refine ⟨?_, ?_, ?_⟩
  · simp only [Z.good]
    exact goods_all.mpr fun d hd => let ⟨l, hl⟩ := h d hd; hl.good
  · simp only [thaw, PyData.depth]
    have : PyData.depthAll (thaws ds) ≤ k := depthAll_le.mpr fun d hd => let ⟨l, hl⟩ := h d hd; hl.dep
    omega
  · simp only [wg]
    exact w
theorem Vl.frz {m k L : Nat} {ds : List D} (h : ∀ d ∈ ds, ∃ l, Vl m k l d) (w : wgs ds + 15 ≤ L) : Vl m (k + 1) L (frzD ds) := by
  have gk : ∀ es : List D, (∀ d ∈ es, ∃ l, Vl m k l d) → goodk m (es.map fun d => (.bool true, d)) = true := fun es => by
    induction es with
    | nil => intro _; simp [goodk]
    | cons e es ih =>
      intro h
      simp only [List.map_cons, goodk, Bool.and_eq_true]
      exact ⟨let ⟨l, hl⟩ := h e (List.mem_cons_self ..); hl.good, ih fun d hd => h d (List.mem_cons_of_mem _ hd)⟩
  have wk : ∀ es : List D, wgk (es.map fun d => ((.bool true : D), d)) = wgs es := fun es => by
    induction es with
    | nil => simp [wgk, wgs]
    | cons e es ih => simp only [List.map_cons, wgk, wgs, ih]
  refine ⟨?_, ?_, ?_⟩
  · unfold frzD frzK
    simp only [Z.good, goodk, gk ds h]
    rfl
  · rw [thaw_frz]
    simp only [PyData.depth]
    have : PyData.depthAll (thaws ds) ≤ k := depthAll_le.mpr fun d hd => let ⟨l, hl⟩ := h d hd; hl.dep
    rw [thaws_map] at this
    omega
  · unfold frzD frzK
    simp only [wg, wgk, wk]
    omega
theorem Vl.parts {m k L : Nat} {ds : List D} (h : Vl m k L (.tuple ds)) : 1 ≤ k ∧ wgs ds + 4 ≤ L ∧ ∀ d ∈ ds, Vl m (k - 1) (wg d) d := by
  have h1 := h.good
  have h2 := h.dep
  have h3 := h.wt
  simp only [Z.good] at h1
  simp only [thaw, PyData.depth] at h2
  simp only [wg] at h3
  have h4 := goods_all.mp h1
  have h5 : PyData.depthAll (thaws ds) ≤ k - 1 := by omega
  exact ⟨by omega, h3, fun d hd => ⟨h4 d hd, depthAll_le.mp h5 d hd, Nat.le_refl _⟩⟩
theorem Vl.isi {m k L : Nat} {d : D} (h : Vl m k L d) : noFrz d := by
  cases d with
  | dict kvs =>
    have := h.good
    simp only [Z.good, Bool.or_eq_true, Bool.and_eq_true] at this
    rcases this with ⟨z, _⟩ | ⟨z, hl⟩
    · exact .inl z
    · obtain ⟨r, rfl⟩ := isFrd_cons z
      obtain rfl : r = [] := by simpa using hl
      exact .inr rfl
  | _ => trivial
theorem Vl.none {m k : Nat} : Vl m k 5 .none := ⟨by simp [Z.good], by simp [thaw, PyData.depth], by simp [wg]⟩
theorem Vl.bool {m k : Nat} {b : Bool} : Vl m k 6 (.bool b) := ⟨by simp [Z.good], by simp [thaw, PyData.depth], by simp [wg]⟩
theorem Vl.int {m k : Nat} {i : Int} (h : i.natAbs ≤ m) : Vl m k 15 (.int i) := ⟨by simp [Z.good, h], by simp [thaw, PyData.depth], by simp [wg]⟩
theorem Vl.str {m k : Nat} {x : Str} {L : Nat} (h : (PyData.str x).shown.length ≤ L) : Vl m k L (.str x) := ⟨by simp [Z.good], by simp [thaw, PyData.depth], by simpa [wg] using h⟩
theorem Vl.inner {m k L : Nat} {d : D} (h : Vl m k L d) (hL : L ≤ 10000000) : noFrz d ∧ ∀ xs, d = .tuple xs → xs.length ≤ 10000000 ∧ ∀ x ∈ xs, noFrz x := ⟨h.isi, fun xs e => by
  subst e
  obtain ⟨_, a, b⟩ := h.parts
  have := wgs_len xs
  exact ⟨by omega, fun x hx => (b x hx).isi⟩⟩
/-- a value and what lies in it has a type that is known, and is not too long -/
def inner (d : D) : Prop := noFrz d ∧ ∀ xs, d = .tuple xs → xs.length ≤ 10000000 ∧ ∀ x ∈ xs, noFrz x
/-! ### tuples of numbers below a bound; rows -/
end Z
set_option Elab.async false
set_option linter.all false
set_option maxRecDepth 100000
set_option maxHeartbeats 4000000
/-! G15: told faults; sums of rows with some numbers; what is short. -/
namespace Z
open PySem L2
theorem fEq_list_nil {α : Type} {f : α → D} {neg : Bool} {B : List α} {R : D → Prop} (hp : ∀ b ∈ B, (f b).plain = true) (h : R (.bool (if neg then !B.isEmpty else B.isEmpty))) : fEq neg (.list (B.map f)) (.list []) R := by
  refine ⟨?_, by simp [PyData.plain, PyData.plainAll], ?_, ?_⟩
  · simp only [PyData.plain]
    exact plainAll_of fun d hd => by
      obtain ⟨x, hx, rfl⟩ := List.mem_map.mp hd
      exact hp x hx
  · simp only [PyData.depth, PyData.depthAll]; omega
  · have e : PyData.eqv (.list (B.map f)) (.list []) = B.isEmpty := by cases B <;> simp [PyData.eqv, PyData.eqvAll]
    rw [e]
    exact h
theorem plain_nat (n : Nat) : (natD n).plain = true := by simp [PyData.plain, PyData.canLay0]
theorem idxs_cons (x : Bool) (c : List Bool) : idxs (x :: c) = (if x then [0] else []) ++ (idxs c).map (· + 1) := by
  unfold idxs
  rw [List.length_cons, List.range_succ_eq_map, List.filter_cons, List.filter_map]
  have e : ((fun i => gt (x :: c) i) ∘ Nat.succ) = fun i => gt c i := by
    funext i
    unfold gt
    simp
  rw [e]
  cases x
  · rw [if_neg (by simp [gt])]
    simp
  · rw [if_pos (by simp [gt])]
    simp
theorem ok_nats {ns : List Nat} {m : Nat} (h : ∀ n ∈ ns, n ≤ 1000000) (hl : ns.length ≤ m) : Ok 1 (m * 15 + 3) (.tuple (ns.map natD)) := Ok.tuple (k := 0) (w := 13) (fun d hd => by
  obtain ⟨n, hn, rfl⟩ := List.mem_map.mp hd
  exact Ok.int (by have := h n hn; omega)) (by rw [List.length_map]; exact hl)
end Z
set_option Elab.async false
set_option linter.all false
set_option maxHeartbeats 1000000
/-! G16: rows led place by place (stepped), ranks by columns, numbers of lots. Plain Lean. -/
namespace Z
open PySem
section
variable {n m : Nat} {B X : List (List Bool)}
theorem sp_at (h : Len n B) {p : Nat} (z : ∀ b ∈ B, gt b p = false) {v : List Bool} (s : Sp n B v) : gt v p = false := by
  induction s with
  | zero => exact gt_nul n p
  | @add b w hb hw ih => rw [gt_xr (by rw [h b hb, hw.len h]), z b hb, ih]; rfl
/-- rows with places of their own -/
theorem ind_units : ∀ (H : List (Nat × List Bool)), Len n (H.map (·.2)) → H.Pairwise (fun a b => gt b.2 a.1 = false) → (∀ a ∈ H, gt a.2 a.1 = true) → Ind n (H.map (·.2))
  | [], _, _, _ => ind_nil
  | a :: H, l, pw, one => by
    have pw := List.pairwise_cons.mp pw
    have l2 : Len n (H.map (·.2)) := fun b hb => l b (List.mem_cons_of_mem _ hb)
    have ih := ind_units H l2 pw.2 fun b hb => one b (List.mem_cons_of_mem _ hb)
    have hz : ¬ Sp n (H.map (·.2)) a.2 := fun s => by
      have := sp_at (p := a.1) l2 (fun b hb => by obtain ⟨c, hc, rfl⟩ := List.mem_map.mp hb; exact pw.1 c hc) s
      rw [one a (List.mem_cons_self ..)] at this
      cases this
    refine ind_perm (B := H.map (·.2) ++ [a.2]) ?_ (ind_snoc l2 (l _ (List.mem_cons_self ..)) ih hz)
    rw [List.map_cons]
    exact (List.perm_append_singleton _ _).symm
theorem sp_perm {P Q : List (List Bool)} (p : P.Perm Q) {v : List Bool} : Sp n P v ↔ Sp n Q v := ⟨fun s => s.mono fun b hb => p.mem_iff.mp hb, fun s => s.mono fun b hb => p.mem_iff.mpr hb⟩
theorem sp_clear {p : Nat} {r : List Bool} (hr : r.length = n) (hX : Len n X) {v : List Bool} : Sp n (r :: X.map (clr p r)) v ↔ Sp n (r :: X) v := by
  have l1 : Len n (r :: X) := fun b hb => by
    rcases List.mem_cons.mp hb with rfl | hb
    · exact hr
    · exact hX b hb
  have l2 : Len n (r :: X.map (clr p r)) := fun b hb => by
    rcases List.mem_cons.mp hb with rfl | hb
    · exact hr
    · obtain ⟨c, hc, rfl⟩ := List.mem_map.mp hb
      exact clr_len hr (hX c hc)
  have h1 : Sp n (r :: X) r := Sp.mem l1 (List.mem_cons_self ..)
  have h2 : Sp n (r :: X.map (clr p r)) r := Sp.mem l2 (List.mem_cons_self ..)
  constructor
  · refine fun s => s.sub l1 fun b hb => ?_
    rcases List.mem_cons.mp hb with rfl | hb
    · exact h1
    · obtain ⟨c, hc, rfl⟩ := List.mem_map.mp hb
      exact clr_sp l1 h1 (Sp.mem l1 (List.mem_cons_of_mem _ hc))
  · refine fun s => s.sub l2 fun b hb => ?_
    rcases List.mem_cons.mp hb with rfl | hb
    · exact h2
    · exact sp_clr l2 hr (hX b hb) h2 (Sp.mem l2 (List.mem_cons_of_mem _ (List.mem_map.mpr ⟨b, hb, rfl⟩)))
/-- one place -/
def stepHL (st : List (Nat × List Bool) × List (List Bool)) (p : Nat) : List (Nat × List Bool) × List (List Bool) :=
  match st.2.zipIdx.filter fun q => gt q.1 p with
  | [] => st
  | q :: _ => ((st.1.map fun a => (a.1, clr p q.1 a.2)) ++ [(p, q.1)], (st.2.eraseIdx q.2).map (clr p q.1))
def steps (B : List (List Bool)) (P : List Nat) : List (Nat × List Bool) × List (List Bool) := P.foldl stepHL ([], B)
structure HL (n : Nat) (B : List (List Bool)) (Q : List Nat) (H : List (Nat × List Bool)) (L : List (List Bool)) : Prop where
  lenH : Len n (H.map (·.2))
  lenL : Len n L
  sp : ∀ v, Sp n (H.map (·.2) ++ L) v ↔ Sp n B v
  zer : ∀ q ∈ Q, ∀ r ∈ L, gt r q = false
  one : ∀ a ∈ H, a.1 ∈ Q ∧ gt a.2 a.1 = true
  apart : H.Pairwise fun a b => gt a.2 b.1 = false ∧ gt b.2 a.1 = false
  many : H.length + L.length = B.length
  up : (H.map (·.1)).Sublist Q
theorem HL.start (hB : Len n B) : HL n B [] [] B := ⟨fun b hb => (by cases hb), hB, fun v => Iff.rfl, fun q hq => (by cases hq), fun a ha => (by cases ha), .nil, by simp, by simp⟩
theorem zipIdx_get {α : Type} {L : List α} {q : α × Nat} (h : q ∈ L.zipIdx) : ∃ hq : q.2 < L.length, L[q.2] = q.1 := by
  obtain ⟨x, j⟩ := q
  have := List.mem_zipIdx h
  refine ⟨by omega, ?_⟩
  have := this.2.2
  simp only [Nat.sub_zero] at this
  exact this.symm
theorem perm_at {α : Type} : ∀ (L : List α) (j : Nat) (h : j < L.length), L.Perm (L[j] :: L.eraseIdx j)
  | a :: L, 0, _ => List.Perm.refl _
  | a :: L, j + 1, h => by
    have ih := perm_at L j (by simpa using h)
    exact (ih.cons a).trans (List.Perm.swap ..)
theorem HL.step {Q : List Nat} {H : List (Nat × List Bool)} {L : List (List Bool)} (h : HL n B Q H L) (p : Nat) : HL n B (Q ++ [p]) (stepHL (H, L) p).1 (stepHL (H, L) p).2 := by
  unfold stepHL
  simp only
  cases e : L.zipIdx.filter fun q => gt q.1 p with
  | nil =>
    refine ⟨h.lenH, h.lenL, h.sp, fun q hq r hr => ?_, fun a ha => ⟨List.mem_append_left _ (h.one a ha).1, (h.one a ha).2⟩, h.apart, h.many, h.up.trans (List.sublist_append_left ..)⟩
    rcases List.mem_append.mp hq with hq | hq
    · exact h.zer q hq r hr
    · rw [List.mem_singleton.mp hq]
      obtain ⟨j, hj, rfl⟩ := List.mem_iff_getElem.mp hr
      have := List.filter_eq_nil_iff.mp e (L[j], j) (List.mem_zipIdx_iff_getElem?.mpr (List.getElem?_eq_getElem hj))
      simpa using this
  | cons q more =>
    have hm : q ∈ L.zipIdx.filter fun q => gt q.1 p := by rw [e]; exact List.mem_cons_self ..
    obtain ⟨hz, hg⟩ := List.mem_filter.mp hm
    obtain ⟨hj, ej⟩ := zipIdx_get hz
    obtain ⟨r, j⟩ := q
    simp only at hz hg hj ej ⊢
    have hr : r ∈ L := by rw [← ej]; exact List.getElem_mem hj
    have lr := h.lenL r hr
    have pe : L.Perm (r :: L.eraseIdx j) := by have := perm_at L j hj; rw [ej] at this; exact this
    have le : Len n (L.eraseIdx j) := fun b hb => h.lenL b (List.mem_of_mem_eraseIdx hb)
    have lH : ∀ a ∈ H, a.2.length = n := fun a ha => h.lenH _ (List.mem_map.mpr ⟨a, ha, rfl⟩)
    have er : ∀ a ∈ H, gt (clr p r a.2) a.1 = gt a.2 a.1 := fun a ha => clr_other lr (lH a ha) (h.zer _ (h.one a ha).1 r hr)
    refine ⟨fun b hb => ?_, fun b hb => ?_, fun v => ?_, fun q hq b hb => ?_, fun a ha => ?_, ?_, ?_, ?_⟩
    · rw [List.map_append, List.map_map] at hb
      rcases List.mem_append.mp hb with hb | hb
      · obtain ⟨a, ha, rfl⟩ := List.mem_map.mp hb
        exact clr_len lr (lH a ha)
      · simp only [List.map_cons, List.map_nil, List.mem_singleton] at hb
        rw [hb]
        exact lr
    · obtain ⟨c, hc, rfl⟩ := List.mem_map.mp hb
      exact clr_len lr (le c hc)
    · rw [← h.sp v]
      have lX : Len n (H.map (·.2) ++ L.eraseIdx j) := len_app h.lenH le
      have p1 : (H.map (·.2) ++ L).Perm (r :: (H.map (·.2) ++ L.eraseIdx j)) := (List.Perm.append_left _ pe).trans List.perm_middle
      have p2 : (((H.map fun a => (a.1, clr p r a.2)) ++ [(p, r)]).map (·.2) ++ (L.eraseIdx j).map (clr p r)).Perm (r :: (H.map (·.2) ++ L.eraseIdx j).map (clr p r)) := by
        have e : ((H.map fun a => (a.1, clr p r a.2)) ++ [(p, r)]).map (·.2) ++ (L.eraseIdx j).map (clr p r) = (H.map (·.2)).map (clr p r) ++ r :: (L.eraseIdx j).map (clr p r) := by
          simp [List.map_map, Function.comp_def]
        rw [e, List.map_append]
        exact List.perm_middle
      rw [sp_perm p2, sp_clear lr lX, sp_perm p1]
    · obtain ⟨c, hc, rfl⟩ := List.mem_map.mp hb
      have hcL := List.mem_of_mem_eraseIdx hc
      rcases List.mem_append.mp hq with hq | hq
      · rw [clr_other lr (h.lenL c hcL) (h.zer q hq r hr)]
        exact h.zer q hq c hcL
      · rw [List.mem_singleton.mp hq]
        exact clr_at lr (h.lenL c hcL) hg
    · rcases List.mem_append.mp ha with ha | ha
      · obtain ⟨b, hb, rfl⟩ := List.mem_map.mp ha
        exact ⟨List.mem_append_left _ (h.one b hb).1, by rw [er b hb]; exact (h.one b hb).2⟩
      · rw [List.mem_singleton.mp ha]
        exact ⟨List.mem_append_right _ (List.mem_singleton.mpr rfl), hg⟩
    · refine List.pairwise_append.mpr ⟨List.pairwise_map.mpr (h.apart.imp_of_mem fun {a b} ha hb z => ?_), List.pairwise_singleton _ _, fun a ha b hb => ?_⟩
      · simp only
        rw [clr_other lr (lH a ha) (h.zer _ (h.one b hb).1 r hr), clr_other lr (lH b hb) (h.zer _ (h.one a ha).1 r hr)]
        exact z
      · rw [List.mem_singleton.mp hb]
        obtain ⟨c, hc, rfl⟩ := List.mem_map.mp ha
        exact ⟨clr_at lr (lH c hc) hg, h.zer _ (h.one c hc).1 r hr⟩
    · have := h.many
      have := pe.length_eq
      simp only [List.length_append, List.length_map, List.length_cons, List.length_nil] at *
      omega
    · rw [List.map_append, List.map_map]
      exact h.up.append (List.Sublist.refl _)
theorem steps_ok (hB : Len n B) (P : List Nat) : HL n B P (steps B P).1 (steps B P).2 := by
  have go : ∀ (R Q : List Nat) (st : List (Nat × List Bool) × List (List Bool)), HL n B Q st.1 st.2 → HL n B (Q ++ R) (R.foldl stepHL st).1 (R.foldl stepHL st).2 := fun R => by
    induction R with
    | nil => intro Q st h; rw [List.append_nil]; exact h
    | cons p R ih =>
      intro Q st h
      have := ih (Q ++ [p]) (stepHL st p) (h.step p)
      rw [List.append_assoc] at this
      exact this
  have := go P [] ([], B) (HL.start hB)
  exact this
/-- as many heads as the rank -/
theorem HL.rank {Q : List Nat} {H : List (Nat × List Bool)} {L : List (List Bool)} (h : HL n B Q H L) (hB : Len n B) (hQ : ∀ q ∈ Q, q < n) : H.length = rkP B Q := by
  have lA := len_app h.lenH h.lenL
  rw [← rkP_congr lA hB h.sp, ← rkP_mask lA hQ]
  have one : ∀ a ∈ H, gt (maskP n Q a.2) a.1 = true := fun a ha => by
    rw [gt_maskP (hQ _ (h.one a ha).1), (h.one a ha).2]
    simpa using (h.one a ha).1
  have lM : Len n ((H.map fun a => (a.1, maskP n Q a.2)).map (·.2)) := fun b hb => by
    rw [List.map_map] at hb
    obtain ⟨c, hc, rfl⟩ := List.mem_map.mp hb
    exact maskP_len ..
  have i := ind_units (n := n) (H.map fun a => (a.1, maskP n Q a.2)) lM (List.pairwise_map.mpr (h.apart.imp_of_mem fun {a b} ha hb z => by
    simp only
    rw [gt_maskP (hQ _ (h.one a ha).1), z.2, Bool.false_and])) fun b hb => by
      obtain ⟨a, ha, rfl⟩ := List.mem_map.mp hb
      exact one a ha
  have e := rk_ind ((lin_mask n Q).lens lA) lM i fun v => by
    have e1 : ((H.map fun a => (a.1, maskP n Q a.2)).map (·.2)) = (H.map (·.2)).map (maskP n Q) := by simp [List.map_map, Function.comp_def]
    rw [List.map_append, e1]
    refine ⟨sp_left, fun s => s.sub (by rw [← e1]; exact lM) fun b hb => ?_⟩
    rcases List.mem_append.mp hb with hb | hb
    · exact Sp.mem (by rw [← e1]; exact lM) hb
    · obtain ⟨c, hc, rfl⟩ := List.mem_map.mp hb
      have : maskP n Q c = nul n := (mask_nul hQ).mpr fun q hq => h.zer q hq c hc
      rw [this]
      exact .zero
  rw [List.length_map, List.length_map] at e
  exact e
theorem steps_rank (hB : Len n B) {P : List Nat} (hP : ∀ p ∈ P, p < n) : (steps B P).1.length = rkP B P := (steps_ok hB P).rank hB hP
/-- columns -/
def colB (B : List (List Bool)) (p : Nat) : List Bool := B.map fun b => gt b p
theorem colB_len (B : List (List Bool)) (p : Nat) : (colB B p).length = B.length := List.length_map ..
theorem gt_colB {i : Nat} (h : i < B.length) (p : Nat) : gt (colB B p) i = gt B[i] p := by
  unfold colB
  conv => lhs; unfold gt
  rw [List.getD_eq_getElem?_getD, List.getElem?_map, List.getElem?_eq_getElem h]
  rfl
theorem gt_colB_out {i : Nat} (h : B.length ≤ i) (p : Nat) : gt (colB B p) i = false := gt_out (by rw [colB_len]; exact h)
def trB (k : Nat) (M : List (List Bool)) : List (List Bool) := (List.range k).map (colB M)
theorem trB_len (k : Nat) (M : List (List Bool)) : Len M.length (trB k M) := fun b hb => by
  obtain ⟨p, hp, rfl⟩ := List.mem_map.mp hb
  exact colB_len M p
theorem trB_trB {k : Nat} {M : List (List Bool)} (h : Len k M) : trB M.length (trB k M) = M := by
  refine List.ext_getElem (by simp [trB]) fun i h1 h2 => ?_
  have e : (trB M.length (trB k M))[i] = colB (trB k M) i := by simp [trB]
  rw [e]
  have lk : (trB k M).length = k := by simp [trB]
  refine row_ext (by rw [colB_len, lk, h _ (List.getElem_mem h2)]) fun p => ?_
  by_cases hp : p < k
  · rw [gt_colB (by rw [lk]; exact hp)]
    have : (trB k M)[p]'(by rw [lk]; exact hp) = colB M p := by simp [trB]
    rw [this, gt_colB h2]
  · rw [gt_colB_out (by rw [lk]; omega), gt_out (by rw [h _ (List.getElem_mem h2)]; omega)]
theorem trB_le {k : Nat} {M : List (List Bool)} (h : Len k M) : rkN (trB k M) ≤ rkN M := by
  obtain ⟨S, hS, _⟩ := rref_ex h
  rw [← rk_eq h hS]
  have lG : Len M.length (S.map fun s => colB M (lead s)) := fun b hb => by
    obtain ⟨s, hs, rfl⟩ := List.mem_map.mp hb
    exact colB_len M _
  -- each column is a sum of lead columns
  have col : ∀ p, Sp M.length (S.map fun s => colB M (lead s)) (colB M p) := fun p => by
    have go : ∀ T : List (List Bool), (∀ t ∈ T, t ∈ S) → ∃ v, Sp M.length (S.map fun s => colB M (lead s)) v ∧ ∀ (i : Nat) (hi : i < M.length), gt v i = par (fun s => gt M[i] (lead s)) T p := fun T => by
      induction T with
      | nil => exact fun _ => ⟨nul M.length, .zero, fun i hi => by rw [gt_nul]; rfl⟩
      | cons t T ih =>
        intro hT
        obtain ⟨v, sv, ev⟩ := ih fun s hs => hT s (List.mem_cons_of_mem _ hs)
        cases g : gt t p with
        | false =>
          refine ⟨v, sv, fun i hi => ?_⟩
          unfold par
          rw [g, ev i hi]
          simp
        | true =>
          refine ⟨xr (colB M (lead t)) v, .add (List.mem_map.mpr ⟨t, hT t (List.mem_cons_self ..), rfl⟩) sv, fun i hi => ?_⟩
          unfold par
          rw [gt_xr (by rw [colB_len, sv.len lG]), g, ev i hi, gt_colB hi]
          simp
    obtain ⟨v, sv, ev⟩ := go S fun _ z => z
    have : colB M p = v := row_ext (by rw [colB_len, sv.len lG]) fun i => by
      by_cases hi : i < M.length
      · rw [ev i hi, gt_colB hi]
        have hc := hS.red.cmb ((hS.span _).mpr (Sp.mem h (List.getElem_mem hi)))
        conv => lhs; rw [hc]
        exact gt_cmb hS.red.len _ p
      · rw [gt_colB_out (by omega), gt_out (by rw [sv.len lG]; omega)]
    rw [this]
    exact sv
  obtain ⟨T, hT, _⟩ := rref_ex (trB_len k M)
  rw [← rk_eq (trB_len k M) hT]
  have := sub_len hT.red.len (ind_rref hT) lG fun v s => by
    refine ((hT.span v).mp s).sub lG fun b hb => ?_
    obtain ⟨p, _, rfl⟩ := List.mem_map.mp hb
    exact col p
  rw [List.length_map] at this
  exact this
theorem rk_trB {k : Nat} {M : List (List Bool)} (h : Len k M) : rkN (trB k M) = rkN M := by
  refine Nat.le_antisymm (trB_le h) ?_
  have := trB_le (trB_len k M)
  rw [trB_trB h] at this
  exact this
theorem rkP_cols (hB : Len n B) (P : List Nat) : rkN (P.map (colB B)) = rkP B P := by
  unfold rkP
  rw [← rk_trB ((lin_atP n P).lens hB)]
  congr 1
  refine List.ext_getElem (by simp [trB]) fun i h1 h2 => ?_
  have hi : i < P.length := by simpa using h1
  simp only [trB, colB, List.getElem_map, List.getElem_range, List.map_map]
  refine List.map_congr_left fun b hb => ?_
  rw [Function.comp, gt_atP hi]
end
end Z
set_option Elab.async false
set_option linter.all false
set_option maxHeartbeats 1000000
/-! G17: columns taken one by one; lots of places by numbers. Plain Lean. -/
namespace Z
open PySem
section
variable {n m : Nat} {B X : List (List Bool)}
def redT (H : List (Nat × List Bool)) (v : List Bool) : List Bool := H.foldl (fun l a => clr a.1 a.2 l) v
def addT (H : List (Nat × List Bool)) (v : List Bool) : List (Nat × List Bool) := match idxs (redT H v) with
  | [] => H
  | k :: _ => H ++ [(k, redT H v)]
structure TT (m : Nat) (X : List (List Bool)) (H : List (Nat × List Bool)) : Prop where
  len : Len m (H.map (·.2))
  one : ∀ a ∈ H, gt a.2 a.1 = true
  low : H.Pairwise fun a b => gt b.2 a.1 = false
  sp : ∀ v, Sp m (H.map (·.2)) v ↔ Sp m X v
  lt : ∀ a ∈ H, a.1 < m
theorem TT.nil : TT m [] [] := ⟨fun b hb => (by cases hb), fun a ha => (by cases ha), .nil, fun v => Iff.rfl, fun a ha => (by cases ha)⟩
theorem redT_ok : ∀ (H : List (Nat × List Bool)), Len m (H.map (·.2)) → (∀ a ∈ H, gt a.2 a.1 = true) → H.Pairwise (fun a b => gt b.2 a.1 = false) → ∀ v : List Bool, v.length = m →
    (redT H v).length = m ∧ (∀ a ∈ H, gt (redT H v) a.1 = false) ∧ (∀ p, (∀ a ∈ H, gt a.2 p = false) → gt (redT H v) p = gt v p) ∧ (∀ C, Len m C → (∀ a ∈ H, Sp m C a.2) → (Sp m C (redT H v) ↔ Sp m C v))
  | [], _, _, _, v, lv => ⟨lv, fun a ha => (by cases ha), fun p _ => rfl, fun C _ _ => Iff.rfl⟩
  | a :: H, l, one, low, v, lv => by
    have low := List.pairwise_cons.mp low
    have la : a.2.length = m := l _ (List.mem_cons_self ..)
    obtain ⟨h1, h2, h3, h4⟩ := redT_ok H (fun b hb => l b (List.mem_cons_of_mem _ hb)) (fun b hb => one b (List.mem_cons_of_mem _ hb)) low.2 (clr a.1 a.2 v) (clr_len la lv)
    refine ⟨h1, fun b hb => ?_, fun p hp => ?_, fun C lC hC => ?_⟩
    · rcases List.mem_cons.mp hb with rfl | hb
      · show gt (redT H (clr b.1 b.2 v)) b.1 = false
        rw [h3 b.1 low.1, clr_at la lv (one _ (List.mem_cons_self ..))]
      · exact h2 b hb
    · show gt (redT H (clr a.1 a.2 v)) p = gt v p
      rw [h3 p fun b hb => hp b (List.mem_cons_of_mem _ hb), clr_other la lv (hp a (List.mem_cons_self ..))]
    · have ha := hC a (List.mem_cons_self ..)
      refine (h4 C lC fun b hb => hC b (List.mem_cons_of_mem _ hb)).trans ⟨fun s => sp_clr lC la lv ha s, fun s => clr_sp lC ha s⟩
theorem TT.add {H : List (Nat × List Bool)} (h : TT m X H) (hX : Len m X) {v : List Bool} (hv : v.length = m) : TT m (X ++ [v]) (addT H v) := by
  obtain ⟨h1, h2, h3, h4⟩ := redT_ok H h.len h.one h.low v hv
  have lXv : Len m (X ++ [v]) := len_app hX fun b hb => by rw [List.mem_singleton.mp hb]; exact hv
  have inX : ∀ a ∈ H, Sp m (X ++ [v]) a.2 := fun a ha => sp_left ((h.sp _).mp (Sp.mem h.len (List.mem_map.mpr ⟨a, ha, rfl⟩)))
  have sv : Sp m (X ++ [v]) (redT H v) := (h4 _ lXv inX).mpr (Sp.mem lXv (by simp))
  unfold addT
  cases e : idxs (redT H v) with
  | nil =>
    have z : redT H v = nul m := row_ext (by rw [h1, nul_len]) fun p => by
      rw [gt_nul]
      cases g : gt (redT H v) p with
      | false => rfl
      | true => have := mem_idxs.mpr g; rw [e] at this; cases this
    have sH : Sp m (H.map (·.2)) v := (h4 _ h.len fun a ha => Sp.mem h.len (List.mem_map.mpr ⟨a, ha, rfl⟩)).mp (by rw [z]; exact .zero)
    refine ⟨h.len, h.one, h.low, fun w => (h.sp w).trans ⟨sp_left, fun s => s.sub hX fun b hb => ?_⟩, h.lt⟩
    rcases List.mem_append.mp hb with hb | hb
    · exact Sp.mem hX hb
    · rw [List.mem_singleton.mp hb]
      exact (h.sp v).mp sH
  | cons k more =>
    have g : gt (redT H v) k = true := mem_idxs.mp (by rw [e]; exact List.mem_cons_self ..)
    have lA : Len m ((H ++ [(k, redT H v)]).map (·.2)) := fun b hb => by
      rw [List.map_append] at hb
      rcases List.mem_append.mp hb with hb | hb
      · exact h.len b hb
      · simp only [List.map_cons, List.map_nil, List.mem_singleton] at hb
        rw [hb]
        exact h1
    refine ⟨lA, fun a ha => ?_, List.pairwise_append.mpr ⟨h.low, List.pairwise_singleton _ _, fun a ha b hb => ?_⟩, fun w => ⟨fun s => s.sub lXv fun b hb => ?_, fun s => s.sub lA fun b hb => ?_⟩, fun a ha => ?_⟩
    · rcases List.mem_append.mp ha with ha | ha
      · exact h.one a ha
      · rw [List.mem_singleton.mp ha]
        exact g
    · rw [List.mem_singleton.mp hb]
      exact h2 a ha
    · rw [List.map_append] at hb
      rcases List.mem_append.mp hb with hb | hb
      · obtain ⟨a, ha, rfl⟩ := List.mem_map.mp hb
        exact inX a ha
      · simp only [List.map_cons, List.map_nil, List.mem_singleton] at hb
        rw [hb]
        exact sv
    · have inA : ∀ a ∈ H, Sp m ((H ++ [(k, redT H v)]).map (·.2)) a.2 := fun a ha => Sp.mem lA (List.mem_map.mpr ⟨a, List.mem_append_left _ ha, rfl⟩)
      rcases List.mem_append.mp hb with hb | hb
      · refine ((h.sp b).mpr (Sp.mem hX hb)).sub lA fun c hc => ?_
        obtain ⟨a, ha, rfl⟩ := List.mem_map.mp hc
        exact inA a ha
      · rw [List.mem_singleton.mp hb]
        exact (h4 _ lA inA).mp (Sp.mem lA (by simp))
    · rcases List.mem_append.mp ha with ha | ha
      · exact h.lt a ha
      · rw [List.mem_singleton.mp ha]
        have := idxs_lt (mem_idxs.mpr g)
        rw [h1] at this
        exact this
theorem TT.rank {H : List (Nat × List Bool)} (h : TT m X H) (hX : Len m X) : H.length = rkN X := by
  have := rk_ind hX h.len (ind_units H h.len h.low h.one) h.sp
  rw [List.length_map] at this
  exact this
/-- lots by numbers -/
def ptsN (n x : Nat) : List Nat := (List.range n).filter fun p => Nat.testBit x p
theorem mem_pts {n x p : Nat} : p ∈ ptsN n x ↔ p < n ∧ Nat.testBit x p = true := by
  unfold ptsN
  rw [List.mem_filter, List.mem_range]
theorem pts_lt {n x : Nat} : ∀ p ∈ ptsN n x, p < n := fun p h => (mem_pts.mp h).1
theorem pts_asc (n x : Nat) : (ptsN n x).Pairwise (· < ·) := List.Pairwise.sublist List.filter_sublist List.pairwise_lt_range
theorem pts_nodup (n x : Nat) : (ptsN n x).Nodup := (pts_asc n x).imp fun h => by omega
theorem pts_len (n x : Nat) : (ptsN n x).length ≤ n := by
  have := List.length_filter_le (fun p => Nat.testBit x p) (List.range n)
  rw [List.length_range] at this
  exact this
theorem pts_zero (n : Nat) : ptsN n 0 = [] := by
  unfold ptsN
  simp
theorem pts_same {n x : Nat} {L : List Nat} (asc : L.Pairwise (· < ·)) (h : ∀ q, q ∈ L ↔ q < n ∧ Nat.testBit x q = true) : ptsN n x = L := up_same (pts_asc n x) asc fun q => by rw [mem_pts, h]
theorem tb_div (x p : Nat) : Nat.testBit x p = (x / 2 ^ p % 2 == 1) := by
  rw [Nat.testBit_eq_decide_div_mod_eq]
  rfl
/-- the greatest place is taken off -/
theorem pts_top {n x : Nat} (h1 : 0 < x) (h2 : x < 2 ^ n) : ∃ p Q, ptsN n x = Q ++ [p] ∧ p < n ∧ 2 ^ p ≤ x ∧ x - 2 ^ p < x ∧ ptsN n (x - 2 ^ p) = Q := by
  have ne : ptsN n x ≠ [] := fun e => by
    have : x = 0 := Nat.eq_of_testBit_eq fun p => by
      rw [Nat.zero_testBit]
      by_cases hp : p < n
      · cases g : Nat.testBit x p with
        | false => rfl
        | true => have := mem_pts.mpr ⟨hp, g⟩; rw [e] at this; cases this
      · exact Nat.testBit_lt_two_pow (Nat.lt_of_lt_of_le h2 (Nat.pow_le_pow_right (by decide) (by omega)))
    omega
  have e := List.dropLast_concat_getLast ne
  generalize (ptsN n x).getLast ne = p at e
  generalize (ptsN n x).dropLast = Q at e
  have hp : p ∈ ptsN n x := by rw [← e]; simp
  obtain ⟨hpn, hb⟩ := mem_pts.mp hp
  have ge := Nat.ge_two_pow_of_testBit hb
  have asc := pts_asc n x
  rw [← e] at asc
  have asc := List.pairwise_append.mp asc
  have top : ∀ q, Nat.testBit x q = true → q ≤ p := fun q hq => by
    have hqn : q < n := Classical.byContradiction fun z => by
      rw [Nat.testBit_lt_two_pow (Nat.lt_of_lt_of_le h2 (Nat.pow_le_pow_right (by decide) (by omega)))] at hq
      cases hq
    have := mem_pts.mpr ⟨hqn, hq⟩
    rw [← e] at this
    rcases List.mem_append.mp this with h | h
    · exact Nat.le_of_lt (asc.2.2 q h p (List.mem_singleton.mpr rfl))
    · rw [List.mem_singleton.mp h]
      exact Nat.le_refl _
  have lt : x < 2 ^ (p + 1) := Nat.lt_pow_two_of_testBit x fun i hi => by
    cases g : Nat.testBit x i with
    | false => rfl
    | true => have := top i g; omega
  have pos : 0 < 2 ^ p := Nat.pos_of_ne_zero (by simp)
  refine ⟨p, Q, e.symm, hpn, ge, by omega, pts_same asc.1 fun q => ?_⟩
  obtain ⟨y, rfl⟩ : ∃ y, x = 2 ^ p + y := ⟨x - 2 ^ p, by omega⟩
  have ly : y < 2 ^ p := by rw [Nat.pow_succ] at lt; omega
  have ey : 2 ^ p + y - 2 ^ p = y := by omega
  rw [ey]
  have inQ : q ∈ Q ↔ q < p ∧ q ∈ ptsN n (2 ^ p + y) := by
    rw [← e, List.mem_append, List.mem_singleton]
    exact ⟨fun h => ⟨asc.2.2 q h p (List.mem_singleton.mpr rfl), .inl h⟩, fun h => h.2.resolve_right (by omega)⟩
  rw [inQ, mem_pts]
  by_cases c : q < p
  · rw [Nat.testBit_two_pow_add_gt c]
    exact ⟨fun h => h.2, fun h => ⟨c, h⟩⟩
  · have : Nat.testBit y q = false := Nat.testBit_lt_two_pow (Nat.lt_of_lt_of_le ly (Nat.pow_le_pow_right (by decide) (by omega)))
    rw [this]
    exact ⟨fun h => absurd h.1 c, fun h => by cases h.2⟩
/-- heads of the columns of a lot -/
def tabT (C : Nat → List Bool) (n x : Nat) : List (Nat × List Bool) := (ptsN n x).foldl (fun H p => addT H (C p)) []
theorem tabT_ok {C : Nat → List Bool} (hC : ∀ p, (C p).length = m) (n x : Nat) : TT m ((ptsN n x).map C) (tabT C n x) := by
  unfold tabT
  have go : ∀ (R Q : List Nat) (H : List (Nat × List Bool)), TT m (Q.map C) H → TT m ((Q ++ R).map C) (R.foldl (fun H p => addT H (C p)) H) := fun R => by
    induction R with
    | nil => intro Q H h; rw [List.append_nil]; exact h
    | cons p R ih =>
      intro Q H h
      have lQ : Len m (Q.map C) := fun b hb => by obtain ⟨q, _, rfl⟩ := List.mem_map.mp hb; exact hC q
      have := ih (Q ++ [p]) (addT H (C p)) (by rw [List.map_append]; exact h.add lQ (hC p))
      rw [List.append_assoc] at this
      exact this
  exact go (ptsN n x) [] [] .nil
theorem tabT_rank (hB : Len n B) (x : Nat) : (tabT (colB B) n x).length = rkP B (ptsN n x) := by
  rw [← rkP_cols hB]
  exact (tabT_ok (fun p => colB_len B p) n x).rank fun b hb => by obtain ⟨q, _, rfl⟩ := List.mem_map.mp hb; exact colB_len B q
theorem tabT_top {C : Nat → List Bool} {n x p : Nat} {Q : List Nat} (e : ptsN n x = Q ++ [p]) (e2 : ptsN n (x - 2 ^ p) = Q) : tabT C n x = addT (tabT C n (x - 2 ^ p)) (C p) := by
  unfold tabT
  rw [e, e2, List.foldl_append]
  rfl
end
end Z
set_option Elab.async false
set_option linter.all false
set_option maxHeartbeats 1000000
/-! G18: steps as data. -/
namespace Z
open PySem PySem.Spec PyProof.Rows L2
abbrev fR (r : List Bool) : D := frzD (bitsD r)
def hedD (a : Nat × List Bool) : D := .tuple [natD a.1, fR a.2]
theorem solid_fR (r : List Bool) : solid (fR r) = true := solid_frz _
theorem solid_hed (a : Nat × List Bool) : solid (hedD a) = true := by
  unfold hedD
  simp only [solid_tup, solids_cons, solid_int, solid_fR, solids_nil, Bool.and_true]
theorem solids_heds (H : List (Nat × List Bool)) : solids (H.map hedD) = true := solids_of fun a _ => solid_hed a
theorem solids_fRs (L : List (List Bool)) : solids (L.map fR) = true := solids_of fun r _ => solid_fR r
theorem zip_bitsD (a b : List Bool) : zipD (bitsD a) (bitsD b) = (a.zip b).map fun p => .tuple [.int (bI p.1), .int (bI p.2)] := zipD_map _ _ a b
theorem bI_add2 (a b : Bool) : (bI a + bI b) % 2 = bI (a ^^ b) := by cases a <;> cases b <;> rfl
theorem bitsD_len (r : List Bool) : (bitsD r).length = r.length := List.length_map ..
theorem erase_map {α β : Type} (f : α → β) : ∀ (L : List α) (j : Nat), (L.map f).eraseIdx j = (L.eraseIdx j).map f
  | [], _ => rfl
  | _ :: _, 0 => rfl
  | a :: L, j + 1 => by
    show f a :: (L.map f).eraseIdx j = f a :: (L.eraseIdx j).map f
    rw [erase_map f L j]
theorem isone (b : Bool) : (bI b == 1) = b := by cases b <;> rfl
theorem cell_fR {n : Nat} {r : List Bool} {p : Nat} {k : D → Prop} (hp : p < n) (lr : r.length = n) (hk : k (.int (bI (gt r p)))) : fIxF (fR r) (natD p) k := fIxF_frz (at_bitsD (by omega)) hk
theorem bit_and (x p : Nat) : (Builtin.bitAnd ((x : Int) / 2 ^ p) 1 != 0) = Nat.testBit x p := by
  have e3 : (x : Int) / 2 ^ p = ((x / 2 ^ p : Nat) : Int) := by norm_cast
  rw [e3, bitAnd_pp (Int.natCast_nonneg _) (by decide), tb_div]
  have e4 : ((((x / 2 ^ p : Nat) : Int).toNat &&& (1 : Int).toNat : Nat)) = x / 2 ^ p % 2 := Nat.and_one_is_mod _
  rw [e4]
  rcases Nat.mod_two_eq_zero_or_one (x / 2 ^ p) with z | z <;> rw [z] <;> rfl
theorem bit_mod (x p : Nat) : ((x : Int) / 2 ^ p % 2 == 1) = Nat.testBit x p := by
  have e3 : (x : Int) / 2 ^ p % 2 = ((x / 2 ^ p % 2 : Nat) : Int) := by norm_cast
  rw [e3, tb_div]
  rcases Nat.mod_two_eq_zero_or_one (x / 2 ^ p) with z | z <;> rw [z] <;> rfl
def sortR (L : List (List Bool)) : List (List Bool) := L.mergeSort (PySem.W.dataLe false rowD)
theorem mem_sortR {L : List (List Bool)} {v : List Bool} : v ∈ sortR L ↔ v ∈ L := (List.mergeSort_perm _ _).mem_iff
theorem zip_idxs (v : List Bool) : (v.zipIdx.filter fun q => q.1).map (·.2) = idxs v := by
  refine up_same ?_ (idxs_asc v) fun x => ?_
  · have h : ((v.zipIdx.filter fun q => q.1).map (·.2)).Sublist (v.zipIdx.map (·.2)) := List.Sublist.map _ List.filter_sublist
    refine List.Pairwise.sublist h ?_
    rw [List.zipIdx_map_snd]
    exact List.pairwise_lt_range'
  · rw [mem_idxs]
    constructor
    · intro h
      obtain ⟨q, hq, rfl⟩ := List.mem_map.mp h
      obtain ⟨hz, hg⟩ := List.mem_filter.mp hq
      obtain ⟨hj, e⟩ := zipIdx_get hz
      unfold gt
      rw [List.getD_eq_getElem?_getD, List.getElem?_eq_getElem hj, e]
      exact hg
    · intro h
      have hx : x < v.length := idxs_lt (mem_idxs.mpr h)
      refine List.mem_map.mpr ⟨(true, x), List.mem_filter.mpr ⟨List.mem_zipIdx_iff_getElem?.mpr ?_, rfl⟩, rfl⟩
      unfold gt at h
      rw [List.getD_eq_getElem?_getD, List.getElem?_eq_getElem hx] at h
      rw [List.getElem?_eq_getElem hx]
      exact congrArg some h
theorem clr_zip {l r : List Bool} (h : l.length = r.length) (k : Nat) : ((l.zip r).map fun q => (.int (bI (if gt l k then q.1 ^^ q.2 else q.1)) : D)) = bitsD (clr k r l) := by
  unfold clr
  cases gt l k
  · have : l = (l.zip r).map (·.1) := (List.map_fst_zip (by omega)).symm
    conv => rhs; rw [if_neg (by decide), this]
    unfold bitsD
    rw [List.map_map]
    rfl
  · rw [if_pos rfl, ← bitsD_xr]
    rfl
end Z
set_option Elab.async false
set_option linter.all false
set_option maxHeartbeats 1000000
/-! G19: lists of numbers compared; tables of ranks. -/
set_option Elab.async false
set_option linter.all false
set_option maxHeartbeats 1000000
/-! G20: rows below a row, sums over them there and back; rows told by ranks. Plain Lean. -/
set_option Elab.async false
set_option linter.all false
set_option maxHeartbeats 1000000
/-! G21: rows told by ranks. Plain Lean. -/
namespace Z
open PySem PySem.Spec PyProof.Rows L2
section
variable {n : Nat} {B : List (List Bool)}
/-- how many rows have no one outside -/
theorem count_within (hB : Len n B) (iB : Ind n B) {P : List Nat} {g : List Bool → Bool} (hg : ∀ v, Sp n B v → (g v = true ↔ ∀ p ∈ P, gt v p = false)) : ((sums n B).filter g).length = 2 ^ (B.length - rkP B P) := by
  obtain ⟨K, k1, k2⟩ := ker_ex hB iB P
  rw [filter_count hB iB k1 hg]
  congr 1
  omega
end
end Z
set_option Elab.async false
set_option linter.all false
set_option maxRecDepth 100000
set_option maxHeartbeats 4000000
/-! Z31: three cells at once. -/
set_option Elab.async false
set_option linter.all false
set_option maxRecDepth 100000
set_option maxHeartbeats 4000000
/-! Z32: xs += ys (an own list grows by a new one). -/
namespace Z
open PySem PySem.Spec PyProof.Rows L2
section
variable {K : PySem.W.Frag} {S : Option (Addr × Addr)}
def sAugL (i : Nat) (m : DM) : DMS := fun ρ R => ownL ρ[i]? fun ds => m ρ fun y => asL y fun es => solids es = true ∧ ds.length + es.length ≤ 10000000 ∧ R.nx (ρ.set i (.own (.list (ds ++ es))))
/-- tuple(list), of either kind -/
def fTupleF : List D → (D → Prop) → Prop := fun ds R => match ds with
  | [d] => ∃ es, IsL d es ∧ solids es = true ∧ R (.tuple es)
  | _ => False
end
end Z
set_option Elab.async false
set_option linter.all false
set_option maxHeartbeats 1000000
/-! G22: what places tell a place. Plain Lean. -/
set_option Elab.async false
set_option linter.all false
set_option maxRecDepth 100000
set_option maxHeartbeats 4000000
/-! Z33: xs == [], xs != [] for lists of any data. -/
namespace Z
open PySem PySem.Spec PyProof.Rows L2
section
variable {K : PySem.W.Frag} {S : Option (Addr × Addr)}
def fEqLE (neg : Bool) : D → D → (D → Prop) → Prop := fun x y R => ∃ xs, IsL x xs ∧ y = .list [] ∧ R (.bool (if neg then !xs.isEmpty else xs.isEmpty))
end
end Z
set_option Elab.async false
set_option linter.all false
set_option maxHeartbeats 1000000
/-! G23: the first fault of anything as what tells a place. Plain Lean. -/
set_option Elab.async false
set_option linter.all false
set_option maxRecDepth 100000
set_option maxHeartbeats 4000000
/-! G24: values of all kinds, the ints wide (printed by mkG24.py from G14). -/
namespace Z
namespace Wd
open PySem PySem.Spec PyProof.Rows L2
theorem shown_int32 {i : Int} (h : i.natAbs < 10 ^ 32) : (PyData.shown (.int i)).length ≤ 33 := by
  have e := int_text_length_le10 (k := 32) (by decide) h
  show (Str.ofString (toString i)).length ≤ 33
  rw [PySem.ofString_length]; exact e
mutual
/-- an upper bound on how many signs show it -/
def wg : D → Nat
  | .none => 5
  | .bool _ => 6
  | .int _ => 36
  | .str x => (PyData.str x).shown.length
  | .list ds => wgs ds + 4
  | .tuple ds => wgs ds + 4
  | .dict kvs => wgk kvs + 4
def wgs : List D → Nat
  | [] => 0
  | d :: ds => wg d + 2 + wgs ds
def wgk : List (D × D) → Nat
  | [] => 0
  | (_, d) :: r => wg d + 2 + wgk r
end
mutual
/-- what never changes, its ints at most m either way -/
def good (m : Nat) : D → Bool
  | .none => true
  | .bool _ => true
  | .int i => decide (i.natAbs ≤ m)
  | .str _ => true
  | .list _ => false
  | .tuple ds => goods m ds
  | .dict kvs => (isFrz kvs && goodk m kvs) || (isFrd kvs && kvs.length == 1)
def goods (m : Nat) : List D → Bool
  | [] => true
  | d :: ds => good m d && goods m ds
def goodk (m : Nat) : List (D × D) → Bool
  | [] => true
  | (_, d) :: r => good m d && goodk m r
end
theorem goods_all {m : Nat} : ∀ {ds : List D}, goods m ds = true ↔ ∀ d ∈ ds, good m d = true
  | [] => by simp [goods]
  | d :: ds => by simp [goods, goods_all]
mutual
theorem good_can {m : Nat} : ∀ d : D, good m d = true → canT d = true
  | .none, _ => by simp [canT]
  | .bool _, _ => by simp [canT]
  | .int _, _ => by simp [canT]
  | .str _, _ => by simp [canT]
  | .list _, h => by simp [good] at h
  | .tuple ds, h => by
    simp only [canT]
    exact goods_can ds (by simpa only [good] using h)
  | .dict kvs, h => by
    simp only [good, Bool.or_eq_true, Bool.and_eq_true] at h
    simp only [canT, Bool.or_eq_true, Bool.and_eq_true]
    exact h.imp (fun z => ⟨z.1, goodk_can kvs z.2⟩) id
theorem goods_can {m : Nat} : ∀ ds : List D, goods m ds = true → canTs ds = true
  | [], _ => by simp [canTs]
  | d :: ds, h => by
    simp only [goods, Bool.and_eq_true] at h
    simp only [canTs, good_can d h.1, goods_can ds h.2, Bool.and_self]
theorem goodk_can {m : Nat} : ∀ ds : List (D × D), goodk m ds = true → canTk ds = true
  | [], _ => by simp [canTk]
  | (_, d) :: ds, h => by
    simp only [goodk, Bool.and_eq_true] at h
    simp only [canTk, good_can d h.1, goodk_can ds h.2, Bool.and_self]
end
mutual
theorem good_solid {m : Nat} : ∀ d : D, good m d = true → solid d = true
  | .none, _ => by simp [solid]
  | .bool _, _ => by simp [solid]
  | .int _, _ => by simp [solid]
  | .str _, _ => by simp [solid]
  | .list _, h => by simp [good] at h
  | .tuple ds, h => by
    simp only [solid]
    exact goods_solid ds (by simpa only [good] using h)
  | .dict kvs, h => by
    simp only [good, Bool.or_eq_true, Bool.and_eq_true] at h
    rcases h with ⟨z, _⟩ | ⟨z, _⟩
    · obtain ⟨r, rfl⟩ := isFrz_cons z
      simp [solid, isSrc, isFrz]
    · obtain ⟨r, rfl⟩ := isFrd_cons z
      simp [solid, isSrc, isFrd]
theorem goods_solid {m : Nat} : ∀ ds : List D, goods m ds = true → solids ds = true
  | [], _ => by simp [solids]
  | d :: ds, h => by
    simp only [goods, Bool.and_eq_true] at h
    simp only [solids, good_solid d h.1, goods_solid ds h.2, Bool.and_self]
end
mutual
theorem good_mono {m m' : Nat} (hm : m ≤ m') : ∀ d : D, good m d = true → good m' d = true
  | .none, _ => by simp [good]
  | .bool _, _ => by simp [good]
  | .int i, h => by
    simp only [good, decide_eq_true_eq] at h ⊢
    omega
  | .str _, _ => by simp [good]
  | .list _, h => by simp [good] at h
  | .tuple ds, h => by
    simp only [good]
    exact goods_mono hm ds (by simpa only [good] using h)
  | .dict kvs, h => by
    simp only [good, Bool.or_eq_true, Bool.and_eq_true] at h ⊢
    exact h.imp (fun z => ⟨z.1, goodk_mono hm kvs z.2⟩) id
theorem goods_mono {m m' : Nat} (hm : m ≤ m') : ∀ ds : List D, goods m ds = true → goods m' ds = true
  | [], _ => by simp [goods]
  | d :: ds, h => by
    simp only [goods, Bool.and_eq_true] at h ⊢
    exact ⟨good_mono hm d h.1, goods_mono hm ds h.2⟩
theorem goodk_mono {m m' : Nat} (hm : m ≤ m') : ∀ ds : List (D × D), goodk m ds = true → goodk m' ds = true
  | [], _ => by simp [goodk]
  | (_, d) :: ds, h => by
    simp only [goodk, Bool.and_eq_true] at h ⊢
    exact ⟨good_mono hm d h.1, goodk_mono hm ds h.2⟩
end
theorem log_small {i : Int} (h : i.natAbs ≤ (10 ^ 31)) : i.natAbs.log2 < 1920 := log2_small (Nat.lt_of_le_of_lt h (by decide))
mutual
theorem good_show {m : Nat} (hm : m ≤ (10 ^ 31)) : ∀ d : D, good m d = true → (thaw d).showable = true ∧ (thaw d).shown.length ≤ wg d
  | .none, _ => by
    simp only [thaw, wg]
    exact ⟨by decide, by decide⟩
  | .bool b, _ => by
    simp only [thaw, wg]
    cases b <;> exact ⟨by decide, by decide⟩
  | .int i, h => by
    simp only [good, decide_eq_true_eq] at h
    simp only [thaw, wg, PyData.showable, decide_eq_true_eq]
    exact ⟨log_small (Nat.le_trans h hm), Nat.le_trans (shown_int32 (show i.natAbs < 10 ^ 32 from Nat.lt_of_le_of_lt (Nat.le_trans h hm) (by decide))) (by decide)⟩
  | .str x, _ => by
    simp only [thaw, wg, PyData.showable]
    exact ⟨trivial, Nat.le_refl _⟩
  | .list _, h => by simp [good] at h
  | .tuple ds, h => by
    obtain ⟨h1, h2⟩ := goods_show hm ds (by simpa only [good] using h)
    simp only [thaw, wg, PyData.showable, PyData.shown]
    refine ⟨h1, Nat.le_trans (tupleText_len_le _) ?_⟩
    omega
  | .dict kvs, h => by
    simp only [good, Bool.or_eq_true, Bool.and_eq_true] at h
    rcases h with ⟨z, hk⟩ | ⟨z, hl⟩
    · obtain ⟨r, rfl⟩ := isFrz_cons z
      simp only [goodk, Bool.and_eq_true] at hk
      obtain ⟨h1, h2⟩ := goodk_show hm r hk.2
      have e : thaw (.dict ((.bool true, .none) :: r)) = .list (thawk r) := by simp only [thaw, if_pos z, thawk, List.tail_cons]
      rw [e]
      simp only [wg, wgk, PyData.showable, PyData.shown]
      refine ⟨h1, Nat.le_trans (listText_len_le _) ?_⟩
      omega
    · obtain ⟨r, rfl⟩ := isFrd_cons z
      obtain rfl : r = [] := by simpa using hl
      rw [show thaw (.dict [(.bool false, .none)]) = .dict [] from thaw_frd]
      simp only [wg, wgk]
      exact ⟨by decide, by decide⟩
theorem goods_show {m : Nat} (hm : m ≤ (10 ^ 31)) : ∀ ds : List D, goods m ds = true → PyData.showableAll (thaws ds) = true ∧ ((PyData.shownAll (thaws ds)).map (·.length)).sum + 2 * (PyData.shownAll (thaws ds)).length ≤ wgs ds
  | [], _ => by simp [thaws, PyData.showableAll, PyData.shownAll, wgs]
  | d :: ds, h => by
    simp only [goods, Bool.and_eq_true] at h
    obtain ⟨a1, a2⟩ := good_show hm d h.1
    obtain ⟨b1, b2⟩ := goods_show hm ds h.2
    simp only [thaws, PyData.showableAll, PyData.shownAll, wgs, a1, b1, List.map_cons, List.sum_cons, List.length_cons]
    exact ⟨rfl, by omega⟩
theorem goodk_show {m : Nat} (hm : m ≤ (10 ^ 31)) : ∀ ds : List (D × D), goodk m ds = true → PyData.showableAll (thawk ds) = true ∧ ((PyData.shownAll (thawk ds)).map (·.length)).sum + 2 * (PyData.shownAll (thawk ds)).length ≤ wgk ds
  | [], _ => by simp [thawk, PyData.showableAll, PyData.shownAll, wgk]
  | (_, d) :: ds, h => by
    simp only [goodk, Bool.and_eq_true] at h
    obtain ⟨a1, a2⟩ := good_show hm d h.1
    obtain ⟨b1, b2⟩ := goodk_show hm ds h.2
    simp only [thawk, PyData.showableAll, PyData.shownAll, wgk, a1, b1, List.map_cons, List.sum_cons, List.length_cons]
    exact ⟨rfl, by omega⟩
end
/-- a value of any kind that never changes: ints at most m either way, at most k deep, shown by at most L signs -/
structure Vl (m k L : Nat) (d : D) : Prop where
  good : good m d = true
  dep : (thaw d).depth ≤ k
  wt : wg d ≤ L
theorem Vl.ok {m k L : Nat} {d : D} (h : Vl m k L d) (hm : m ≤ (10 ^ 31)) (hk : k ≤ 40) (hL : L ≤ 10000000) : OkT 40 10000000 d :=
  ⟨good_can _ h.good, Nat.le_trans h.dep hk, (good_show hm _ h.good).1, Nat.le_trans (good_show hm _ h.good).2 (Nat.le_trans h.wt hL)⟩
theorem Vl.solid {m k L : Nat} {d : D} (h : Vl m k L d) : solid d = true := good_solid _ h.good
theorem Vl.mono {m k L m' k' L' : Nat} {d : D} (h : Vl m k L d) (a : m ≤ m') (b : k ≤ k') (c : L ≤ L') : Vl m' k' L' d := ⟨good_mono a _ h.good, Nat.le_trans h.dep b, Nat.le_trans h.wt c⟩
theorem wgs_len : ∀ ds : List D, 2 * ds.length ≤ wgs ds
  | [] => by simp [wgs]
  | d :: ds => by
    have := wgs_len ds
    simp only [wgs, List.length_cons]
    omega
theorem depthAll_le {k : Nat} : ∀ {ds : List D}, PyData.depthAll (thaws ds) ≤ k ↔ ∀ d ∈ ds, (thaw d).depth ≤ k
  | [] => by simp [thaws, PyData.depthAll]
  | d :: ds => by
    simp only [thaws, PyData.depthAll, List.mem_cons, forall_eq_or_imp, Nat.max_le, depthAll_le]
/-- a tuple of such -/
theorem Vl.tuple {m k L : Nat} {ds : List D} (h : ∀ d ∈ ds, ∃ l, Vl m k l d) (w : wgs ds + 4 ≤ L) : Vl m (k + 1) L (.tuple ds) := by
  refine ⟨?_, ?_, ?_⟩
  · simp only [Z.Wd.good]
    exact goods_all.mpr fun d hd => let ⟨l, hl⟩ := h d hd; hl.good
  · simp only [thaw, PyData.depth]
    have : PyData.depthAll (thaws ds) ≤ k := depthAll_le.mpr fun d hd => let ⟨l, hl⟩ := h d hd; hl.dep
    omega
  · simp only [wg]
    exact w
theorem Vl.frz {m k L : Nat} {ds : List D} (h : ∀ d ∈ ds, ∃ l, Vl m k l d) (w : wgs ds + 15 ≤ L) : Vl m (k + 1) L (frzD ds) := by
  have gk : ∀ es : List D, (∀ d ∈ es, ∃ l, Vl m k l d) → goodk m (es.map fun d => (.bool true, d)) = true := fun es => by
    induction es with
    | nil => intro _; simp [goodk]
    | cons e es ih =>
      intro h
      simp only [List.map_cons, goodk, Bool.and_eq_true]
      exact ⟨let ⟨l, hl⟩ := h e (List.mem_cons_self ..); hl.good, ih fun d hd => h d (List.mem_cons_of_mem _ hd)⟩
  have wk : ∀ es : List D, wgk (es.map fun d => ((.bool true : D), d)) = wgs es := fun es => by
    induction es with
    | nil => simp [wgk, wgs]
    | cons e es ih => simp only [List.map_cons, wgk, wgs, ih]
  refine ⟨?_, ?_, ?_⟩
  · unfold frzD frzK
    simp only [Z.Wd.good, goodk, gk ds h]
    rfl
  · rw [thaw_frz]
    simp only [PyData.depth]
    have : PyData.depthAll (thaws ds) ≤ k := depthAll_le.mpr fun d hd => let ⟨l, hl⟩ := h d hd; hl.dep
    rw [thaws_map] at this
    omega
  · unfold frzD frzK
    simp only [wg, wgk, wk]
    omega
theorem Vl.parts {m k L : Nat} {ds : List D} (h : Vl m k L (.tuple ds)) : 1 ≤ k ∧ wgs ds + 4 ≤ L ∧ ∀ d ∈ ds, Vl m (k - 1) (wg d) d := by
  have h1 := h.good
  have h2 := h.dep
  have h3 := h.wt
  simp only [Z.Wd.good] at h1
  simp only [thaw, PyData.depth] at h2
  simp only [wg] at h3
  have h4 := goods_all.mp h1
  have h5 : PyData.depthAll (thaws ds) ≤ k - 1 := by omega
  exact ⟨by omega, h3, fun d hd => ⟨h4 d hd, depthAll_le.mp h5 d hd, Nat.le_refl _⟩⟩
theorem Vl.isi {m k L : Nat} {d : D} (h : Vl m k L d) : noFrz d := by
  cases d with
  | dict kvs =>
    have := h.good
    simp only [Z.Wd.good, Bool.or_eq_true, Bool.and_eq_true] at this
    rcases this with ⟨z, _⟩ | ⟨z, hl⟩
    · exact .inl z
    · obtain ⟨r, rfl⟩ := isFrd_cons z
      obtain rfl : r = [] := by simpa using hl
      exact .inr rfl
  | _ => trivial
theorem Vl.none {m k : Nat} : Vl m k 5 .none := ⟨by simp [Z.Wd.good], by simp [thaw, PyData.depth], by simp [wg]⟩
theorem Vl.bool {m k : Nat} {b : Bool} : Vl m k 6 (.bool b) := ⟨by simp [Z.Wd.good], by simp [thaw, PyData.depth], by simp [wg]⟩
theorem Vl.int {m k : Nat} {i : Int} (h : i.natAbs ≤ m) : Vl m k 36 (.int i) := ⟨by simp [Z.Wd.good, h], by simp [thaw, PyData.depth], by simp [wg]⟩
theorem Vl.str {m k : Nat} {x : Str} {L : Nat} (h : (PyData.str x).shown.length ≤ L) : Vl m k L (.str x) := ⟨by simp [Z.Wd.good], by simp [thaw, PyData.depth], by simpa [wg] using h⟩
theorem Vl.inner {m k L : Nat} {d : D} (h : Vl m k L d) (hL : L ≤ 10000000) : noFrz d ∧ ∀ xs, d = .tuple xs → xs.length ≤ 10000000 ∧ ∀ x ∈ xs, noFrz x := ⟨h.isi, fun xs e => by
  subst e
  obtain ⟨_, a, b⟩ := h.parts
  have := wgs_len xs
  exact ⟨by omega, fun x hx => (b x hx).isi⟩⟩
end Wd
end Z
set_option Elab.async false
set_option linter.all false
set_option maxHeartbeats 1000000
/-! G25: a place is told by others just if the rank stays. Plain Lean. -/
set_option Elab.async false
set_option linter.all false
set_option maxRecDepth 100000
set_option maxHeartbeats 4000000
/-! Z34: dicts of any keys at the layer: what is held at a key, what is stored. -/
namespace Z
open PySem PySem.Spec PyProof.Rows L2
def rowAt (rows : List Row) (k : NestedKey) : Option V := (rows.find? fun r => decide (r.1 = k)).map (·.2.2)
/-- rows as they stand -/
abbrev XRel : List Row → List (NestedKey × Addr × Value) → Prop := Paired fun r x => x.1 = r.1 ∧ x.2.1 = r.2.1 ∧ RelV r.2.2 x.2.2
theorem XRel.val {rows : List Row} {xs : List (NestedKey × Addr × Value)} (r : XRel rows xs) (k : NestedKey) : RelO (rowAt rows k) ((atKey xs k).map (·.2)) := by
  induction r with
  | nil => exact True.intro
  | @cons p q ps qs h t ih =>
    obtain ⟨h1, _, h2⟩ := h
    by_cases e : p.1 = k
    · have e' : q.1 = k := h1.trans e
      have b : atKey (q :: qs) k = some q.2 := by simp [atKey, List.find?_cons, e']
      have c : rowAt (p :: ps) k = some p.2.2 := by simp [rowAt, List.find?_cons, e]
      rw [c, b]; exact h2
    · have e' : ¬ q.1 = k := fun z => e (h1.symm.trans z)
      have b : atKey (q :: qs) k = atKey qs k := by simp [atKey, List.find?_cons, e']
      have c : rowAt (p :: ps) k = rowAt ps k := by simp [rowAt, List.find?_cons, e]
      rw [c, b]; exact ih
theorem XRel.len {rows : List Row} {xs : List (NestedKey × Addr × Value)} (r : XRel rows xs) : rows.length = xs.length := Paired.length r
/-! ### readings and rules -/
end Z
set_option Elab.async false
set_option linter.all false
set_option maxRecDepth 100000
set_option maxHeartbeats 4000000
/-! Z35: dicts of any keys over data. -/
namespace Z
open PySem PySem.Spec PyProof.Rows L2
open Classical in
noncomputable def kFind (kvs : List (D × D)) (k : D) : Option D := (kvs.find? fun p => decide (p.1 = k)).map (·.2)
open Classical in
noncomputable def kRepl (kvs : List (D × D)) (k v : D) : List (D × D) := kvs.map fun p => if p.1 = k then (p.1, v) else p
noncomputable def kPut (kvs : List (D × D)) (k v : D) : List (D × D) := if (kFind kvs k).isSome then kRepl kvs k v else kvs ++ [(k, v)]
theorem kRepl_keys (kvs : List (D × D)) (k v : D) : (kRepl kvs k v).map (·.1) = kvs.map (·.1) := by
  unfold kRepl
  rw [List.map_map]
  refine List.map_congr_left fun p _ => ?_
  simp only [Function.comp]
  split <;> rfl
/-! ### keys -/
/-- a key: an int, a text, a tuple of ints, Nones and such -/
def KeyOk (d : D) : Prop := (∃ k : Key, d = keyD k) ∨ ∃ (nk : NestedKey) (l : List NestedKey), nkey d = some nk ∧ nk = .tup l ∧ nk.depth ≤ 8
theorem isTuple_nkey {d : D} {l : List NestedKey} (h : nkey d = some (.tup l)) : isTuple d = true := by
  cases d <;> simp [nkey] at h
  rfl
/-! ### what a dict's object holds -/
section
variable {c : Zc} {H : Hp}
/-- the dict's entry at k -/
def Held (c : Zc) (H : Hp) (kvs : List (D × D)) (ys xs : List V) (gp : List Addr) (k d : D) (x : V) (fp : List Addr) : Prop :=
  ∃ A B ys1 y ys2 xs1 xs2 f1 f2, kvs = A ++ (k, d) :: B ∧ ys = ys1 ++ y :: ys2 ∧ xs = xs1 ++ x :: xs2 ∧ gp = f1 ++ (fp ++ f2) ∧ Rpk c H A ys1 xs1 f1 ∧ Rp c H k y [] ∧ Rp c H d x fp ∧ Rpk c H B ys2 xs2 f2
theorem Held.cons {k' d' k d : D} {y0 x0 x : V} {kvs : List (D × D)} {ys xs : List V} {f gp fp : List Addr} (rk : Rp c H k' y0 []) (rd : Rp c H d' x0 f) (h : Held c H kvs ys xs gp k d x fp) : Held c H ((k', d') :: kvs) (y0 :: ys) (x0 :: xs) (f ++ gp) k d x fp := by
  obtain ⟨A, B, ys1, y, ys2, xs1, xs2, f1, f2, rfl, rfl, rfl, rfl, h1, h2, h3, h4⟩ := h
  refine ⟨(k', d') :: A, B, y0 :: ys1, y, ys2, x0 :: xs1, xs2, f ++ f1, f2, rfl, rfl, rfl, by rw [List.append_assoc], ?_, h2, h3, h4⟩
  simp only [Rpk]
  exact ⟨y0, ys1, x0, xs1, f, f1, rfl, rfl, rfl, rk, rd, h1⟩
/-- what is found -/
def GetIs (c : Zc) (H : Hp) (kvs : List (D × D)) (ys xs : List V) (gp : List Addr) (k : D) (o : Option D) (r : Option V) : Prop := match o with
  | none => r = none
  | some d => ∃ x fp, r = some x ∧ Held c H kvs ys xs gp k d x fp
/-- all keys are of the kind of k -/
def Homog (kvs : List (D × D)) (k : D) : Prop := ∀ p ∈ kvs, isTuple p.1 = isTuple k
theorem GetIs.isSome {kvs : List (D × D)} {ys xs : List V} {gp : List Addr} {k : D} {o : Option D} {r : Option V} (h : GetIs c H kvs ys xs gp k o r) : r.isSome = o.isSome := by
  cases o with
  | none => rw [show r = none from h]; rfl
  | some d =>
    obtain ⟨x, fp, h1, _⟩ := h
    rw [h1]
    rfl
end
end Z
set_option Elab.async false
set_option linter.all false
set_option maxRecDepth 100000
set_option maxHeartbeats 4000000
/-! Z36: dicts over data: d[k], d.get(k), in, d[k] = v, setdefault, len; walks of dicts that never change any more. -/
namespace Z
open PySem PySem.Spec PyProof.Rows L2
def plainK (kvs : List (D × D)) : Prop := isSrc kvs = false ∧ isFrz kvs = false ∧ isFrd kvs = false
/-- a dict, of either kind -/
def IsDc (d : D) (kvs : List (D × D)) : Prop := (d = .dict kvs ∧ plainK kvs) ∨ d = frdD kvs
section
variable {c : Zc} {H : Hp}
theorem rp_dict {kvs : List (D × D)} (hp : plainK kvs) {v : V} {fp : List Addr} : Rp c H (.dict kvs) v fp ↔ ∃ a ys xs gp, v = .ref a ∧ fp = a :: gp ∧ Rpk c H kvs ys xs gp ∧ ∃ u, H a = some u ∧ DictU a (kvs.map (·.1)) ys xs u := by
  simp only [Rp]
  rw [if_neg (by rw [hp.1]; simp), if_neg (by rw [hp.2.1]; simp), if_neg (by rw [hp.2.2]; simp)]
theorem IsDc.rp {d : D} {kvs : List (D × D)} (l : IsDc d kvs) {v : V} {fp : List Addr} (r : Rp c H d v fp) :
    ∃ a ys xs gp u, v = .ref a ∧ Rd H a u ∧ DictU a (kvs.map (·.1)) ys xs u ∧ Rpk c H kvs ys xs gp ∧ (∀ b ∈ gp, b ∈ fp) ∧ (fp.Nodup → gp.Nodup) := by
  rcases l with ⟨rfl, hp⟩ | rfl
  · obtain ⟨a, ys, xs, gp, rfl, rfl, h1, u, h2, h3⟩ := (rp_dict hp).mp r
    exact ⟨a, ys, xs, gp, u, rfl, .inl h2, h3, h1, fun b hb => List.mem_cons_of_mem _ hb, fun n => (List.nodup_cons.mp n).2⟩
  · obtain ⟨a, ys, xs, rfl, rfl, ⟨o, u, h2, h3⟩, h1⟩ := rp_frd.mp r
    exact ⟨a, ys, xs, [], u, rfl, .inr ⟨o, h2⟩, h3, h1, fun b hb => hb, fun n => n⟩
end
section
variable {K : PySem.W.Frag} {S : Option (Addr × Addr)}
/-! ### reads -/
def dKGet (m mk : DM) : DM := fun ρ R => m ρ fun d => ∃ kvs, IsDc d kvs ∧ mk ρ fun k => KeyOk k ∧ Homog kvs k ∧ ∃ v, kFind kvs k = some v ∧ R v
def dKGet1 (m mk : DM) : DM := fun ρ R => m ρ fun d => ∃ kvs, IsDc d kvs ∧ mk ρ fun k => KeyOk k ∧ Homog kvs k ∧ R ((kFind kvs k).getD .none)
def dKGet2 (m mk mx : DM) : DM := fun ρ R => m ρ fun d => ∃ kvs, IsDc d kvs ∧ mk ρ fun k => KeyOk k ∧ Homog kvs k ∧ mx ρ fun x => R ((kFind kvs k).getD x)
def dKIn (neg : Bool) (mk m : DM) : DM := fun ρ R => mk ρ fun k => KeyOk k ∧ m ρ fun d => ∃ kvs, IsDc d kvs ∧ Homog kvs k ∧ R (.bool (xor neg (kFind kvs k).isSome))
/-! ### stores -/
/-- the slot holds a dict of its own -/
def ownK (s : Option Sl) (k : List (D × D) → Prop) : Prop := ∃ kvs, s = some (.own (.dict kvs)) ∧ plainK kvs ∧ k kvs
theorem DictU.notFix {a : Addr} {ks : List D} {ys xs : List V} {u : HO} (h : DictU a ks ys xs u) : ¬ Fix u := fun hf => by
  obtain ⟨_, n1, n2⟩ := h.not_fix
  cases u with
  | tup zs => exact n1 zs rfl
  | frz o z => exact n2 o z rfl
  | _ => exact hf
def sKPut (i : Nat) (mk mv : DM) : DMS := fun ρ R => mv ρ fun v => ownK ρ[i]? fun kvs => mk ρ fun k => KeyOk k ∧ Homog kvs k ∧ kvs.length < 10000000 ∧ R.nx (ρ.set i (.own (.dict (kPut kvs k v))))
/-- x = d.setdefault(k, e), e without lists of its own -/
def sKSetd (j i : Nat) (mk mx : DM) : DMS := fun ρ R => ownK ρ[i]? fun kvs => mk ρ fun k => KeyOk k ∧ Homog kvs k ∧ kvs.length < 10000000 ∧ mx ρ fun x => solid x = true ∧
  match kFind kvs k with
  | some v => solid v = true ∧ R.nx (ρ.set j (.own v))
  | none => R.nx ((ρ.set i (.own (.dict (kPut kvs k x)))).set j (.own x))
/-! ### d.setdefault(k, []).append(e) -/
theorem Held.keys {c : Zc} {H : Hp} {kvs : List (D × D)} {ys xs : List V} {gp : List Addr} {k d v : D} {x : V} {fp : List Addr} (h : Held c H kvs ys xs gp k d x fp) (nd : (kvs.map (·.1)).Nodup) : (kRepl kvs k v).map (·.1) = kvs.map (·.1) := kRepl_keys ..
def sKSetApp (i : Nat) (mk me : DM) : DMS := fun ρ R => ownK ρ[i]? fun kvs => mk ρ fun k => KeyOk k ∧ Homog kvs k ∧ kvs.length < 10000000 ∧
  match kFind kvs k with
  | some d => ∃ ds, d = .list ds ∧ ds.length < 10000000 ∧ me ρ fun e => solid e = true ∧ R.nx (ρ.set i (.own (.dict (kPut kvs k (.list (ds ++ [e]))))))
  | none => me (ρ.set i (.own (.dict (kPut kvs k (.list []))))) fun e => solid e = true ∧ R.nx (ρ.set i (.own (.dict (kPut kvs k (.list [e])))))
end
end Z
set_option Elab.async false
set_option linter.all false
set_option maxRecDepth 100000
set_option maxHeartbeats 4000000
/-! Z37: what is made and then never changed: the ghost of freezing; walks of dicts that never change any more. -/
namespace Z
open PySem PySem.Spec PyProof.Rows L2
/-! ### freezing -/
def Chg (u : HO) : Prop := (∃ xs, u = .lst xs) ∨ (∃ kvs, u = .dK kvs) ∨ ∃ φ, u = .ext φ
theorem Chg.notFix {u : HO} (h : Chg u) : ¬ Fix u := by
  rcases h with ⟨xs, rfl⟩ | ⟨kvs, rfl⟩ | ⟨φ, rfl⟩ <;> exact id
def FrzBy (L : List Addr) (H H' : Hp) : Prop := ∀ b, (b ∉ L → H' b = H b) ∧ (b ∈ L → ∃ o u, H b = some u ∧ Chg u ∧ H' b = some (.frz o u))
theorem FrzBy.tk {L : List Addr} {H H' : Hp} (h : FrzBy L H H') : Tk H H' := fun b o hb hf => by
  by_cases z : b ∈ L
  · obtain ⟨ob, u, h1, h2, _⟩ := (h b).2 z
    rw [h1] at hb
    cases hb
    exact (h2.notFix hf).elim
  · rw [(h b).1 z]
    exact hb
mutual
/-- nothing in it changes any more -/
def fz : D → D
  | .none => .none
  | .bool b => .bool b
  | .int i => .int i
  | .str x => .str x
  | .list ds => frzD (fzs ds)
  | .tuple ds => .tuple (fzs ds)
  | .dict kvs => if isSrc kvs = true then .dict kvs else if isFrz kvs = true then .dict kvs else if isFrd kvs = true then .dict kvs else frdD (fzk kvs)
def fzs : List D → List D
  | [] => []
  | d :: ds => fz d :: fzs ds
def fzk : List (D × D) → List (D × D)
  | [] => []
  | (k, d) :: ds => (k, fz d) :: fzk ds
end
section
variable {K : PySem.W.Frag} {S : Option (Addr × Addr)}
def sFz (i : Nat) (m : DMS) : DMS := fun ρ R => ∃ d, ρ[i]? = some (.own d) ∧ m (ρ.set i (.val (fz d))) R
end
/-! ### walks -/
section
variable {K : PySem.W.Frag} {S : Option (Addr × Addr)}
def dXKeys (m : DM) : DMs := fun ρ R => m ρ fun d => ∃ kvs, d = frdD kvs ∧ R (kvs.map (·.1))
def dXVals (m : DM) : DMs := fun ρ R => m ρ fun d => ∃ kvs, d = frdD kvs ∧ R (kvs.map (·.2))
def dXItems (m : DM) : DMs := fun ρ R => m ρ fun d => ∃ kvs, d = frdD kvs ∧ R (kvs.map fun p => .tuple [p.1, p.2])
end
end Z
set_option Elab.async false
set_option linter.all false
set_option maxRecDepth 100000
set_option maxHeartbeats 4000000
/-! Z38: {} and len of dicts of any keys; dicts as lists of typed pairs. -/
namespace Z
open PySem PySem.Spec PyProof.Rows L2
section
variable {K : PySem.W.Frag} {S : Option (Addr × Addr)}
def dLenX (m : DM) : DM := fun ρ R => m ρ fun d => ∃ kvs, IsDc d kvs ∧ R (.int ((kvs.length : Nat) : Int))
def dNewX : DM := fun _ R => R (.dict [])
end
/-! ### typed pairs -/
section
variable {α β : Type} [DecidableEq α] {f : α → D} {g : β → D}
def aFind (xs : List (α × β)) (a : α) : Option β := (xs.find? fun p => decide (p.1 = a)).map (·.2)
def aPut (xs : List (α × β)) (a : α) (b : β) : List (α × β) := if (aFind xs a).isSome then xs.map (fun p => if p.1 = a then (p.1, b) else p) else xs ++ [(a, b)]
theorem aFind_mem {xs : List (α × β)} {a : α} : (aFind xs a).isSome = true ↔ a ∈ xs.map (·.1) := by
  unfold aFind
  rw [Option.isSome_map, List.find?_isSome]
  constructor
  · rintro ⟨p, hp, e⟩
    exact List.mem_map.mpr ⟨p, hp, by simpa using e⟩
  · intro h
    obtain ⟨p, hp, e⟩ := List.mem_map.mp h
    exact ⟨p, hp, by simpa using e⟩
theorem aFind_of_mem {xs : List (α × β)} (nd : (xs.map (·.1)).Nodup) {a : α} {b : β} (h : (a, b) ∈ xs) : aFind xs a = some b := by
  induction xs with
  | nil => cases h
  | cons p xs ih =>
    rw [List.map_cons] at nd
    obtain ⟨n1, n2⟩ := List.nodup_cons.mp nd
    rcases List.mem_cons.mp h with rfl | h
    · simp [aFind]
    · have : p.1 ≠ a := fun z => n1 (z ▸ List.mem_map.mpr ⟨_, h, rfl⟩)
      have := ih n2 h
      unfold aFind at this ⊢
      rw [List.find?_cons]
      simp [*]
theorem aPut_keys (xs : List (α × β)) (a : α) (b : β) : (aPut xs a b).map (·.1) = if a ∈ xs.map (·.1) then xs.map (·.1) else xs.map (·.1) ++ [a] := by
  unfold aPut
  by_cases h : a ∈ xs.map (·.1)
  · rw [if_pos (aFind_mem.mpr h), if_pos h, List.map_map]
    refine List.map_congr_left fun p _ => ?_
    simp only [Function.comp]
    split <;> rfl
  · rw [if_neg fun z => h (aFind_mem.mp z), if_neg h, List.map_append]
    rfl
theorem aPut_nodup {xs : List (α × β)} (nd : (xs.map (·.1)).Nodup) (a : α) (b : β) : ((aPut xs a b).map (·.1)).Nodup := by
  rw [aPut_keys]
  split
  · exact nd
  · rename_i h
    exact List.nodup_append.mpr ⟨nd, List.pairwise_singleton _ _, fun x hx y hy z => h (by rw [List.mem_singleton.mp hy] at z; exact z ▸ hx)⟩
theorem aFind_put (xs : List (α × β)) (a c : α) (b : β) : aFind (aPut xs a b) c = if c = a then some b else aFind xs c := by
  unfold aPut
  by_cases h : (aFind xs a).isSome = true
  · rw [if_pos h]
    by_cases hc : c = a
    · subst hc
      rw [if_pos rfl]
      induction xs with
      | nil => cases h
      | cons p xs ih =>
        by_cases e : p.1 = c
        · simp [aFind, e]
        · have : (aFind xs c).isSome = true := by
            have h' := h
            unfold aFind at h' ⊢
            rw [List.find?_cons] at h'
            simpa [e] using h'
          have := ih this
          unfold aFind at this ⊢
          rw [List.map_cons, List.find?_cons]
          simpa [e] using this
    · rw [if_neg hc]
      clear h
      induction xs with
      | nil => rfl
      | cons p xs ih =>
        unfold aFind at ih ⊢
        rw [List.map_cons, List.find?_cons, List.find?_cons]
        by_cases e : p.1 = a
        · have : ¬ p.1 = c := fun z => hc (z.symm.trans e)
          have a' : ¬ a = c := fun z => hc z.symm
          simp only [e, if_true, a', decide_false]
          exact ih
        · by_cases e2 : p.1 = c
          · have h3 : (if p.1 = a then (p.1, b) else p) = p := if_neg e
            rw [h3]
            simp [e2]
          · simp only [e, if_false, e2, decide_false]
            exact ih
  · rw [if_neg h]
    by_cases hc : c = a
    · subst hc
      rw [if_pos rfl]
      have : aFind xs c = none := by
        cases hh : aFind xs c with
        | none => rfl
        | some b => rw [hh] at h; exact (h rfl).elim
      unfold aFind at this ⊢
      rw [Option.map_eq_none_iff] at this
      rw [List.find?_append, this]
      simp
    · rw [if_neg hc]
      unfold aFind
      rw [List.find?_append]
      have : ¬ a = c := fun z => hc z.symm
      cases hh : xs.find? (fun p => decide (p.1 = c)) with
      | none => simp [this]
      | some p => simp
end
end Z
set_option Elab.async false
set_option linter.all false
set_option maxRecDepth 100000
set_option maxHeartbeats 4000000
/-! Z39: len(dict(pairs)), the keys ints. -/
namespace Z
open PySem PySem.Spec PyProof.Rows L2
section
variable {K : PySem.W.Frag} {S : Option (Addr × Addr)}
def dLenDict0 (m : DM) : DM := fun ρ R => m ρ fun d => ∃ ns : List Int, d = pairs0 ns ∧ ∀ ks : List Int, ks.Nodup → (∀ x, x ∈ ks ↔ x ∈ ns) → R (.int ((ks.length : Nat) : Int))
end
end Z
set_option Elab.async false
set_option linter.all false
set_option maxHeartbeats 1000000
/-! G26: rows put together by what is seen at places; what a lot tells. Plain Lean. -/
namespace Z
open PySem PySem.Spec PyProof.Rows L2
def grpS (P : List Nat) (xs : List (List Bool × List (List Bool))) (v : List Bool) : List (List Bool × List (List Bool)) := aPut xs (atP P v) ((aFind xs (atP P v)).getD [] ++ [v])
def alike (P : List Nat) (V : List (List Bool)) (k : List Bool) : List (List Bool) := V.filter fun v => atP P v == k
def optL (l : List (List Bool)) : Option (List (List Bool)) := if l = [] then none else some l
structure Grp (P : List Nat) (V : List (List Bool)) (xs : List (List Bool × List (List Bool))) : Prop where
  nd : (xs.map (·.1)).Nodup
  at' : ∀ k, aFind xs k = optL (alike P V k)
theorem optL_getD (l : List (List Bool)) : (optL l).getD [] = l := by
  unfold optL
  split
  · rename_i h
    rw [h]
    rfl
  · rfl
theorem Grp.step {P : List Nat} {V : List (List Bool)} {xs : List (List Bool × List (List Bool))} (h : Grp P V xs) (v : List Bool) : Grp P (V ++ [v]) (grpS P xs v) := by
  refine ⟨aPut_nodup h.nd _ _, fun k => ?_⟩
  unfold grpS
  rw [aFind_put, h.at', optL_getD]
  unfold alike
  rw [List.filter_append]
  by_cases e : k = atP P v
  · subst e
    rw [if_pos rfl]
    have : [v].filter (fun w => atP P w == atP P v) = [v] := by simp
    rw [this]
    unfold optL
    rw [if_neg (by simp)]
  · rw [if_neg e, h.at']
    have : [v].filter (fun w => atP P w == k) = [] := by
      rw [List.filter_eq_nil_iff]
      intro a ha
      rw [List.mem_singleton.mp ha]
      simpa using fun z => e z.symm
    rw [this, List.append_nil]
    rfl
section
variable {P : List Nat} {V : List (List Bool)} {xs : List (List Bool × List (List Bool))}
theorem Grp.val (h : Grp P V xs) {p : List Bool × List (List Bool)} (hp : p ∈ xs) : p.2 = alike P V p.1 := by
  have := aFind_of_mem h.nd (a := p.1) (b := p.2) hp
  rw [h.at'] at this
  unfold optL at this
  split at this
  · cases this
  · exact (Option.some.inj this).symm
theorem Grp.keys (h : Grp P V xs) (k : List Bool) : k ∈ xs.map (·.1) ↔ ∃ v ∈ V, atP P v = k := by
  rw [← aFind_mem, h.at']
  unfold optL alike
  constructor
  · intro z
    split at z
    · cases z
    · rename_i hne
      obtain ⟨v, hv⟩ := List.exists_mem_of_ne_nil _ hne
      obtain ⟨h1, h2⟩ := List.mem_filter.mp hv
      exact ⟨v, h1, by simpa using h2⟩
  · rintro ⟨v, hv, e⟩
    rw [if_neg]
    · rfl
    · intro z
      have : v ∈ V.filter fun w => atP P w == k := List.mem_filter.mpr ⟨hv, by simpa using e⟩
      rw [z] at this
      cases this
theorem Grp.has (h : Grp P V xs) {v : List Bool} (hv : v ∈ V) : (atP P v, alike P V (atP P v)) ∈ xs := by
  obtain ⟨p, hp, e⟩ := List.mem_map.mp ((h.keys (atP P v)).mpr ⟨v, hv, rfl⟩)
  have := h.val hp
  rw [← e, ← this]
  exact hp
end
/-! ### what a lot tells -/
end Z
set_option Elab.async false
set_option linter.all false
set_option maxRecDepth 100000
set_option maxHeartbeats 4000000
/-! Z40: dict(list of pairs) whose keys are tuples of any depth. -/
namespace Z
open PySem PySem.Spec PyProof.Rows L2
/-! ### over data -/
noncomputable def kMerge (kvs : List (D × D)) : List (D × D) := kvs.foldl (fun acc p => kPut acc p.1 p.2) []
def KeyT (d : D) : Prop := ∃ (nk : NestedKey) (l : List NestedKey), nkey d = some nk ∧ nk = .tup l ∧ nk.depth ≤ 8
theorem KeyT.ok {d : D} (h : KeyT d) : KeyOk d := .inr h
theorem KeyT.tup {d : D} (h : KeyT d) : isTuple d = true := by
  obtain ⟨nk, l, h1, h2, _⟩ := h
  exact isTuple_nkey (by rw [h1, h2])
section
variable {c : Zc} {H : Hp}
/-- the rows that stand for pairs -/
structure RowsAs (c : Zc) (H : Hp) (kvs : List (D × D)) (rows : List Row) : Prop where
  ks : (kvs.map (·.1)).map nkey = rows.map (fun r => some r.1)
  rp : Rpk c H kvs (rows.map fun r => .ref r.2.1) (rows.map fun r => r.2.2) []
  nd : (rows.map (·.1)).Nodup
  tp : ∀ r ∈ rows, r.1.depth ≤ 8 ∧ ∃ l, r.1 = .tup l
theorem RowsAs.keys {kvs : List (D × D)} {rows : List Row} (h : RowsAs c H kvs rows) : (kvs.map (·.1)).Nodup := by
  have : ((kvs.map (·.1)).map nkey).Nodup := by
    rw [h.ks, show (fun r : Row => some r.1) = some ∘ (fun r : Row => r.1) from rfl, ← List.map_map]
    exact List.Pairwise.map _ (fun a b hne z => hne (Option.some.inj z)) h.nd
  exact List.Pairwise.of_map _ (fun a b hne z => hne (congrArg nkey z)) this
end
section
variable {K : PySem.W.Frag} {S : Option (Addr × Addr)}
def dDictX (m : DM) : DM := fun ρ R => m ρ fun d => ∃ kvs : List (D × D), d = .list (kvs.map fun p => .tuple [p.1, p.2]) ∧ kvs ≠ [] ∧ (∀ p ∈ kvs, KeyT p.1 ∧ solid p.2 = true) ∧ kvs.length ≤ 10000000 ∧ R (.dict (kMerge kvs))
end
/-! ### merged typed pairs -/
section
variable {α β : Type} [DecidableEq α] {f : α → D} {g : β → D}
def aMerge (xs : List (α × β)) : List (α × β) := xs.foldl (fun acc p => aPut acc p.1 p.2) []
end
end Z
set_option Elab.async false
set_option linter.all false
set_option maxRecDepth 100000
set_option maxHeartbeats 4000000
/-! Z41: sorted of lists that never change. -/
namespace Z
open PySem PySem.Spec PyProof.Rows L2
section
variable {K : PySem.W.Frag} {S : Option (Addr × Addr)}
def fSortedF (b : Bool) : List D → (D → Prop) → Prop := fun ds R => match ds with
  | [d] => ∃ xs, IsL d xs ∧ solids xs = true ∧ SortOk xs ∧ R (.list (sortD b xs))
  | _ => False
end
end Z
set_option Elab.async false
set_option linter.all false
set_option maxHeartbeats 1000000
/-! G27: how many unlike lots of ends there are. Plain Lean. -/
set_option Elab.async false
set_option linter.all false
set_option maxHeartbeats 1000000
/-! G28: lots of ends, sorted. Plain Lean. -/
set_option Elab.async false
set_option linter.all false
set_option maxRecDepth 100000
set_option maxHeartbeats 4000000
/-! Z42: sorted of lists of one item at most, whatever it is. -/
namespace Z
open PySem PySem.Spec PyProof.Rows L2
section
variable {K : PySem.W.Frag} {S : Option (Addr × Addr)}
/-- sorted of a list of either kind; of one item at most: whatever it is -/
def fSortedW : List D → (D → Prop) → Prop := fun ds R => match ds with
  | [d] => ∃ xs, IsL d xs ∧ solids xs = true ∧ ((SortOk xs ∧ R (.list (sortD false xs))) ∨ (xs.length ≤ 1 ∧ R (.list xs)))
  | _ => False
end
end Z
set_option Elab.async false
set_option linter.all false
set_option maxRecDepth 100000
set_option maxHeartbeats 4000000
/-! Z43: itertools.combinations(xs, r), at the library's level. -/
set_option Elab.async false
set_option linter.all false
set_option maxRecDepth 100000
set_option maxHeartbeats 4000000
/-! Z44: itertools.combinations(xs, r) over the layer. -/
namespace Z
open PySem PySem.Spec PyProof.Rows L2
/-! ### the lots in order -/
/-- the ways to pick r of them, in order -/
def picks {α : Type} : List α → Nat → List (List α)
  | _, 0 => [[]]
  | [], _ + 1 => []
  | x :: xs, r + 1 => (picks xs r).map (x :: ·) ++ picks xs (r + 1)
section
variable {K : PySem.W.Frag} {S : Option (Addr × Addr)}
/-- combinations -/
def combD (ds : List D) (r : Nat) : List D := (picks ds r).map .tuple
def dCmbR (m1 m2 : DM) : DMs := fun ρ R => m1 ρ fun d => asI d fun n => (0 ≤ n ∧ n ≤ 100000) ∧ m2 ρ fun e => asI e fun r => (0 ≤ r ∧ r ≤ 100000) ∧ R (combD (rangeD 0 n.toNat 1) r.toNat)
def dCmbL (ms : DMs) : DMs := fun ρ R => ms ρ fun ds => match ds with
  | [.list xs, .int r] => (0 ≤ r ∧ r ≤ 100000) ∧ R (combD xs r.toNat)
  | [.tuple xs, .int r] => (0 ≤ r ∧ r ≤ 100000) ∧ R (combD xs r.toNat)
  | _ => False
end
end Z
set_option Elab.async false
set_option linter.all false
set_option maxRecDepth 100000
set_option maxHeartbeats 4000000
/-! G29: base lots, their changes. -/
namespace Z
open PySem L2
variable {n : Nat} {B : List (List Bool)} {P Q : List Nat}
/-! ### lots as data -/
def lotD (P : List Nat) : D := .tuple (P.map natD)
end Z
set_option Elab.async false
set_option linter.all false
set_option maxRecDepth 100000
set_option maxHeartbeats 4000000
/-! G30: loops. -/
namespace Z
open PySem L2
variable {n : Nat} {B : List (List Bool)} {P Q : List Nat}
def parF (f : Nat → Bool) : List Nat → List Bool → Bool
  | [], _ => false
  | p :: P, b => (f p && gt b p) ^^ parF f P b
theorem parF_cons {f : Nat → Bool} {p : Nat} {P : List Nat} {b : List Bool} : parF f (p :: P) b = ((f p && gt b p) ^^ parF f P b) := rfl
theorem dot_at (f : Nat → Bool) (b : List Bool) : ∀ P : List Nat, dot (atP P b) (P.map f) = parF f P b
  | [] => rfl
  | p :: P => by
    have := dot_at f b P
    show ((gt b p && f p) ^^ dot (atP P b) (P.map f)) = ((f p && gt b p) ^^ parF f P b)
    rw [this, Bool.and_comm]
def Rel (B : List (List Bool)) (P : List Nat) (f : Nat → Bool) : Prop := ∀ b ∈ B, parF f P b = false
theorem sp_nil {n : Nat} {v : List Bool} (s : Sp n [] v) : v = nul n := by
  cases s with
  | zero => rfl
  | add h _ => cases h
theorem dep_iff (hB : Len n B) (nd : P.Nodup) : rkP B P < P.length ↔ ∃ f : Nat → Bool, (∃ p ∈ P, f p = true) ∧ Rel B P f := by
  have lM : Len P.length (B.map (atP P)) := (lin_atP n P).lens hB
  obtain ⟨S, hS, lS⟩ := rref_ex lM
  have rk := rkP_eq hB hS
  have fc := free_count hS.red
  have even : ∀ w : List Bool, w.length = P.length → ((∀ b ∈ S, dot b w = false) ↔ ∀ b ∈ B, dot (atP P b) w = false) := fun w hw => by
    constructor
    · intro h b hb
      have s : Sp P.length (B.map (atP P)) (atP P b) := by
        have := Sp.add (n := P.length) (List.mem_map.mpr ⟨b, hb, rfl⟩) (.zero (B := B.map (atP P)))
        rwa [xr_nul (atP_len P b)] at this
      exact dot_sp hS.red.len h ((hS.span _).mpr s)
    · intro h b hb
      have s : Sp P.length S b := by
        have := Sp.add (n := P.length) hb (.zero (B := S))
        rwa [xr_nul (hS.red.len b hb)] at this
      exact dot_sp lM (fun c hc => by obtain ⟨d, hd, rfl⟩ := List.mem_map.mp hc; exact h d hd) ((hS.span _).mp s)
  constructor
  · intro h
    have pos : 0 < (frees P.length S).length := by
      have := frees_count hS.red
      omega
    obtain ⟨q, hq⟩ : ∃ q, q ∈ frees P.length S := ⟨_, List.getElem_mem pos⟩
    have lw : (freeRow P.length S q).length = P.length := mkRow_len ..
    have hqn := (mem_frees.mp hq).1
    have g1 : gt (freeRow P.length S q) q = true := by rw [gt_freeRow hS.red hq]; simp
    have ev := (even_free hS.red lw).mp (by
      have := Sp.add (n := P.length) (List.mem_map.mpr ⟨q, hq, rfl⟩ : freeRow P.length S q ∈ freeRows P.length S) .zero
      rwa [xr_nul lw] at this)
    generalize freeRow P.length S q = w at *
    have em : P.map (fun p => gt w (P.idxOf p)) = w := by
      refine List.ext_getElem (by rw [List.length_map, lw]) fun i h1 h2 => ?_
      rw [List.getElem_map, nd.idxOf_getElem i (by simpa using h1)]
      unfold gt
      rw [List.getD_eq_getElem?_getD, List.getElem?_eq_getElem h2]
      rfl
    refine ⟨fun p => gt w (P.idxOf p), ⟨P[q], List.getElem_mem hqn, ?_⟩, fun b hb => ?_⟩
    · show gt w (P.idxOf P[q]) = true
      rw [nd.idxOf_getElem q hqn]
      exact g1
    · rw [← dot_at, em]
      exact (even w lw).mp ev b hb
  · rintro ⟨f, ⟨p, hp, fp⟩, rel⟩
    have le := rkP_le (B := B) (P := P)
    refine Nat.lt_of_le_of_ne le fun e => ?_
    have lw : (P.map f).length = P.length := List.length_map ..
    have ev := (even (P.map f) lw).mpr fun b hb => by rw [dot_at]; exact rel b hb
    have s := (even_free hS.red lw).mpr ev
    have nilf : freeRows P.length S = [] := List.eq_nil_of_length_eq_zero (by omega)
    rw [nilf] at s
    have z := sp_nil s
    have : true ∈ P.map f := List.mem_map.mpr ⟨p, hp, fp⟩
    rw [z] at this
    have := List.eq_of_mem_replicate this
    cases this
/-! ### lots, sorted -/
/-! ### all loops -/
end Z
set_option Elab.async false
set_option linter.all false
set_option maxRecDepth 100000
set_option maxHeartbeats 4000000
/-! G31: rows of numbers below p; spans. Plain Lean. -/
namespace Z
open PySem L2
/-- entry -/
def en (v : List Int) (i : Nat) : Int := v.getD i 0
/-- a row of m numbers below p -/
def Vec (p : Int) (m : Nat) (v : List Int) : Prop := v.length = m ∧ ∀ x ∈ v, 0 ≤ x ∧ x < p
/-- c times b and v -/
def axp (p c : Int) (b v : List Int) : List Int := (b.zip v).map fun q => (c * q.1 + q.2) % p
theorem axp_len {p c : Int} {b v : List Int} {m : Nat} (h : b.length = m) (k : v.length = m) : (axp p c b v).length = m := by
  unfold axp
  rw [List.length_map, List.length_zip, h, k]
  omega
theorem en_axp {p c : Int} {b v : List Int} {m i : Nat} (h : b.length = m) (k : v.length = m) (hi : i < m) : en (axp p c b v) i = (c * en b i + en v i) % p := by
  unfold en axp
  have h1 : i < b.length := by omega
  have h2 : i < v.length := by omega
  rw [List.getD_eq_getElem?_getD, List.getD_eq_getElem?_getD, List.getD_eq_getElem?_getD, List.getElem?_map, List.getElem?_eq_getElem h1, List.getElem?_eq_getElem h2, List.getElem?_eq_getElem (by rw [List.length_zip]; omega)]
  simp
theorem vec_ext {p : Int} {m : Nat} {a b : List Int} (ha : Vec p m a) (hb : Vec p m b) (h : ∀ i, i < m → en a i % p = en b i % p) : a = b := by
  refine List.ext_getElem (by rw [ha.1, hb.1]) fun i h1 h2 => ?_
  have e := h i (by rw [← ha.1]; exact h1)
  unfold en at e
  rw [List.getD_eq_getElem?_getD, List.getD_eq_getElem?_getD, List.getElem?_eq_getElem h1, List.getElem?_eq_getElem h2] at e
  have x := ha.2 _ (List.getElem_mem h1)
  have y := hb.2 _ (List.getElem_mem h2)
  simp only [Option.getD_some] at e
  rwa [Int.emod_eq_of_lt x.1 x.2, Int.emod_eq_of_lt y.1 y.2] at e
theorem vec_axp {p c : Int} {m : Nat} {b v : List Int} (hp : 0 < p) (hb : b.length = m) (hv : v.length = m) : Vec p m (axp p c b v) := by
  refine ⟨axp_len hb hv, fun x hx => ?_⟩
  unfold axp at hx
  obtain ⟨q, _, rfl⟩ := List.mem_map.mp hx
  exact ⟨Int.emod_nonneg _ (by omega), Int.emod_lt_of_pos _ hp⟩
def zer (m : Nat) : List Int := List.replicate m 0
theorem zer_len (m : Nat) : (zer m).length = m := List.length_replicate ..
theorem en_zer (m i : Nat) : en (zer m) i = 0 := by
  unfold en zer
  rw [List.getD_eq_getElem?_getD, List.getElem?_replicate]
  by_cases h : i < m <;> simp [h]
theorem vec_zer {p : Int} (hp : 0 < p) (m : Nat) : Vec p m (zer m) := ⟨zer_len m, fun x hx => by rw [List.eq_of_mem_replicate hx]; exact ⟨Int.le_refl _, hp⟩⟩
/-- what S spans -/
inductive Spn (p : Int) (m : Nat) (S : List (List Int)) : List Int → Prop
  | zero : Spn p m S (zer m)
  | add {b v : List Int} (c : Int) : b ∈ S → Spn p m S v → Spn p m S (axp p c b v)
def VecS (p : Int) (m : Nat) (S : List (List Int)) : Prop := ∀ b ∈ S, Vec p m b
section
variable {p : Int} {m : Nat} {S T : List (List Int)}
theorem Spn.vec (hp : 0 < p) (hS : VecS p m S) {v : List Int} (s : Spn p m S v) : Vec p m v := by
  induction s with
  | zero => exact vec_zer hp m
  | add c hb _ ih => exact vec_axp hp (hS _ hb).1 ih.1
theorem axp_zero (hp : 0 < p) {v : List Int} (hv : Vec p m v) {b : List Int} (hb : b.length = m) {c : Int} (hc : c % p = 0) : axp p c b v = v := vec_ext (vec_axp hp hb hv.1) hv fun i hi => by
  rw [en_axp hb hv.1 hi, Int.emod_emod_of_dvd _ (Int.dvd_refl _), Int.add_emod, Int.mul_emod, hc]
  simp
theorem Spn.mono (h : ∀ b ∈ S, b ∈ T) {v : List Int} (s : Spn p m S v) : Spn p m T v := by
  induction s with
  | zero => exact .zero
  | add c hb _ ih => exact .add c (h _ hb) ih
theorem Spn.comb (hp : 0 < p) (hS : VecS p m S) (c : Int) {u v : List Int} (su : Spn p m S u) (sv : Spn p m S v) : Spn p m S (axp p c u v) := by
  induction su with
  | zero =>
    have e : axp p c (zer m) v = v := vec_ext (vec_axp hp (zer_len m) (sv.vec hp hS).1) (sv.vec hp hS) fun i hi => by
      rw [en_axp (zer_len m) (sv.vec hp hS).1 hi, en_zer, Int.mul_zero, Int.zero_add, Int.emod_emod_of_dvd _ (Int.dvd_refl _)]
    rw [e]
    exact sv
  | @add b w d hb sw ih =>
    have lb := (hS b hb).1
    have lw := (sw.vec hp hS).1
    have lv := (sv.vec hp hS).1
    have e : axp p c (axp p d b w) v = axp p (c * d) b (axp p c w v) := by
      refine vec_ext (vec_axp hp (axp_len lb lw) lv) (vec_axp hp lb (axp_len lw lv)) fun i hi => ?_
      rw [en_axp (axp_len lb lw) lv hi, en_axp lb lw hi, en_axp lb (axp_len lw lv) hi, en_axp lw lv hi]
      simp only [Int.emod_emod_of_dvd _ (Int.dvd_refl _)]
      rw [Int.add_emod, Int.mul_emod, Int.emod_emod_of_dvd _ (Int.dvd_refl _), ← Int.mul_emod, ← Int.add_emod, Int.add_emod (c * d * en b i), Int.emod_emod_of_dvd _ (Int.dvd_refl _), ← Int.add_emod]
      congr 1
      rw [Int.mul_add, Int.mul_assoc, Int.add_assoc]
    rw [e]
    exact .add _ hb ih
theorem Spn.self (hp : 0 < p) (hS : VecS p m S) {b : List Int} (hb : b ∈ S) : Spn p m S b := by
  have e : axp p 1 b (zer m) = b := vec_ext (vec_axp hp (hS b hb).1 (zer_len m)) (hS b hb) fun i hi => by
    rw [en_axp (hS b hb).1 (zer_len m) hi, en_zer, Int.one_mul, Int.add_zero, Int.emod_emod_of_dvd _ (Int.dvd_refl _)]
  have := Spn.add (m := m) (p := p) 1 hb .zero
  rwa [e] at this
theorem Spn.trans (hp : 0 < p) (hT : VecS p m T) (h : ∀ b ∈ S, Spn p m T b) {v : List Int} (s : Spn p m S v) : Spn p m T v := by
  induction s with
  | zero => exact .zero
  | add c hb _ ih => exact Spn.comb hp hT c (h _ hb) ih
/-- a row more: what it spans is a row of the old and a multiple of the new one -/
theorem Spn.split (hp : 0 < p) (hS : VecS p m S) {u : List Int} (hu : Vec p m u) {v : List Int} (s : Spn p m (u :: S) v) : ∃ (c : Int) (w : List Int), Spn p m S w ∧ v = axp p c u w := by
  have hU : VecS p m (u :: S) := fun b hb => by
    rcases List.mem_cons.mp hb with rfl | hb
    · exact hu
    · exact hS b hb
  induction s with
  | zero => exact ⟨0, zer m, .zero, (axp_zero hp (vec_zer hp m) hu.1 (Int.zero_emod _)).symm⟩
  | @add b v d hb sv ih =>
    obtain ⟨c, w, sw, rfl⟩ := ih
    have lw := (sw.vec hp hS)
    rcases List.mem_cons.mp hb with rfl | hb
    · refine ⟨d + c, w, sw, vec_ext (vec_axp hp hu.1 (axp_len hu.1 lw.1)) (vec_axp hp hu.1 lw.1) fun i hi => ?_⟩
      rw [en_axp hu.1 (axp_len hu.1 lw.1) hi, en_axp hu.1 lw.1 hi, en_axp hu.1 lw.1 hi]
      simp only [Int.emod_emod_of_dvd _ (Int.dvd_refl _)]
      rw [Int.add_emod (d * en b i), Int.emod_emod_of_dvd _ (Int.dvd_refl _), ← Int.add_emod, Int.add_mul, Int.add_assoc]
    · have lb := (hS b hb)
      refine ⟨c, axp p d b w, .add d hb sw, vec_ext (vec_axp hp lb.1 (axp_len hu.1 lw.1)) (vec_axp hp hu.1 (axp_len lb.1 lw.1)) fun i hi => ?_⟩
      rw [en_axp lb.1 (axp_len hu.1 lw.1) hi, en_axp hu.1 lw.1 hi, en_axp hu.1 (axp_len lb.1 lw.1) hi, en_axp lb.1 lw.1 hi]
      simp only [Int.emod_emod_of_dvd _ (Int.dvd_refl _)]
      rw [Int.add_emod (d * en b i), Int.emod_emod_of_dvd _ (Int.dvd_refl _), ← Int.add_emod, Int.add_emod (c * en u i), Int.emod_emod_of_dvd _ (Int.dvd_refl _), ← Int.add_emod]
      congr 1
      omega
/-- every number but 0 has one that makes 1 -/
def Inv1 (p : Int) : Prop := ∀ c : Int, c % p ≠ 0 → ∃ d : Int, (d * c) % p = 1
theorem Spn.exchange (hp : 1 < p) (ip : Inv1 p) (hS : VecS p m S) {u v : List Int} (hu : Vec p m u) (hv : Vec p m v) (s : Spn p m (u :: S) v) (n : ¬ Spn p m S v) : Spn p m (v :: S) u := by
  have hp0 : 0 < p := by omega
  have hV : VecS p m (v :: S) := fun b hb => by
    rcases List.mem_cons.mp hb with rfl | hb
    · exact hv
    · exact hS b hb
  obtain ⟨c, w, sw, e⟩ := s.split hp0 hS hu
  have lw := sw.vec hp0 hS
  by_cases hc : c % p = 0
  · rw [axp_zero hp0 lw hu.1 hc] at e
    exact absurd (e ▸ sw) n
  · obtain ⟨d, hd⟩ := ip c hc
    -- u = d (v - w)
    have e2 : u = axp p d v (axp p (-d) w (zer m)) := by
      refine vec_ext hu (vec_axp hp0 hv.1 (axp_len lw.1 (zer_len m))) fun i hi => ?_
      rw [en_axp hv.1 (axp_len lw.1 (zer_len m)) hi, en_axp lw.1 (zer_len m) hi, en_zer, Int.add_zero, e, en_axp hu.1 lw.1 hi]
      simp only [Int.emod_emod_of_dvd _ (Int.dvd_refl _)]
      rw [Int.add_emod, Int.mul_emod d, Int.emod_emod_of_dvd _ (Int.dvd_refl _), Int.emod_emod_of_dvd _ (Int.dvd_refl _), ← Int.mul_emod, ← Int.add_emod]
      have : d * (c * en u i + en w i) + -d * en w i = (d * c) * en u i := by
        rw [Int.mul_add, Int.neg_mul, Int.mul_assoc]
        omega
      rw [this, Int.mul_emod, hd, Int.one_mul, Int.emod_emod_of_dvd _ (Int.dvd_refl _)]
    rw [e2]
    exact .add d (List.mem_cons_self ..) (Spn.comb hp0 hV (-d) (sw.mono fun b hb => List.mem_cons_of_mem _ hb) .zero)
end
/-! ### ranks: how many rows are not spanned by those before them -/
section
variable {p : Int} {m : Nat} {S T : List (List Int)}
open Classical in
noncomputable def rkS (p : Int) (m : Nat) : List (List Int) → Nat
  | [] => 0
  | u :: S => rkS p m S + if Spn p m S u then 0 else 1
theorem spn_perm (h : S.Perm T) {v : List Int} : Spn p m S v ↔ Spn p m T v := ⟨fun s => s.mono fun b hb => h.mem_iff.mp hb, fun s => s.mono fun b hb => h.mem_iff.mpr hb⟩
theorem rkS_perm (hp : 1 < p) (ip : Inv1 p) (h : S.Perm T) : VecS p m S → rkS p m S = rkS p m T := by
  induction h with
  | nil => exact fun _ => rfl
  | @cons x l1 l2 h ih =>
    intro hS
    unfold rkS
    rw [ih fun b hb => hS b (List.mem_cons_of_mem _ hb)]
    congr 1
    by_cases c : Spn p m l1 x
    · rw [if_pos c, if_pos ((spn_perm h).mp c)]
    · rw [if_neg c, if_neg fun z => c ((spn_perm h).mpr z)]
  | swap x y l =>
    intro hS
    have hp0 : 0 < p := by omega
    have hx : Vec p m x := hS x (by simp)
    have hy : Vec p m y := hS y (by simp)
    have hl : VecS p m l := fun b hb => hS b (by simp [hb])
    have hxl : VecS p m (x :: l) := fun b hb => hS b (List.mem_cons_of_mem _ hb)
    have hyl : VecS p m (y :: l) := fun b hb => by
      rcases List.mem_cons.mp hb with rfl | hb
      · exact hy
      · exact hl b hb
    unfold rkS
    unfold rkS
    have a1 : Spn p m l y → Spn p m (x :: l) y := fun s => s.mono fun b hb => List.mem_cons_of_mem _ hb
    have a2 : Spn p m l x → Spn p m (y :: l) x := fun s => s.mono fun b hb => List.mem_cons_of_mem _ hb
    have a3 : Spn p m (x :: l) y → ¬ Spn p m l y → Spn p m (y :: l) x := fun s n => s.exchange hp ip hl hx hy n
    have a4 : Spn p m (y :: l) x → ¬ Spn p m l x → Spn p m (x :: l) y := fun s n => s.exchange hp ip hl hy hx n
    -- x spanned by l: then y :: l and l span alike beside x
    have a5 : Spn p m l x → Spn p m (x :: l) y → Spn p m l y := fun sx s => s.trans hp0 hl fun b hb => by
      rcases List.mem_cons.mp hb with rfl | hb
      · exact sx
      · exact .self hp0 hl hb
    have a6 : Spn p m l y → Spn p m (y :: l) x → Spn p m l x := fun sy s => s.trans hp0 hl fun b hb => by
      rcases List.mem_cons.mp hb with rfl | hb
      · exact sy
      · exact .self hp0 hl hb
    by_cases c1 : Spn p m l x <;> by_cases c2 : Spn p m l y <;> by_cases c3 : Spn p m (x :: l) y <;> by_cases c4 : Spn p m (y :: l) x <;> simp only [c1, c2, c3, c4, if_true, if_false] <;> first
      | omega
      | exact absurd (a1 c2) c3
      | exact absurd (a2 c1) c4
      | exact absurd (a5 c1 c3) c2
      | exact absurd (a6 c2 c4) c1
      | exact absurd (a3 c3 c2) c4
      | exact absurd (a4 c4 c1) c3
  | trans h1 h2 ih1 ih2 => exact fun hS => (ih1 hS).trans (ih2 fun b hb => hS b (h1.mem_iff.mpr hb))
end
end Z
set_option Elab.async false
set_option linter.all false
set_option maxRecDepth 100000
set_option maxHeartbeats 4000000
/-! G32: heads of rows of numbers below p. Plain Lean. -/
namespace Z
open PySem L2
def stpM (p : Int) (l : List Int) (a : Nat × List Int) : List Int := (l.zip a.2).map fun q => (q.1 - en l a.1 * q.2) % p
def redM (p : Int) (H : List (Nat × List Int)) (v : List Int) : List Int := H.foldl (stpM p) v
def idxM (v : List Int) : List Nat := (v.zipIdx.filter fun q => q.1 != 0).map (·.2)
def turnM (p : Nat) (c : Int) : List Nat := (List.range p).filter fun x => ((x : Int) * c) % (p : Int) == 1
def addM (p : Nat) (H : List (Nat × List Int)) (v : List Int) : List (Nat × List Int) := match idxM (redM p H v) with
  | [] => H
  | k :: _ => H ++ [(k, (redM p H v).map fun x => (((turnM p (en (redM p H v) k)).getD 0 0 : Nat) * x) % (p : Int))]
section
variable {p : Int} {m : Nat} {X : List (List Int)}
theorem stpM_axp {l : List Int} {a : Nat × List Int} (hp : 0 < p) (hl : l.length = m) (ha : a.2.length = m) : stpM p l a = axp p (-(en l a.1)) a.2 l := by
  unfold stpM axp
  refine List.ext_getElem (by rw [List.length_map, List.length_map, List.length_zip, List.length_zip, hl, ha]) fun i h1 h2 => ?_
  rw [List.getElem_map, List.getElem_map, List.getElem_zip, List.getElem_zip]
  show (_ - _) % p = (_ + _) % p
  congr 1
  simp only []
  rw [Int.neg_mul]
  omega
structure TP (p : Int) (m : Nat) (X : List (List Int)) (H : List (Nat × List Int)) : Prop where
  vec : VecS p m (H.map (·.2))
  one : ∀ a ∈ H, en a.2 a.1 = 1
  low : H.Pairwise fun a b => en b.2 a.1 = 0
  lt : ∀ a ∈ H, a.1 < m
  sp : ∀ v, Spn p m (H.map (·.2)) v ↔ Spn p m X v
  cnt : H.length = rkS p m X
theorem TP.nil (p : Int) (m : Nat) : TP p m [] [] := ⟨fun b hb => (by cases hb), fun a ha => (by cases ha), .nil, fun a ha => (by cases ha), fun v => Iff.rfl, rfl⟩
theorem en_lt {v : List Int} (hv : Vec p m v) (hp : 0 < p) (i : Nat) : 0 ≤ en v i ∧ en v i < p := by
  unfold en
  rw [List.getD_eq_getElem?_getD]
  rcases Nat.lt_or_ge i v.length with h | h
  · rw [List.getElem?_eq_getElem h]
    exact hv.2 _ (List.getElem_mem h)
  · rw [List.getElem?_eq_none h]
    exact ⟨Int.le_refl _, hp⟩
theorem redM_ok (hp : 0 < p) : ∀ (H : List (Nat × List Int)), VecS p m (H.map (·.2)) → (∀ a ∈ H, en a.2 a.1 = 1) → H.Pairwise (fun a b => en b.2 a.1 = 0) → (∀ a ∈ H, a.1 < m) → ∀ v : List Int, Vec p m v →
    Vec p m (redM p H v) ∧ (∀ a ∈ H, en (redM p H v) a.1 = 0) ∧ (∀ i, i < m → (∀ a ∈ H, en a.2 i = 0) → en (redM p H v) i = en v i) ∧ (∀ C, VecS p m C → (∀ a ∈ H, Spn p m C a.2) → (Spn p m C (redM p H v) ↔ Spn p m C v))
  | [], _, _, _, _, v, hv => ⟨hv, fun a ha => (by cases ha), fun i _ _ => rfl, fun C _ _ => Iff.rfl⟩
  | a :: H, l, one, low, lt, v, hv => by
    have low := List.pairwise_cons.mp low
    have va : Vec p m a.2 := l _ (List.mem_cons_self ..)
    have es := stpM_axp (p := p) (l := v) (a := a) hp hv.1 va.1
    have vs : Vec p m (stpM p v a) := by rw [es]; exact vec_axp hp va.1 hv.1
    obtain ⟨h1, h2, h3, h4⟩ := redM_ok hp H (fun b hb => l b (List.mem_cons_of_mem _ hb)) (fun b hb => one b (List.mem_cons_of_mem _ hb)) low.2 (fun b hb => lt b (List.mem_cons_of_mem _ hb)) (stpM p v a) vs
    have e0 : redM p (a :: H) v = redM p H (stpM p v a) := rfl
    rw [e0]
    refine ⟨h1, fun b hb => ?_, fun i hi hz => ?_, fun C hC hH => ?_⟩
    · rcases List.mem_cons.mp hb with rfl | hb
      · rw [h3 b.1 (lt b (List.mem_cons_self ..)) low.1, es, en_axp va.1 hv.1 (lt b (List.mem_cons_self ..)), one b (List.mem_cons_self ..), Int.mul_one, Int.add_comm, Int.add_right_neg]
        exact Int.zero_emod _
      · exact h2 b hb
    · rw [h3 i hi fun b hb => hz b (List.mem_cons_of_mem _ hb), es, en_axp va.1 hv.1 hi, hz a (List.mem_cons_self ..), Int.mul_zero, Int.zero_add]
      have := en_lt hv hp i
      exact Int.emod_eq_of_lt this.1 this.2
    · refine (h4 C hC fun b hb => hH b (List.mem_cons_of_mem _ hb)).trans ?_
      have ha := hH a (List.mem_cons_self ..)
      rw [es]
      constructor
      · intro s
        -- v = (en v a.1) a + that
        have e : v = axp p (en v a.1) a.2 (axp p (-(en v a.1)) a.2 v) := vec_ext hv (vec_axp hp va.1 (axp_len va.1 hv.1)) fun i hi => by
          rw [en_axp va.1 (axp_len va.1 hv.1) hi, en_axp va.1 hv.1 hi, Int.emod_emod_of_dvd _ (Int.dvd_refl _), Int.add_emod (en v a.1 * en a.2 i), Int.emod_emod_of_dvd _ (Int.dvd_refl _), ← Int.add_emod, Int.neg_mul]
          congr 1
          omega
        rw [e]
        exact Spn.comb hp hC _ ha s
      · exact fun s => Spn.comb hp hC _ ha s
theorem zero_low (hp : 1 < p) : ∀ (H : List (Nat × List Int)), VecS p m (H.map (·.2)) → (∀ a ∈ H, en a.2 a.1 = 1) → H.Pairwise (fun a b => en b.2 a.1 = 0) → (∀ a ∈ H, a.1 < m) → ∀ w : List Int, Spn p m (H.map (·.2)) w → (∀ a ∈ H, en w a.1 = 0) → w = zer m
  | [], _, _, _, _, w, s, _ => by
    cases s with
    | zero => rfl
    | add c hb _ => cases hb
  | a :: H, l, one, low, lt, w, s, z => by
    have hp0 : 0 < p := by omega
    have low := List.pairwise_cons.mp low
    have va : Vec p m a.2 := l _ (List.mem_cons_self ..)
    have lH : VecS p m (H.map (·.2)) := fun b hb => l b (List.mem_cons_of_mem _ hb)
    obtain ⟨c, u, su, e⟩ := s.split hp0 lH va
    have vu := su.vec hp0 lH
    have zl : ∀ (T : List (Nat × List Int)) (q : Nat), q < m → VecS p m (T.map (·.2)) → (∀ b ∈ T, en b.2 q = 0) → ∀ x, Spn p m (T.map (·.2)) x → en x q = 0 := fun T q hq vT hT x sx => by
      induction sx with
      | zero => exact en_zer m q
      | @add b v d hb sv ih =>
        obtain ⟨t, ht, rfl⟩ := List.mem_map.mp hb
        rw [en_axp (vT _ hb).1 (sv.vec hp0 vT).1 hq, hT t ht, ih, Int.mul_zero, Int.add_zero]
        exact Int.zero_emod _
    have la := lt a (List.mem_cons_self ..)
    have u0 := zl H a.1 la lH low.1 u su
    have z0 := z a (List.mem_cons_self ..)
    rw [e, en_axp va.1 vu.1 la, one a (List.mem_cons_self ..), u0, Int.mul_one, Int.add_zero] at z0
    have ew : w = u := by rw [e, axp_zero hp0 vu va.1 z0]
    rw [ew]
    rw [ew] at z
    exact zero_low hp H lH (fun b hb => one b (List.mem_cons_of_mem _ hb)) low.2 (fun b hb => lt b (List.mem_cons_of_mem _ hb)) u su fun b hb => z b (List.mem_cons_of_mem _ hb)
theorem mem_idxM {v : List Int} {k : Nat} : k ∈ idxM v ↔ k < v.length ∧ en v k ≠ 0 := by
  unfold idxM
  rw [List.mem_map]
  constructor
  · rintro ⟨⟨x, j⟩, h, rfl⟩
    obtain ⟨h1, h2⟩ := List.mem_filter.mp h
    have := List.mem_zipIdx h1
    simp only [Nat.zero_le, Nat.zero_add, true_and, Nat.sub_zero] at this
    obtain ⟨hj, hx⟩ := this
    refine ⟨hj, ?_⟩
    unfold en
    rw [List.getD_eq_getElem?_getD, List.getElem?_eq_getElem hj]
    simp only [Option.getD_some]
    rw [← hx]
    simpa using h2
  · rintro ⟨h1, h2⟩
    refine ⟨(v[k], k), List.mem_filter.mpr ⟨?_, ?_⟩, rfl⟩
    · rw [List.mem_iff_getElem]
      exact ⟨k, by rw [List.length_zipIdx]; exact h1, by rw [List.getElem_zipIdx]; simp⟩
    · unfold en at h2
      rw [List.getD_eq_getElem?_getD, List.getElem?_eq_getElem h1] at h2
      simpa using h2
theorem vec_cons {v : List Int} (hX : VecS p m X) (hv : Vec p m v) : VecS p m (v :: X) := fun b hb => by
  rcases List.mem_cons.mp hb with rfl | hb
  · exact hv
  · exact hX b hb
theorem rkS_in {v : List Int} (h : Spn p m X v) : rkS p m (v :: X) = rkS p m X := by
  unfold rkS
  rw [if_pos h]
  cases X <;> rfl
theorem rkS_out {v : List Int} (h : ¬ Spn p m X v) : rkS p m (v :: X) = rkS p m X + 1 := by
  conv => lhs; unfold rkS
  rw [if_neg h]
/-- a row of numbers, times one -/
theorem scale_axp {l : List Int} {t : Int} (hp : 0 < p) (hl : l.length = m) : (l.map fun x => (t * x) % p) = axp p t l (zer m) := by
  unfold axp
  refine List.ext_getElem (by rw [List.length_map, List.length_map, List.length_zip, zer_len, hl]; omega) fun i h1 h2 => ?_
  rw [List.getElem_map, List.getElem_map, List.getElem_zip]
  show _ = (_ + (zer m)[i]'_) % p
  have : (zer m)[i]'(by rw [zer_len, ← hl]; simpa using h1) = 0 := by simp [zer]
  simp only [this, Int.add_zero]
/-- turnM finds one -/
theorem turn_ok {q : Nat} (ip : Inv1 q) (hq : 1 < q) {c : Int} (h : c % (q : Int) ≠ 0) : ∃ t : Nat, (turnM q c).getD 0 0 = t ∧ t < q ∧ ((t : Int) * c) % (q : Int) = 1 ∧ turnM q c ≠ [] := by
  obtain ⟨d, hd⟩ := ip c h
  have d0 := Int.emod_nonneg d (show (q : Int) ≠ 0 by omega)
  have d1 := Int.emod_lt_of_pos d (show (0 : Int) < q by omega)
  have mem : (d % (q : Int)).toNat ∈ turnM q c := List.mem_filter.mpr ⟨List.mem_range.mpr (by omega), by
    rw [beq_iff_eq, Int.toNat_of_nonneg d0, Int.mul_emod, Int.emod_emod_of_dvd _ (Int.dvd_refl _), ← Int.mul_emod]
    exact hd⟩
  match hm : turnM q c, mem with
  | t :: r, _ =>
    have ht : t ∈ turnM q c := by rw [hm]; exact List.mem_cons_self ..
    obtain ⟨h1, h2⟩ := List.mem_filter.mp ht
    exact ⟨t, rfl, List.mem_range.mp h1, beq_iff_eq.mp h2, fun z => by cases z⟩
theorem TP.add {q : Nat} (hq : 1 < q) (ip : Inv1 q) {H : List (Nat × List Int)} (h : TP q m X H) (hX : VecS q m X) {v : List Int} (hv : Vec q m v) : TP q m (v :: X) (addM q H v) := by
  have hp0 : (0 : Int) < q := by omega
  have hp1 : (1 : Int) < q := by omega
  obtain ⟨h1, h2, h3, h4⟩ := redM_ok hp0 H h.vec h.one h.low h.lt v hv
  have hvX := vec_cons hX hv
  have inX : ∀ a ∈ H, Spn q m (v :: X) a.2 := fun a ha => ((h.sp _).mp (Spn.self hp0 h.vec (List.mem_map.mpr ⟨a, ha, rfl⟩))).mono fun b hb => List.mem_cons_of_mem _ hb
  have sv : Spn q m (v :: X) (redM q H v) := (h4 _ hvX inX).mpr (Spn.self hp0 hvX (List.mem_cons_self ..))
  have inH : ∀ a ∈ H, Spn q m (H.map (·.2)) a.2 := fun a ha => Spn.self hp0 h.vec (List.mem_map.mpr ⟨a, ha, rfl⟩)
  have iff0 : Spn q m X v ↔ redM q H v = zer m := by
    rw [← h.sp, ← h4 _ h.vec inH]
    exact ⟨fun s => zero_low hp1 H h.vec h.one h.low h.lt _ s h2, fun e => by rw [e]; exact .zero⟩
  unfold addM
  cases e : idxM (redM q H v) with
  | nil =>
    have z : redM q H v = zer m := vec_ext h1 (vec_zer hp0 m) fun i hi => by
      rw [en_zer]
      have : ¬ en (redM q H v) i ≠ 0 := fun c => by
        have := mem_idxM.mpr ⟨by rw [h1.1]; exact hi, c⟩
        rw [e] at this
        cases this
      rw [Classical.not_not.mp this]
    have sX := iff0.mpr z
    refine ⟨h.vec, h.one, h.low, h.lt, fun w => (h.sp w).trans ⟨fun s => s.mono fun b hb => List.mem_cons_of_mem _ hb, fun s => s.trans hp0 hX fun b hb => ?_⟩, by rw [rkS_in sX]; exact h.cnt⟩
    rcases List.mem_cons.mp hb with rfl | hb
    · exact sX
    · exact .self hp0 hX hb
  | cons k more =>
    obtain ⟨hk, nk⟩ := mem_idxM.mp (by rw [e]; exact List.mem_cons_self .. : k ∈ idxM (redM q H v))
    have hkm : k < m := by rw [← h1.1]; exact hk
    have rng := en_lt h1 hp0 k
    obtain ⟨t, et, lt, ht, _⟩ := turn_ok ip hq (c := en (redM q H v) k) (by rw [Int.emod_eq_of_lt rng.1 rng.2]; exact nk)
    show TP (q : Int) m (v :: X) (H ++ [(k, (redM q H v).map fun x => (((turnM q (en (redM q H v) k)).getD 0 0 : Nat) * x) % (q : Int))])
    rw [et, scale_axp hp0 h1.1]
    have vn : Vec q m (axp q t (redM q H v) (zer m)) := vec_axp hp0 h1.1 (zer_len m)
    have en1 : ∀ i, i < m → en (axp q t (redM q H v) (zer m)) i = (t * en (redM q H v) i) % q := fun i hi => by rw [en_axp h1.1 (zer_len m) hi, en_zer, Int.add_zero]
    have nsp : ¬ Spn q m X v := fun s => by
      rw [iff0.mp s, en_zer] at nk
      exact nk rfl
    have vA : VecS q m ((H ++ [(k, axp q t (redM q H v) (zer m))]).map (·.2)) := fun b hb => by
      rw [List.map_append] at hb
      rcases List.mem_append.mp hb with hb | hb
      · exact h.vec b hb
      · rw [List.mem_singleton.mp hb]; exact vn
    have subA : ∀ b ∈ H.map (·.2), b ∈ (H ++ [(k, axp q t (redM q H v) (zer m))]).map (·.2) := fun b hb => by rw [List.map_append]; exact List.mem_append_left _ hb
    have sn : Spn q m ((H ++ [(k, axp q t (redM q H v) (zer m))]).map (·.2)) (axp q t (redM q H v) (zer m)) := .self hp0 vA (by simp)
    -- the reduced row is spanned by the scaled one
    have back : redM q H v = axp q (en (redM q H v) k) (axp q t (redM q H v) (zer m)) (zer m) := vec_ext h1 (vec_axp hp0 vn.1 (zer_len m)) fun i hi => by
      rw [en_axp vn.1 (zer_len m) hi, en1 i hi, en_zer, Int.add_zero, Int.emod_emod_of_dvd _ (Int.dvd_refl _), Int.mul_emod, Int.emod_emod_of_dvd _ (Int.dvd_refl _), ← Int.mul_emod, ← Int.mul_assoc, Int.mul_comm (en (redM q H v) k), Int.mul_emod, ht, Int.one_mul, Int.emod_emod_of_dvd _ (Int.dvd_refl _)]
    have sA : Spn q m ((H ++ [(k, axp q t (redM q H v) (zer m))]).map (·.2)) (redM q H v) := by
      have c := Spn.comb hp0 vA (en (redM q H v) k) sn .zero
      rw [← back] at c
      exact c
    have sv2 : Spn q m ((H ++ [(k, axp q t (redM q H v) (zer m))]).map (·.2)) v := (h4 _ vA fun a ha => (inH a ha).mono subA).mp sA
    refine ⟨vA, fun a ha => ?_, List.pairwise_append.mpr ⟨h.low, List.pairwise_singleton _ _, fun a ha b hb => ?_⟩, fun a ha => ?_, fun w => ⟨fun s => s.trans hp0 hvX fun b hb => ?_, fun s => s.trans hp0 vA fun b hb => ?_⟩, by rw [rkS_out nsp, List.length_append, List.length_singleton, h.cnt]⟩
    · rcases List.mem_append.mp ha with ha | ha
      · exact h.one a ha
      · rw [List.mem_singleton.mp ha]
        show en (axp q t (redM q H v) (zer m)) k = 1
        rw [en1 k hkm]
        exact ht
    · rw [List.mem_singleton.mp hb]
      show en (axp q t (redM q H v) (zer m)) a.1 = 0
      rw [en1 _ (h.lt a ha), h2 a ha, Int.mul_zero]
      exact Int.zero_emod _
    · rcases List.mem_append.mp ha with ha | ha
      · exact h.lt a ha
      · rw [List.mem_singleton.mp ha]; exact hkm
    · rw [List.map_append] at hb
      rcases List.mem_append.mp hb with hb | hb
      · obtain ⟨a, ha, rfl⟩ := List.mem_map.mp hb
        exact inX a ha
      · rw [List.mem_singleton.mp hb]
        exact Spn.comb hp0 hvX _ sv .zero
    · rcases List.mem_cons.mp hb with rfl | hb
      · exact sv2
      · exact ((h.sp b).mpr (.self hp0 hX hb)).mono subA
/-! ### the ranks of lots of columns -/
/-- the heads of a lot's columns -/
def tabM (q : Nat) (C : Nat → List Int) (n x : Nat) : List (Nat × List Int) := (ptsN n x).foldl (fun H p => addM q H (C p)) []
theorem tabM_fold {q : Nat} (hq : 1 < q) (ip : Inv1 q) {C : Nat → List Int} (hC : ∀ p, Vec q m (C p)) : ∀ (L : List Nat) (X : List (List Int)) (H : List (Nat × List Int)), VecS q m X → TP q m X H → TP q m ((L.map C).reverse ++ X) (L.foldl (fun H p => addM q H (C p)) H)
  | [], X, H, _, h => h
  | a :: L, X, H, hX, h => by
    have := tabM_fold hq ip hC L (C a :: X) (addM q H (C a)) (vec_cons hX (hC a)) (h.add hq ip hX (hC a))
    rw [List.map_cons, List.reverse_cons, List.append_assoc]
    exact this
/-- the number of a lot -/
noncomputable def rkC (q m : Nat) (C : Nat → List Int) (L : List Nat) : Nat := rkS q m (L.map C)
theorem vecC {q : Nat} {C : Nat → List Int} (hC : ∀ p, Vec q m (C p)) (L : List Nat) : VecS q m (L.map C) := fun b hb => by
  obtain ⟨a, _, rfl⟩ := List.mem_map.mp hb
  exact hC a
theorem tabM_rank {q : Nat} (hq : 1 < q) (ip : Inv1 q) {C : Nat → List Int} (hC : ∀ p, Vec q m (C p)) (n x : Nat) : (tabM q C n x).length = rkC q m C (ptsN n x) := by
  have t := tabM_fold hq ip hC (ptsN n x) [] [] (fun b hb => by cases hb) (TP.nil q m)
  rw [List.append_nil] at t
  have e := t.cnt
  unfold tabM rkC
  rw [e]
  exact rkS_perm (by omega) ip (List.reverse_perm _) (fun b hb => vecC hC _ b (List.mem_reverse.mp hb))
theorem tabM_top {q : Nat} {C : Nat → List Int} {n x p : Nat} {Q : List Nat} (e : ptsN n x = Q ++ [p]) (e2 : ptsN n (x - 2 ^ p) = Q) : tabM q C n x = addM q (tabM q C n (x - 2 ^ p)) (C p) := by
  unfold tabM
  rw [e, e2, List.foldl_append]
  rfl
end
end Z
set_option Elab.async false
set_option linter.all false
set_option maxRecDepth 100000
set_option maxHeartbeats 4000000
/-! Z45: a loop that looks for the first thing of a kind and returns it. -/
namespace Z
open PySem PySem.Spec PyProof.Rows L2
section
variable {K : PySem.W.Frag} {S : Option (Addr × Addr)}
/-- a starred list or tuple of things without lists -/
def dStarS (m : DM) (ms : DMs) : DMs := fun ρ R => m ρ fun d => asSeq d fun xs => solids xs = true ∧ ms ρ fun ds => R (xs ++ ds)
end
end Z
set_option Elab.async false
set_option linter.all false
set_option maxRecDepth 100000
set_option maxHeartbeats 4000000
/-! Z46: x.bit_length(), x ^= e, a copy of a dict with keys that are ints or texts. -/
namespace Z
open PySem PySem.Spec PyProof.Rows L2
section
variable {K : PySem.W.Frag} {S : Option (Addr × Addr)}
def dBits (m : DM) : DM := fun ρ R => m ρ fun d => asI d fun i => R (.int ((Builtin.Int.intBits i : Nat) : Int))
/-- dict(d), its keys ints or texts, its values without lists of their own -/
def fDictCp : List D → (D → Prop) → Prop := fun ds R => match ds with
  | [d] => ∃ kvs, IsDc d kvs ∧ (∃ kk : List Key, kvs.map (·.1) = kk.map keyD) ∧ (∀ p ∈ kvs, solid p.2 = true) ∧ R (.dict kvs)
  | _ => False
end
end Z
set_option Elab.async false
set_option linter.all false
set_option maxRecDepth 100000
set_option maxHeartbeats 4000000
/-! Z47: dict displays whose keys are unlike ints or texts, whose values hold no lists of their own. -/
namespace Z
open PySem PySem.Spec PyProof.Rows L2
section
variable {K : PySem.W.Frag} {S : Option (Addr × Addr)}
def dPairs (ρ : En) : List (DM × DM) → (List (D × D) → Prop) → Prop
  | [], R => R []
  | (mk, mv) :: ms, R => mk ρ fun k => (∃ kk : Key, k = keyD kk) ∧ mv ρ fun v => solid v = true ∧ dPairs ρ ms fun ps => R ((k, v) :: ps)
/-- a dict display -/
def dDisp (ms : List (DM × DM)) : DM := fun ρ R => dPairs ρ ms fun ps => ∃ kk : List Key, ps.map (·.1) = kk.map keyD ∧ kk.Nodup ∧ ps.length ≤ 15 ∧ R (.dict ps)
/-- x = y, y an own list or dict that is not asked for again: what y held is x's own now -/
def sMove (i j : Nat) : DMS := fun ρ R => ∃ d, ρ[j]? = some (.own d) ∧ R.nx ((hide [j] ρ).set i (.own d))
end
end Z
set_option Elab.async false
set_option linter.all false
set_option maxRecDepth 100000
set_option maxHeartbeats 4000000
/-! Z48: min of a list of any data that can be compared. -/
namespace Z
open PySem PySem.Spec PyProof.Rows L2 PySem.W
section
variable {K : PySem.W.Frag} {S : Option (Addr × Addr)}
def fMinD : List D → (D → Prop) → Prop := fun ds R => match ds with
  | [.list (x :: r)] => solids (x :: r) = true ∧ PyData.plainAll (x :: r) = true ∧ AlikeAll (x :: r) ∧ PyData.depthAll (x :: r) ≤ 50 ∧ R (minD x r)
  | _ => False
end
end Z
set_option Elab.async false
set_option linter.all false
set_option maxRecDepth 100000
set_option maxHeartbeats 4000000
/-! G33: anything as a rank table: its first fault. -/
set_option Elab.async false
set_option linter.all false
set_option maxRecDepth 100000
set_option maxHeartbeats 4000000
/-! G34: code papers of a table: the told base, the first four, a paper. -/
set_option Elab.async false
set_option linter.all false
set_option maxRecDepth 100000
set_option maxHeartbeats 4000000
/-! G35: rows told as numbers, kept by their greatest bit: a base of what they span; ranks of all lots of places. -/
namespace Z
open PySem PySem.Spec PyProof.Rows L2
section
variable {m : Nat} {H X : List (List Bool)}
theorem top_high : ∀ {v : List Bool} {p : Nat}, top v < p → gt v p = false
  | [], p, _ => rfl
  | b :: bs, p, h => by
    unfold top at h
    cases p with
    | zero => split at h <;> omega
    | succ p =>
      rw [gt_cons]
      by_cases c : bs.contains true = true
      · rw [if_pos c] at h
        exact top_high (by omega)
      · rw [if_neg c] at h
        have hz : bs = nul bs.length := not_nul rfl fun z => c (List.contains_iff_mem.mpr z)
        rw [hz, gt_nul]
theorem top_is {v : List Bool} {p : Nat} (h1 : gt v p = true) (h2 : ∀ q, p < q → gt v q = false) : top v = p := by
  have ht : true ∈ v := by
    have hp : p < v.length := Classical.byContradiction fun z => by rw [gt_out (by omega)] at h1; cases h1
    unfold gt at h1
    rw [List.getD_eq_getElem?_getD, List.getElem?_eq_getElem hp] at h1
    exact h1 ▸ List.getElem_mem hp
  have h3 := top_gt ht
  rcases Nat.lt_trichotomy (top v) p with c | c | c
  · rw [top_high c] at h1; cases h1
  · exact c
  · rw [h2 _ c] at h3; cases h3
theorem gt_any {v : List Bool} {p : Nat} (h1 : gt v p = true) : true ∈ v := by
  have hp : p < v.length := Classical.byContradiction fun z => by rw [gt_out (by omega)] at h1; cases h1
  unfold gt at h1
  rw [List.getD_eq_getElem?_getD, List.getElem?_eq_getElem hp] at h1
  exact h1 ▸ List.getElem_mem hp
theorem top_xr {a b : List Bool} (l : a.length = b.length) (ha : true ∈ a) (hb : true ∈ b) (ne : top a ≠ top b) : true ∈ xr a b ∧ (top (xr a b) = top a ∨ top (xr a b) = top b) := by
  rcases Nat.lt_or_gt_of_ne ne with c | c
  · have g : gt (xr a b) (top b) = true := by rw [gt_xr l, top_high c, top_gt hb]; rfl
    exact ⟨gt_any g, .inr (top_is g fun q hq => by rw [gt_xr l, top_high (by omega), top_high hq]; rfl)⟩
  · have g : gt (xr a b) (top a) = true := by rw [gt_xr l, top_high c, top_gt ha]; rfl
    exact ⟨gt_any g, .inl (top_is g fun q hq => by rw [gt_xr l, top_high hq, top_high (v := b) (by omega)]; rfl)⟩
/-! ### bases with unlike greatest bits -/
structure DH (m : Nat) (H : List (List Bool)) : Prop where
  len : Len m H
  any : ∀ h ∈ H, true ∈ h
  nd : (H.map top).Nodup
theorem DH.nil : DH m [] := ⟨fun h z => (by cases z), fun h z => (by cases z), .nil⟩
theorem DH.tail {h : List Bool} (d : DH m (h :: H)) : DH m H := ⟨fun x hx => d.len x (List.mem_cons_of_mem _ hx), fun x hx => d.any x (List.mem_cons_of_mem _ hx), (List.nodup_cons.mp d.nd).2⟩
/-- what such a base spans has one of its greatest bits -/
theorem DH.tops : ∀ {H : List (List Bool)}, DH m H → ∀ {v : List Bool}, Sp m H v → v ≠ nul m → true ∈ v ∧ ∃ h ∈ H, top h = top v
  | [], _, v, s, ne => absurd (sp_nil s) ne
  | h :: H, d, v, s, ne => by
    have lh := d.len h (List.mem_cons_self ..)
    have hh := d.any h (List.mem_cons_self ..)
    rcases sp_split lh d.tail.len s with z | ⟨w, z, rfl⟩
    · obtain ⟨h1, a, ha, e⟩ := d.tail.tops z ne
      exact ⟨h1, a, List.mem_cons_of_mem _ ha, e⟩
    · by_cases c : w = nul m
      · subst c
        rw [xr_nul lh]
        exact ⟨hh, h, List.mem_cons_self .., rfl⟩
      · obtain ⟨h1, a, ha, e⟩ := d.tail.tops z c
        have lw : w.length = m := z.len d.tail.len
        have ne2 : top h ≠ top w := fun q => (List.nodup_cons.mp d.nd).1 (List.mem_map.mpr ⟨a, ha, by rw [e, q]⟩)
        obtain ⟨g1, g2⟩ := top_xr (by rw [lh, lw]) hh h1 ne2
        refine ⟨g1, ?_⟩
        rcases g2 with g2 | g2
        · exact ⟨h, List.mem_cons_self .., g2.symm⟩
        · exact ⟨a, List.mem_cons_of_mem _ ha, by rw [e, g2]⟩
theorem DH.out (d : DH m H) {v : List Bool} (hv : true ∈ v) (lv : v.length = m) (h : top v ∉ H.map top) : ¬ Sp m H v := fun s => by
  obtain ⟨_, a, ha, e⟩ := d.tops s (fun z => by rw [z] at hv; exact absurd hv (fun q => by have := top_gt q; rw [gt_nul] at this; cases this))
  exact h (List.mem_map.mpr ⟨a, ha, e⟩)
theorem DH.add (d : DH m H) {v : List Bool} (hv : true ∈ v) (lv : v.length = m) (h : top v ∉ H.map top) : DH m (H ++ [v]) := by
  refine ⟨fun x hx => ?_, fun x hx => ?_, ?_⟩
  · rcases List.mem_append.mp hx with z | z
    · exact d.len x z
    · rw [List.mem_singleton.mp z]; exact lv
  · rcases List.mem_append.mp hx with z | z
    · exact d.any x z
    · rw [List.mem_singleton.mp z]; exact hv
  · rw [List.map_append]
    refine List.nodup_append.mpr ⟨d.nd, List.pairwise_singleton _ _, fun a ha b hb => ?_⟩
    rw [List.map_singleton, List.mem_singleton] at hb
    rintro rfl
    exact h (hb ▸ ha)
theorem DH.ind : ∀ (k : Nat) {H : List (List Bool)}, H.length = k → DH m H → Ind m H
  | 0, H, l, d => by rw [List.eq_nil_of_length_eq_zero l]; exact ind_nil
  | k + 1, H, l, d => by
    have ne : H ≠ [] := fun z => by rw [z] at l; cases l
    have e := List.dropLast_concat_getLast ne
    have d1 : DH m H.dropLast := ⟨fun x hx => d.len x ((List.dropLast_sublist H).subset hx), fun x hx => d.any x ((List.dropLast_sublist H).subset hx), by
      have := d.nd
      exact List.Nodup.sublist ((List.dropLast_sublist H).map top) this⟩
    have i1 := DH.ind k (by rw [List.length_dropLast]; omega) d1
    have hl := List.getLast_mem ne
    have nd := d.nd
    rw [← e, List.map_append] at nd
    rw [← e]
    refine ind_snoc d1.len (d.len _ hl) i1 (d1.out (d.any _ hl) (d.len _ hl) fun z => ?_)
    exact (List.nodup_append.mp nd).2.2 _ z _ (by simp) rfl
/-- the rank by such a base -/
theorem DH.rank (d : DH m H) (hX : Len m X) (e : ∀ v, Sp m H v ↔ Sp m X v) : H.length = rkN X := rk_ind hX d.len (d.ind _ rfl) e
/-! ### such a base as a dict -/
def bsK (H : List (List Bool)) : List (Nat × Nat) := H.map fun h => (top h + 1, numB h)
theorem bsK_keys (H : List (List Bool)) : (bsK H).map (·.1) = (H.map top).map (· + 1) := by
  unfold bsK
  rw [List.map_map, List.map_map]
  rfl
theorem DH.keys (d : DH m H) : ((bsK H).map (·.1)).Nodup := by
  rw [bsK_keys]
  exact List.pairwise_map.mpr (d.nd.imp fun h e => h (by omega))
end
end Z
set_option Elab.async false
set_option linter.all false
set_option maxRecDepth 100000
set_option maxHeartbeats 4000000
/-! G36: the least widest and the least total of all orders, lot by lot; bounds of widths. -/
namespace Z
open PySem PySem.Spec PyProof.Rows L2
/-! ### lots of few places -/
section
variable {n : Nat} {B S P : List (List Bool)}
def wtN (v : List Bool) : Nat := (idxs v).length
end
theorem ones_sum : ∀ v : List Bool, (rowI v).sum = ((wtN v : Nat) : Int)
  | [] => rfl
  | b :: v => by
    have ih := ones_sum v
    unfold wtN at ih ⊢
    rw [idxs_cons, List.length_append, List.length_map]
    unfold rowI at ih ⊢
    rw [List.map_cons, List.sum_cons, ih]
    cases b <;> simp [bI] <;> omega
end Z
set_option Elab.async false
set_option linter.all false
set_option maxRecDepth 100000
set_option maxHeartbeats 4000000
/-! G37: all orders of places; the least of their greatest widths, and of their sums, are the worths of all lots. -/
set_option Elab.async false
set_option linter.all false
set_option maxRecDepth 100000
set_option maxHeartbeats 4000000
/-! G38: told orders, by the least worths of all lots. -/
set_option Elab.async false
set_option linter.all false
set_option maxRecDepth 100000
set_option maxHeartbeats 4000000
/-! Z49: dict(list of pairs), keys ints or texts, values without lists of their own; len of it; len(set(list of ints)). -/
namespace Z
open PySem PySem.Spec PyProof.Rows L2
section
variable {K : PySem.W.Frag} {S : Option (Addr × Addr)}
/-- pairs as data -/
def kpD (qs : List (Key × D)) : List D := qs.map fun q => .tuple [keyD q.1, q.2]
/-- a dict's items over the layer and over values -/
inductive KvR (c : Zc) (H : Hp) : List (Key × D) → List (Key × V) → Prop
  | nil : KvR c H [] []
  | cons {k : Key} {d : D} {x : V} {qs : List (Key × D)} {vs : List (Key × V)} : Rp c H d x [] → KvR c H qs vs → KvR c H ((k, d) :: qs) ((k, x) :: vs)
theorem KvR.mono {c : Zc} {H H' : Hp} (t : Tk H H') : ∀ {qs : List (Key × D)} {vs : List (Key × V)}, KvR c H qs vs → KvR c H' qs vs
  | _, _, .nil => .nil
  | _, _, .cons r h => .cons (r.mono t _ _ _ fun a ha => by cases ha) (h.mono t)
theorem KvR.keys {c : Zc} {H : Hp} : ∀ {qs : List (Key × D)} {vs : List (Key × V)}, KvR c H qs vs → vs.map (·.1) = qs.map (·.1)
  | _, _, .nil => rfl
  | _, _, .cons _ h => by simp [h.keys]
theorem KvR.app {c : Zc} {H : Hp} : ∀ {qs qs2 : List (Key × D)} {vs vs2 : List (Key × V)}, KvR c H qs vs → KvR c H qs2 vs2 → KvR c H (qs ++ qs2) (vs ++ vs2)
  | _, _, _, _, .nil, h2 => h2
  | _, _, _, _, .cons r h, h2 => .cons r (h.app h2)
theorem KvR.zip {c : Zc} {H : Hp} : ∀ {qs : List (Key × D)} {vs : List (Key × V)}, KvR c H qs vs → vs = (qs.map (·.1)).zip (vs.map (·.2))
  | _, _, .nil => rfl
  | _, _, .cons r h => by
    simp only [List.map_cons, List.zip_cons_cons]
    rw [← h.zip]
/-- dict(list of pairs) -/
def fDictP : List D → (D → Prop) → Prop := fun ds R => match ds with
  | [d] => ∃ qs : List (Key × D), d = .list (kpD qs) ∧ (∀ q ∈ qs, solid q.2 = true) ∧ R (.dict ((aMerge qs).map fun q => (keyD q.1, q.2)))
  | _ => False
/-- len(dict(pairs)) -/
def dLenDictK (m : DM) : DM := fun ρ R => m ρ fun d => ∃ qs : List (Key × D), d = .list (kpD qs) ∧ (∀ q ∈ qs, solid q.2 = true) ∧ R (.int (((aMerge qs).length : Nat) : Int))
end
/-! ### len(set(xs)) -/
def metI (ns : List Int) : List Int := firstMet (fun i => ns.getD i 0) ns.length
section
variable {K : PySem.W.Frag} {S : Option (Addr × Addr)}
/-- len(set(list of ints)): as many as there are unlike ones -/
def dLenSetI (m : DM) : DM := fun ρ R => m ρ fun d => ∃ ns : List Int, d = .list (ns.map .int) ∧ ns.length ≤ 4000 ∧ R (.int (((metI ns).length : Nat) : Int))
end
end Z
set_option Elab.async false
set_option linter.all false
set_option maxRecDepth 100000
set_option maxHeartbeats 4000000
/-! G39: lots of pairs of places: how they are put in order, which are span lots; free numbers; rows with their heads. -/
namespace Z
open PySem PySem.Spec PyProof.Rows L2
/-! ### as many as there are unlike ones -/
/-! ### numbers put in order, with equal ones -/
/-! ### pairs of places -/
/-! ### span lots -/
/-- pairs of places below n, the first one not greater -/
def PrOk (n : Nat) (p : Nat × Nat) : Prop := p.1 ≤ p.2 ∧ p.2 < n
instance (n : Nat) (p : Nat × Nat) : Decidable (PrOk n p) := inferInstanceAs (Decidable (_ ∧ _))
/-- pairs whose firsts are unlike, whose lasts are unlike -/
structure Apart (n : Nat) (L : List (Nat × Nat)) : Prop where
  ok : ∀ p ∈ L, PrOk n p
  fst : (L.map Prod.fst).Nodup
  snd : (L.map Prod.snd).Nodup
theorem Apart.len {n : Nat} {L : List (Nat × Nat)} (h : Apart n L) : L.length ≤ n := by
  have := pigeon n _ h.snd fun x hx => by
    obtain ⟨p, hp, rfl⟩ := List.mem_map.mp hx
    exact (h.ok p hp).2
  rwa [List.length_map] at this
theorem Apart.perm {n : Nat} {L M : List (Nat × Nat)} (h : Apart n L) (p : M.Perm L) : Apart n M :=
  ⟨fun q hq => h.ok q (p.mem_iff.mp hq), (p.map _).nodup_iff.mpr h.fst, (p.map _).nodup_iff.mpr h.snd⟩
/-! ### free numbers -/
/-! ### rows with their heads -/
end Z
set_option Elab.async false
set_option linter.all false
set_option maxRecDepth 100000
set_option maxHeartbeats 4000000
/-! Z50: sorted of what is collected in a sequence that is not told ahead (sets). -/
set_option Elab.async false
set_option linter.all false
set_option maxRecDepth 100000
set_option maxHeartbeats 4000000
/-! Z51: sorted(set(list of tuples of ints)). -/
set_option Elab.async false
set_option linter.all false
set_option maxRecDepth 100000
set_option maxHeartbeats 4000000
/-! Z52: sorted(set(list of tuples of ints)) over data. -/
namespace Z
open PySem PySem.Spec PyProof.Rows L2
section
variable {K : PySem.W.Frag} {S : Option (Addr × Addr)} {P : Program} {w : World}
/-- sorted(set(xs)), xs a list of tuples of ints, none empty -/
def dSortSetT (m : DM) : DM := fun ρ R => m ρ fun d => ∃ Ls : List (List Int), d = .list (Ls.map tI) ∧ Ls.length < 64 ∧ (∀ r ∈ Ls, r ≠ []) ∧ ∀ Ms : List (List Int), (∀ x, x ∈ Ms ↔ x ∈ Ls) → Ms.length ≤ Ls.length → Ms.Pairwise (· < ·) → R (.list (Ms.map tI))
end
end Z
set_option Elab.async false
set_option linter.all false
set_option maxRecDepth 100000
set_option maxHeartbeats 4000000
/-! Z53: sorted of a list of tuples the first of which is empty. -/
namespace PySem.SeqAt
end PySem.SeqAt
namespace PySem.W
open PySem PySem.Calls PyProof.Rows PySem.SeqAt
section
variable {prog : Program} {w : World} {A : Around} {E : Value → Shared → Prop} {s : Shared}
/-- the first is empty, all are tuples -/
def Sort0 (ds : List PyData) : Prop := (∃ r, ds = .tuple [] :: r) ∧ ∀ d ∈ ds, ∃ xs, d = .tuple xs
end
end PySem.W
set_option Elab.async false
set_option linter.all false
set_option maxRecDepth 100000
set_option maxHeartbeats 4000000
/-! Z54: sorted of a list of tuples the first of which is empty: the call, and over data. -/
namespace Z
open PySem PySem.Spec PyProof.Rows L2
def SortOk0 (ds : List D) : Prop := PyData.plainAll ds = true ∧ PySem.W.AllAlike ds ∧ PySem.W.Sort0 ds ∧ ds.length ≤ 10000000 ∧ PyData.depthAll ds ≤ 50
section
variable {K : PySem.W.Frag} {S : Option (Addr × Addr)}
def fSorted0 : List D → (D → Prop) → Prop := fun ds R => match ds with
  | [d] => ∃ xs, IsL d xs ∧ solids xs = true ∧ SortOk0 xs ∧ R (.list (sortD false xs))
  | _ => False
end
end Z
set_option Elab.async false
set_option linter.all false
set_option maxRecDepth 100000
set_option maxHeartbeats 4000000
/-! G40: span lots and partings, there and back. -/
namespace Z
open PySem PySem.Spec PyProof.Rows L2
theorem len_filter {α : Type} (f : α → Bool) : ∀ L : List α, (L.filter f).length + (L.filter fun x => !f x).length = L.length
  | [] => rfl
  | a :: L => by
    have := len_filter f L
    cases c : f a <;> simp [c] <;> omega
/-! ### what goes on from a place, and its root -/
/-! ### chains -/
/-! ### partings -/
/-! ### names joined -/
end Z
set_option Elab.async false
set_option linter.all false
set_option maxRecDepth 100000
set_option maxHeartbeats 4000000
/-! G41: all span lots, all partings, how many codes. -/
namespace Z
open PySem PySem.Spec PyProof.Rows L2
/-! ### all of them -/
theorem perm_sub {α : Type} [DecidableEq α] : ∀ {E A : List α}, E.Nodup → (∀ x ∈ E, x ∈ A) → A.length ≤ E.length → A.Perm E
  | [], A, _, _, h => by
    have : A = [] := List.eq_nil_of_length_eq_zero (by simpa using h)
    rw [this]
  | e :: E, A, nd, hs, hl => by
    obtain ⟨n1, n2⟩ := List.nodup_cons.mp nd
    have he := hs e (List.mem_cons_self ..)
    have l := List.length_erase_of_mem he
    have l2 := List.length_pos_of_mem he
    rw [List.length_cons] at hl
    refine (List.perm_cons_erase he).trans (List.Perm.cons e (perm_sub n2 (fun x hx => ?_) (by omega)))
    exact (List.mem_erase_of_ne fun (z : x = e) => n1 (by rw [← z]; exact hx)).mpr (hs x (List.mem_cons_of_mem _ hx))
theorem cast_sum : ∀ L : List Nat, ((L.sum : Nat) : Int) = (L.map fun k => ((k : Nat) : Int)).sum
  | [] => rfl
  | a :: L => by
    have := cast_sum L
    simp only [List.sum_cons, List.map_cons]
    omega
/-! ### lots put in order -/
end Z
namespace Z
open PySem PySem.Spec PyProof.Rows L2
/-! ### small tools -/
theorem at_map {α : Type} {f : α → D} {L : List α} {k : Nat} {i : Int} (e : i = (k : Int)) (h : k < L.length) : atI (L.map f) i = some (f L[k]) := atI_ok (by rw [List.getElem?_map, List.getElem?_eq_getElem h]; rfl) e
theorem map_at {α : Type} {f : α → D} {P : List α} {i : Nat} {x : D} (h : (P.map f)[i]? = some x) : ∃ B ∈ P, P[i]? = some B ∧ x = f B := by
  rw [List.getElem?_map] at h
  obtain ⟨B, hB, rfl⟩ := Option.map_eq_some_iff.mp h
  exact ⟨B, List.mem_of_getElem? hB, hB, rfl⟩
end Z
set_option Elab.async false
set_option linter.all false
set_option maxRecDepth 100000
set_option maxHeartbeats 4000000
/-! G42: ranks of lots of places with no four: told by one base lot and its changes. -/
namespace Z
open PySem PySem.Spec PyProof.Rows L2
structure Mt (r : List Nat → Nat) : Prop where
  nil : r [] = 0
  perm : ∀ {L M : List Nat}, L.Perm M → r L = r M
  more : ∀ (p : Nat) (L : List Nat), r L ≤ r (p :: L) ∧ r (p :: L) ≤ r L + 1
  both : ∀ (p q : Nat) (L : List Nat), r (p :: L) = r L → r (q :: L) = r L → r (p :: q :: L) = r L
  dup : ∀ (p : Nat) (L : List Nat), r (p :: p :: L) = r (p :: L)
section
variable {r : List Nat → Nat} (M : Mt r)
include M
theorem Mt.up (A L : List Nat) : r L ≤ r (A ++ L) := by
  induction A with
  | nil => exact Nat.le_refl _
  | cons a A ih => exact Nat.le_trans ih (M.more a (A ++ L)).1
theorem Mt.add (A L : List Nat) : r (A ++ L) ≤ r L + A.length := by
  induction A with
  | nil => exact Nat.le_refl _
  | cons a A ih =>
    have := (M.more a (A ++ L)).2
    rw [List.cons_append, List.length_cons]
    omega
theorem Mt.len (L : List Nat) : r L ≤ L.length := by
  have := M.add L []
  rw [List.append_nil, M.nil] at this
  omega
theorem Mt.clo {a : Nat} {L : List Nat} (h : r (a :: L) = r L) : ∀ X : List Nat, r (a :: (X ++ L)) = r (X ++ L)
  | [] => h
  | m :: X => by
    have ih := Mt.clo h X
    have m1 := M.more m (X ++ L)
    have m2 := M.more a (m :: (X ++ L))
    have sw : r (a :: m :: (X ++ L)) = r (m :: a :: (X ++ L)) := M.perm (List.Perm.swap _ _ _)
    have m3 := M.more m (a :: (X ++ L))
    show r (a :: m :: (X ++ L)) = r (m :: (X ++ L))
    by_cases c : r (m :: (X ++ L)) = r (X ++ L)
    · have := M.both a m _ ih c
      omega
    · omega
theorem Mt.mem {e : Nat} {L : List Nat} (h : e ∈ L) : r (e :: L) = r L := by
  have p := List.perm_cons_erase h
  rw [M.perm (p.cons e), M.dup, M.perm p]
theorem Mt.sub {A L : List Nat} (h : r (A ++ L) = (A ++ L).length) : r L = L.length := by
  have := M.add A L
  have := M.len L
  rw [List.length_append] at h
  omega
/-- a free lot within -/
theorem Mt.free (L : List Nat) : ∃ I : List Nat, I.Sublist L ∧ r I = I.length ∧ r I = r L := by
  induction L with
  | nil => exact ⟨[], List.Sublist.refl _, M.nil, rfl⟩
  | cons a L ih =>
    obtain ⟨I, s, f, e⟩ := ih
    have ml := M.more a L
    have mi := M.more a I
    by_cases c : r (a :: L) = r L
    · exact ⟨I, s.cons a, f, by omega⟩
    · refine ⟨a :: I, s.cons₂ a, ?_, ?_⟩
      · rw [List.length_cons]
        refine Classical.byContradiction fun z => c ?_
        have z1 : r (a :: I) = r I := by omega
        -- the rest of L lies in the closure of I
        have st : ∀ e ∈ L, r (e :: I) = r I := fun x hx => by
          have m1 := M.more x I
          refine Classical.byContradiction fun y => ?_
          obtain ⟨t, p⟩ : ∃ t, L.Perm (I ++ t) := s.exists_perm_append
          have l1 : r (x :: (t ++ I)) = r (t ++ I) := M.mem (by
            have := p.mem_iff.mp hx
            rcases List.mem_append.mp this with h | h
            · exact List.mem_append_right _ h
            · exact List.mem_append_left _ h)
          have l2 : r (t ++ I) = r L := M.perm (List.perm_append_comm.trans p.symm)
          have l3 : r (x :: I) ≤ r (t ++ (x :: I)) := M.up t (x :: I)
          have l4 : r (t ++ (x :: I)) = r (x :: (t ++ I)) := M.perm List.perm_middle
          omega
        obtain ⟨t, p⟩ : ∃ t, L.Perm (I ++ t) := s.exists_perm_append
        have l2 : r (t ++ I) = r L := M.perm (List.perm_append_comm.trans p.symm)
        have l5 : r (a :: (t ++ I)) = r (t ++ I) := M.clo z1 t
        have l6 : r (a :: L) = r (a :: (t ++ I)) := M.perm ((p.trans List.perm_append_comm).cons a)
        omega
      · refine Classical.byContradiction fun z => c ?_
        have z1 : r (a :: I) = r I := by omega
        obtain ⟨t, p⟩ : ∃ t, L.Perm (I ++ t) := s.exists_perm_append
        have l2 : r (t ++ I) = r L := M.perm (List.perm_append_comm.trans p.symm)
        have l5 : r (a :: (t ++ I)) = r (t ++ I) := M.clo z1 t
        have l6 : r (a :: L) = r (a :: (t ++ I)) := M.perm ((p.trans List.perm_append_comm).cons a)
        omega
end
end Z
set_option Elab.async false
set_option linter.all false
set_option maxRecDepth 100000
set_option maxHeartbeats 4000000
/-! G43: rank tables with no four are tables of codes; rows with units at their heads. -/
namespace Z
open PySem PySem.Spec PyProof.Rows L2
theorem perm_mem {A B : List Nat} (nA : A.Nodup) (nB : B.Nodup) (h : ∀ x, x ∈ A ↔ x ∈ B) : A.Perm B := (perm_sub nA (fun x hx => (h x).mp hx) (nodup_sub_len _ _ nB fun x hx => (h x).mpr hx)).symm
/-! ### ranks of columns, ranks of codes -/
theorem mt_code {n : Nat} {B : List (List Bool)} (hB : Len n B) (iB : Ind n B) : Mt (rkP B) := by
  refine ⟨rkP_nil, fun h => rkP_same hB iB fun p => h.mem_iff, fun p L => rkP_more hB iB fun q => by rw [List.mem_cons, or_comm], fun p q L h1 h2 => ?_, fun p L => rkP_same hB iB fun x => by simp⟩
  have s := rkP_sub hB iB (P := p :: L) (Q := q :: L) (I := L) (V := p :: q :: L) (fun x hx => ⟨List.mem_cons_of_mem _ hx, List.mem_cons_of_mem _ hx⟩) (fun x hx => by simp only [List.mem_cons] at hx ⊢; rcases hx with h | h | h <;> simp [h])
  have := rkP_mono hB iB (P := L) (Q := p :: q :: L) fun x hx => by simp [hx]
  omega
/-! ### rows with units at their heads -/
structure Units (n : Nat) (H : List Nat) (row : Nat → List Bool) : Prop where
  nd : H.Nodup
  lt : ∀ h ∈ H, h < n
  len : ∀ h ∈ H, (row h).length = n
  one : ∀ h ∈ H, ∀ g ∈ H, gt (row h) g = (h == g)
section
variable {n : Nat} {H : List Nat} {row : Nat → List Bool} (U : Units n H row)
include U
theorem Units.lens : Len n (H.map row) := fun r hr => by
  obtain ⟨h, hh, rfl⟩ := List.mem_map.mp hr
  exact U.len h hh
theorem Units.ind : Ind n (H.map row) := by
  have e : (H.map fun h => (h, row h)).map (·.2) = H.map row := by rw [List.map_map]; rfl
  have := ind_units (n := n) (H.map fun h => (h, row h)) (by rw [e]; exact U.lens) (List.pairwise_map.mpr (List.Pairwise.imp_of_mem (fun {a b} ha hb z => by
    show gt (row b) a = false
    rw [U.one b hb a ha]
    exact beq_eq_false_iff_ne.mpr (Ne.symm z)) U.nd)) (fun a ha => by
    obtain ⟨h, hh, rfl⟩ := List.mem_map.mp ha
    show gt (row h) h = true
    rw [U.one h hh h hh]
    exact beq_self_eq_true h)
  rwa [e] at this
theorem Units.par {h : Nat} (hh : h ∈ H) (f : Nat → Bool) : ∀ L : List Nat, L.Nodup → (∀ x ∈ L, x ∈ H) → parF f L (row h) = (L.contains h && f h)
  | [], _, _ => rfl
  | p :: L, nd, sub => by
    have ih := Units.par hh f L (List.nodup_cons.mp nd).2 fun x hx => sub x (List.mem_cons_of_mem _ hx)
    rw [parF_cons, ih, U.one h hh p (sub p (List.mem_cons_self ..)), List.contains_cons]
    by_cases c : h = p
    · subst c
      have : L.contains h = false := by
        rw [← Bool.not_eq_true, List.contains_iff_mem]
        exact (List.nodup_cons.mp nd).1
      rw [this]
      simp
    · have : (h == p) = false := beq_eq_false_iff_ne.mpr c
      rw [this]
      simp
theorem Units.free {L : List Nat} (nd : L.Nodup) (sub : ∀ x ∈ L, x ∈ H) : rkP (H.map row) L = L.length := by
  refine Nat.le_antisymm ((mt_code U.lens U.ind).len L) (Nat.not_lt.mp fun z => ?_)
  obtain ⟨f, ⟨p, hp, fp⟩, rel⟩ := (dep_iff U.lens nd).mp z
  have := rel (row p) (List.mem_map.mpr ⟨p, sub p hp, rfl⟩)
  rw [U.par (sub p hp) f L nd sub, fp, Bool.and_true, ← Bool.not_eq_true, List.contains_iff_mem] at this
  exact this hp
theorem Units.more {L : List Nat} (nd : L.Nodup) (sub : ∀ x ∈ L, x ∈ H) {e : Nat} (he : e ∉ H) : rkP (H.map row) (e :: L) = L.length + 1 ↔ ∃ h ∈ H, h ∉ L ∧ gt (row h) e = true := by
  have neL : e ∉ L := fun z => he (sub e z)
  have nd2 : (e :: L).Nodup := List.nodup_cons.mpr ⟨neL, nd⟩
  have up := (mt_code U.lens U.ind).len (e :: L)
  rw [List.length_cons] at up
  constructor
  · intro z
    refine Classical.byContradiction fun c => ?_
    have : rkP (H.map row) (e :: L) < (e :: L).length := (dep_iff U.lens nd2).mpr ⟨fun p => if p = e then true else gt (row p) e, ⟨e, List.mem_cons_self .., if_pos rfl⟩, fun b hb => by
      obtain ⟨h, hh, rfl⟩ := List.mem_map.mp hb
      rw [parF_cons, U.par hh _ L nd sub, if_pos rfl, if_neg (fun (y : h = e) => he (y ▸ hh))]
      by_cases y : h ∈ L
      · rw [List.contains_iff_mem.mpr y]
        simp
      · have y2 : L.contains h = false := by rw [← Bool.not_eq_true, List.contains_iff_mem]; exact y
        have y3 : gt (row h) e = false := by
          cases q : gt (row h) e
          · rfl
          · exact (c ⟨h, hh, y, q⟩).elim
        rw [y2, y3]
        rfl⟩
    rw [List.length_cons] at this
    omega
  · rintro ⟨h, hh, hn, g⟩
    refine Nat.le_antisymm up (Nat.not_lt.mp fun z => ?_)
    obtain ⟨f, ⟨p, hp, fp⟩, rel⟩ := (dep_iff U.lens nd2).mp (by rw [List.length_cons]; exact z)
    have r0 := rel (row h) (List.mem_map.mpr ⟨h, hh, rfl⟩)
    have y2 : L.contains h = false := by rw [← Bool.not_eq_true, List.contains_iff_mem]; exact hn
    rw [parF_cons, U.par hh f L nd sub, y2, g, Bool.false_and, Bool.xor_false, Bool.and_true] at r0
    rcases List.mem_cons.mp hp with rfl | hp
    · rw [r0] at fp
      cases fp
    · have r1 := rel (row p) (List.mem_map.mpr ⟨p, sub p hp, rfl⟩)
      rw [parF_cons, U.par (sub p hp) f L nd sub, r0, fp, List.contains_iff_mem.mpr hp] at r1
      cases r1
end
/-! ### tables of numbers -/
/-- the table t tells the ranks r -/
def Tells (n : Nat) (t : Nat → Int) (r : List Nat → Nat) : Prop := ∀ x, x < 2 ^ n → t x = ((r (ptsN n x) : Nat) : Int)
theorem Tells.at {n : Nat} {t : Nat → Int} {r : List Nat → Nat} (T : Tells n t r) (M : Mt r) {x : Nat} (hx : x < 2 ^ n) {L : List Nat} (nd : L.Nodup) (h : ∀ q, q < n → (Nat.testBit x q = true ↔ q ∈ L)) (lt : ∀ q ∈ L, q < n) : t x = ((r L : Nat) : Int) := by
  rw [T x hx, M.perm (perm_mem (pts_nodup n x) nd fun q => ?_)]
  rw [mem_pts]
  exact ⟨fun z => (h q z.1).mp z.2, fun z => ⟨lt q z, (h q (lt q z)).mpr z⟩⟩
end Z
set_option Elab.async false
set_option linter.all false
set_option maxRecDepth 100000
set_option maxHeartbeats 4000000
/-! G44: code papers of rank tables are right; tables of codes tell the code. -/
set_option Elab.async false
set_option linter.all false
set_option maxRecDepth 100000
set_option maxHeartbeats 4000000
/-! Z55: xs[e][k] += 1, xs an own list of lists; math.comb. -/
namespace Z
open PySem PySem.Spec PyProof.Rows L2
section
variable {X : Cx}
/-- what stands at a place of a list, counted from its start -/
def rGetL0 (K : PySem.W.Frag) : V → V → Hp → VK → Prop := fun x y H Q => ∃ (p : Addr) (xs : List V) (j : Nat) (v : V), x = .ref p ∧ y = .int (j : Nat) ∧ SqL K H p xs ∧ xs[j]? = some v ∧ Q v H
theorem get_list0 : PGet X (rGetL0 X.K) := by
  intro pins s σ H o i ov iv Q I ro ri h
  obtain ⟨p, xs, j, v, rfl, rfl, hq, he, q⟩ := h
  cases ro
  obtain ⟨t, rfl⟩ := ri
  obtain ⟨its, r, pl, hz⟩ := I.list hq
  obtain ⟨w, ew, rw'⟩ := r.get he
  have hl := r.length
  have hn := line63
  have hj := (List.getElem?_eq_some_iff.mp he).1
  exact wpAny_getItem_list pl.isList (by omega) (by omega) (by simpa using ew) ⟨v, H, I, rw', q⟩
theorem pe_callBG {id : String} {r : List V → Hp → VK → Prop} {x : Str} {e : Expr} {es : List Expr} {t : TA} {nm pos : Pos} (hc : CallR X (.builtin id) r) (hg : Gl X x) (hm : X.mg x = some (.builtin id)) (ha : PA X (e :: es) t) (hdb : (x == ("__debug__" : Str)) = false := by decide)
    (he : starEach (e :: es) X.env = (false, eval e X.env) :: starEach es X.env := by rfl) (hpl : (backTo pos (starEach es X.env)).any (·.1) = false := by rfl) : PE X (.Call (.Name x nm) (e :: es) [] pos) (tCB r t) := by
  refine ⟨fun pins s σ H Q I h => ?_⟩
  refine wpAny_Call_Name_kw (ld_glob I hg hm ?_ hdb)
  exact PyProof.Rows.callWith_builtin1 (thn (ha.run pos pins s σ H _ I h) fun us s1 ⟨vs, H1, I1, r1, q1⟩ => hc pins s1 σ H1 vs us Q I1 r1 q1) he hpl
def rComb : List V → Hp → VK → Prop := fun vs H Q => ∃ a b : Nat, vs = [.int (a : Nat), .int (b : Nat)] ∧ a ≤ 9000 ∧ Q (.int (PySem.W.mcComb (a : Int) (b : Int))) H
theorem cr_comb : CallR X (.builtin "math.comb") rComb := by
  intro pins s σ H xs us Q I r h
  obtain ⟨a, b, rfl, ha, q⟩ := h
  obtain ⟨u, w', rfl, ⟨t, rfl⟩, ⟨t', rfl⟩⟩ := vals2 r
  exact PySem.W.mc_comb_v (a := a) (b := b) (by omega) (by omega) (by omega) (.inr (by omega)) rfl ⟨.int (PySem.W.mcComb (a : Int) (b : Int)), H, I.tok _, ⟨_, rfl⟩, q⟩
end
section
variable {K : PySem.W.Frag} {S : Option (Addr × Addr)}
def fComb : List D → (D → Prop) → Prop := fun ds R => ∃ a b : Nat, ds = [.int (a : Nat), .int (b : Nat)] ∧ a ≤ 9000 ∧ R (.int (PySem.W.mcComb (a : Int) (b : Int)))
theorem cd_comb : CallD K S rComb fComb := .pure fun H xs ds fp r' R hf Q q => by
  obtain ⟨a, b, rfl, ha, hR⟩ := hf
  simp only [Rps] at r'
  obtain ⟨x, ys, f1, f2, rfl, rfl, h1, y, zs, f3, f4, rfl, rfl, h2, rfl, rfl⟩ := r'
  exact ⟨a, b, by rw [rp_int h1, rp_int h2], ha, q _ _ hR int_rp⟩
theorem Rps.inner {c : Zc} {H : Hp} : ∀ {ds : List D} {xs : List V} {gp : List Addr} {j : Nat} {es : List D}, Rps c H ds xs gp → gp.Nodup → ds[j]? = some (.list es) → solids es = true →
    ∃ (b : Addr) (ys : List V), xs[j]? = some (.ref b) ∧ b ∈ gp ∧ H b = some (.lst ys) ∧ Rps c H es ys [] ∧
      ∀ (ys' : List V) (es' : List D), Rps c H es' ys' [] → Rps c (upd H b (.lst ys')) (ds.set j (.list es')) xs gp
  | [], _, _, j, _, _, _, hj, _ => by cases hj
  | d :: ds, xs, gp, 0, es, h, nd, hj, so => by
    simp only [Rps] at h
    obtain ⟨x, zs, f1, f2, rfl, rfl, h1, h2⟩ := h
    obtain rfl := Option.some.inj hj
    simp only [Rp] at h1
    obtain ⟨b, ys, g, rfl, rfl, hb, hr⟩ := h1
    have g0 := hr.solid _ _ _ so
    subst g0
    refine ⟨b, ys, rfl, by simp, hb, hr, fun ys' es' hr' => ?_⟩
    have tk : Tk H (upd H b (.lst ys')) := fun q u hu hf => by
      rw [upd_ne fun z => by rw [z, hb] at hu; cases hu; exact hf]
      exact hu
    have e1 : Rp c (upd H b (.lst ys')) (.list es') (.ref b) [b] := by
      simp only [Rp]
      exact ⟨b, ys', [], rfl, rfl, upd_same, hr'.mono tk _ _ _ fun q hq => by cases hq⟩
    exact Rps.cons e1 (h2.mono tk _ _ _ fun q hq => upd_ne fun z => (List.nodup_append.mp nd).2.2 b (by simp) q hq z.symm)
  | d :: ds, xs, gp, j + 1, es, h, nd, hj, so => by
    simp only [Rps] at h
    obtain ⟨x, zs, f1, f2, rfl, rfl, h1, h2⟩ := h
    obtain ⟨n1, n2, n3⟩ := List.nodup_append.mp nd
    obtain ⟨b, ys, k1, k2, k3, k4, k5⟩ := Rps.inner h2 n2 (j := j) (es := es) (by simpa using hj) so
    refine ⟨b, ys, by simpa using k1, List.mem_append_right _ k2, k3, k4, fun ys' es' hr' => ?_⟩
    have tk : Tk H (upd H b (.lst ys')) := fun q u hu hf => by
      rw [upd_ne fun z => by rw [z, k3] at hu; cases hu; exact hf]
      exact hu
    exact Rps.cons (h1.mono tk _ _ _ fun q hq => upd_ne fun z => n3 q hq b k2 z) (k5 ys' es' hr')
/-- xs[e][k] += y, xs an own list of lists of ints -/
def sAug2 (i : Nat) (m1 m2 me : DM) : DMS := fun ρ R => ownL ρ[i]? fun ds => m1 ρ fun d1 => ∃ (j : Nat) (es : List D), d1 = .int (j : Nat) ∧ ds[j]? = some (.list es) ∧ solids es = true ∧ m2 ρ fun d2 => ∃ (l : Nat) (x : Int), d2 = .int (l : Nat) ∧ es[l]? = some (.int x) ∧
  me ρ fun d3 => asI d3 fun y => R.nx (ρ.set i (.own (.list (ds.set j (.list (es.set l (.int (x + y))))))))
theorem ds_aug2 (i : Nat) {t1 t2 te : TE} {m1 m2 me : DM} {U V W : List Nat} (h1 : DE K S t1 m1 U) (h2 : DE K S t2 m2 V) (h3 : DE K S te me W) :
    DS K S (tAugS (tOp (rIx K) (tVar i) t1) t2 te (rGetL0 K) (ipI fun i j => i + j) rSetL) (sAug2 i m1 m2 me) [i] := fun G H ρ σ fps E R hm D d => by
  obtain ⟨ds, hi, hm⟩ := ownL_ok hm
  obtain ⟨v, ev, r, n, nd, g⟩ := E.ok i _ hi
  have r' := r
  simp only [Rp] at r'
  obtain ⟨a, xs, gp, rfl, ef, hL, rs⟩ := r'
  have ndc : (a :: gp).Nodup := by rw [← ef]; exact nd
  have nns : ∀ b ∈ a :: gp, ¬ Zc.has ⟨K, S⟩ b := fun b hb => n b (by rw [ef]; exact hb)
  have na : ¬ Zc.has ⟨K, S⟩ a := nns a (List.mem_cons_self ..)
  have ngp : NoS ⟨K, S⟩ gp := fun b hb => nns b (List.mem_cons_of_mem _ hb)
  refine ⟨.ref a, ev, h1 G H ρ σ fps E _ hm _ fun y1 w1 H1 fp1 hR1 e1 s1 r1 n1 f1 => ?_⟩
  obtain ⟨j, es, rfl, hj, so, hm2⟩ := hR1
  have E1 := E.step e1 s1
  have rs1 : Rps ⟨K, S⟩ H1 ds xs gp := rs.ext ngp e1 E.src
  have hL1 : H1 a = some (.lst xs) := e1 a _ hL na
  obtain ⟨b, ys, k1, k2, k3, k4, k5⟩ := Rps.inner rs1 (List.nodup_cons.mp ndc).2 hj so
  have nb : ¬ Zc.has ⟨K, S⟩ b := ngp b k2
  refine .inl ⟨a, xs, j, .ref b, rfl, by rw [rp_int r1], .of hL1, atI_ok k1 rfl, h2 G H1 ρ σ fps E1 _ hm2 _ fun y2 w2 H2 fp2 hR2 e2 s2 r2 n2 f2 => ?_⟩
  obtain ⟨l, x, rfl, hl, hm3⟩ := hR2
  have E2 := E1.step e2 s2
  have kb2 : H2 b = some (.lst ys) := e2 b _ k3 nb
  obtain ⟨z, gz, hz, rz, _, _⟩ := k4.at hl
  have ez := rp_int rz
  subst ez
  refine ⟨b, ys, l, .int x, rfl, by rw [rp_int r2], .of kb2, hz, h3 G H2 ρ σ fps E2 _ hm3 _ fun y3 w3 H3 fp3 hR3 e3 s3 r3 n3 f3 => ?_⟩
  obtain ⟨y, rfl, hN⟩ := asI_ok hR3
  have E3 := E2.step e3 s3
  have kb3 : H3 b = some (.lst ys) := e3 b _ kb2 nb
  have ew := rp_int r3
  subst ew
  refine ⟨x, y, rfl, rfl, b, ys, l, l, rfl, rp_int r2, kb3, ixN_nat (List.getElem?_eq_some_iff.mp hz).1, ?_⟩
  have rs3 : Rps ⟨K, S⟩ H3 ds xs gp := (rs1.ext ngp e2 s1).ext ngp e3 s2
  obtain ⟨b', ys', q1, q2, q3, q4, q5⟩ := Rps.inner rs3 (List.nodup_cons.mp ndc).2 hj so
  rw [k1] at q1
  obtain rfl : b = b' := by injection q1 with q1; injection q1
  rw [kb3] at q3
  obtain rfl : ys = ys' := by injection q3 with q3; injection q3
  have ll : l < es.length := (List.getElem?_eq_some_iff.mp hl).1
  obtain ⟨gs, w1', w2', _⟩ := Rps.set (c := ⟨K, S⟩) (H := H3) (y := .int (x + y)) (w := .int (x + y)) (fp := []) (int_rp _) q4 ll
  have gs0 : gs = [] := List.eq_nil_iff_forall_not_mem.mpr fun q hq => by rcases w2' q hq with z | z <;> cases z
  subst gs0
  have hL3 : H3 a = some (.lst xs) := e3 a _ (e2 a _ hL1 na) na
  have hab : a ≠ b := fun z => (List.nodup_cons.mp ndc).1 (z ▸ k2)
  have rr : Rp ⟨K, S⟩ (upd H3 b (.lst (ys.set l (.int (x + y))))) (.list (ds.set j (.list (es.set l (.int (x + y)))))) (.ref a) (a :: gp) := by
    simp only [Rp]
    exact ⟨a, xs, gp, rfl, rfl, by rw [upd_ne hab]; exact hL3, q5 _ _ w1'⟩
  exact d.nx _ σ _ _ hN (E3.change hi ev (by rw [ef]; exact List.mem_cons_of_mem _ k2) rr (fun q hq => .inl (by rw [ef]; exact hq)) ndc) ⟨rfl, fun _ _ => rfl⟩
end
end Z
set_option Elab.async false
set_option linter.all false
set_option maxRecDepth 100000
set_option maxHeartbeats 4000000
/-! G45: lots counted by their numbers of places; weights by ranks. -/
namespace Z
open PySem PySem.Spec PyProof.Rows L2
def chs : Nat → Nat → Nat
  | _, 0 => 1
  | 0, _ + 1 => 0
  | a + 1, b + 1 => chs a b + chs a (b + 1)
theorem chs_comb : ∀ a : Nat, a < 17 → ∀ b : Nat, b < a + 1 → PySem.W.mcComb (a : Int) (b : Int) = ((chs a b : Nat) : Int) := by decide +kernel
theorem chs_sym : ∀ a, a < 17 → ∀ b, b < a + 1 → chs a (a - b) = chs a b := by decide +kernel
theorem chs_zero (a : Nat) : chs a 0 = 1 := by cases a <;> rfl
theorem chs_big : ∀ {a b : Nat}, a < b → chs a b = 0
  | 0, b + 1, _ => rfl
  | a + 1, b + 1, h => by
    rw [chs, chs_big (a := a) (b := b) (by omega), chs_big (a := a) (b := b + 1) (by omega)]
/-! ### how many lots of so many places keep clear of a lot, or hold it -/
def clearB (n : Nat) (g : Nat → Bool) (x : Nat) : Bool := (List.range n).all fun p => !(g p && Nat.testBit x p)
def holdB (n : Nat) (g : Nat → Bool) (x : Nat) : Bool := (List.range n).all fun p => !g p || Nat.testBit x p
def onesG (n : Nat) (g : Nat → Bool) : Nat := ((List.range n).filter g).length
def noughtsG (n : Nat) (g : Nat → Bool) : Nat := ((List.range n).filter fun p => !g p).length
def cntF (n : Nat) (f : Nat → Bool) (m : Nat) : Nat := ((List.range (2 ^ n)).filter fun x => (ptsN n x).length == m && f x).length
theorem pts_low {n x : Nat} (h : x < 2 ^ n) : ptsN (n + 1) x = ptsN n x := by
  unfold ptsN
  rw [List.range_succ, List.filter_append]
  have : Nat.testBit x n = false := Nat.testBit_lt_two_pow h
  simp [this]
theorem bit_high {n x p : Nat} (hp : p < n) : Nat.testBit (2 ^ n + x) p = Nat.testBit x p := Nat.testBit_two_pow_add_gt hp x
theorem bit_top {n x : Nat} (h : x < 2 ^ n) : Nat.testBit (2 ^ n + x) n = true := by
  rw [Nat.testBit_two_pow_add_eq, Nat.testBit_lt_two_pow h]
  rfl
theorem pts_high {n x : Nat} (h : x < 2 ^ n) : ptsN (n + 1) (2 ^ n + x) = ptsN n x ++ [n] := by
  unfold ptsN
  rw [List.range_succ, List.filter_append]
  have : List.filter (fun p => Nat.testBit (2 ^ n + x) p) [n] = [n] := by simp [bit_top h]
  rw [this]
  congr 1
  exact List.filter_congr fun p hp => bit_high (List.mem_range.mp hp)
theorem range_two (n : Nat) : List.range (2 ^ (n + 1)) = List.range (2 ^ n) ++ (List.range (2 ^ n)).map (2 ^ n + ·) := by
  rw [Nat.pow_succ, Nat.mul_two, List.range_add]
theorem cnt_step {n m : Nat} {f f0 f1 : Nat → Bool} (h0 : ∀ x, x < 2 ^ n → f x = f0 x) (h1 : ∀ x, x < 2 ^ n → f (2 ^ n + x) = f1 x) : cntF (n + 1) f m = cntF n f0 m + (match m with
    | 0 => 0
    | m + 1 => cntF n f1 m) := by
  unfold cntF
  rw [range_two, List.filter_append, List.length_append, List.filter_map, List.length_map]
  congr 1
  · congr 1
    exact List.filter_congr fun x hx => by
      have hx := List.mem_range.mp hx
      rw [pts_low hx, h0 x hx]
  · cases m with
    | zero =>
      rw [List.length_eq_zero_iff, List.filter_eq_nil_iff]
      intro x hx
      have hx := List.mem_range.mp hx
      rw [Function.comp_apply, pts_high hx, List.length_append]
      simp
    | succ m =>
      congr 1
      exact List.filter_congr fun x hx => by
        have hx := List.mem_range.mp hx
        rw [Function.comp_apply, pts_high hx, h1 x hx, List.length_append]
        congr 1
        rw [Bool.eq_iff_iff, beq_iff_eq, beq_iff_eq]
        simp
theorem cnt_none {n m : Nat} {f : Nat → Bool} (h : ∀ x, x < 2 ^ n → f x = false) : cntF n f m = 0 := by
  unfold cntF
  rw [List.length_eq_zero_iff, List.filter_eq_nil_iff]
  intro x hx
  rw [h x (List.mem_range.mp hx), Bool.and_false]
  exact Bool.false_ne_true
theorem clear_low {n : Nat} {g : Nat → Bool} {x : Nat} (h : x < 2 ^ n) : clearB (n + 1) g x = clearB n g x := by
  unfold clearB
  rw [List.range_succ, List.all_append]
  have : Nat.testBit x n = false := Nat.testBit_lt_two_pow h
  simp [this]
theorem all_congr' {f g : Nat → Bool} {L : List Nat} (h : ∀ p ∈ L, f p = g p) : L.all f = L.all g := by
  induction L with
  | nil => rfl
  | cons a L ih => rw [List.all_cons, List.all_cons, h a (List.mem_cons_self ..), ih fun p hp => h p (List.mem_cons_of_mem _ hp)]
theorem clear_high {n : Nat} {g : Nat → Bool} {x : Nat} (h : x < 2 ^ n) : clearB (n + 1) g (2 ^ n + x) = (clearB n g x && !g n) := by
  unfold clearB
  rw [List.range_succ, List.all_append, all_congr' (g := fun p => !(g p && Nat.testBit x p)) fun p hp => by rw [bit_high (List.mem_range.mp hp)]]
  simp [bit_top h]
theorem hold_low {n : Nat} {g : Nat → Bool} {x : Nat} (h : x < 2 ^ n) : holdB (n + 1) g x = (holdB n g x && !g n) := by
  unfold holdB
  rw [List.range_succ, List.all_append]
  have : Nat.testBit x n = false := Nat.testBit_lt_two_pow h
  simp [this]
theorem hold_high {n : Nat} {g : Nat → Bool} {x : Nat} (h : x < 2 ^ n) : holdB (n + 1) g (2 ^ n + x) = holdB n g x := by
  unfold holdB
  rw [List.range_succ, List.all_append, all_congr' (g := fun p => !g p || Nat.testBit x p) fun p hp => by rw [bit_high (List.mem_range.mp hp)]]
  simp [bit_top h]
theorem onesG_succ (n : Nat) (g : Nat → Bool) : onesG (n + 1) g = onesG n g + cond (g n) 1 0 := by
  unfold onesG
  rw [List.range_succ, List.filter_append, List.length_append]
  cases h : g n <;> simp [h]
theorem noughtsG_succ (n : Nat) (g : Nat → Bool) : noughtsG (n + 1) g = noughtsG n g + cond (g n) 0 1 := by
  unfold noughtsG
  rw [List.range_succ, List.filter_append, List.length_append]
  cases h : g n <;> simp [h]
theorem both_G (n : Nat) (g : Nat → Bool) : onesG n g + noughtsG n g = n := by
  have := len_filter g (List.range n)
  rw [List.length_range] at this
  exact this
theorem cnt_clear (g : Nat → Bool) : ∀ n m, cntF n (clearB n g) m = chs (noughtsG n g) m := by
  intro n
  induction n with
  | zero =>
    intro m
    cases m with
    | zero => rfl
    | succ m => rfl
  | succ n ih =>
    intro m
    rw [noughtsG_succ]
    cases hg : g n
    · rw [cnt_step (f0 := clearB n g) (f1 := clearB n g) (fun x hx => clear_low hx) (fun x hx => by rw [clear_high hx, hg]; simp), ih]
      cases m with
      | zero => simp [chs_zero]
      | succ m =>
        show _ + cntF n (clearB n g) m = _
        rw [ih]
        show _ = chs (noughtsG n g + 1) (m + 1)
        rw [chs]
        omega
    · rw [cnt_step (f0 := clearB n g) (f1 := fun _ => false) (fun x hx => clear_low hx) (fun x hx => by rw [clear_high hx, hg]; simp), ih]
      cases m with
      | zero => rfl
      | succ m =>
        show _ + cntF n (fun _ => false) m = _
        rw [cnt_none fun _ _ => rfl]
        rfl
theorem cnt_hold (g : Nat → Bool) : ∀ n m, cntF n (holdB n g) m = if onesG n g ≤ m then chs (noughtsG n g) (m - onesG n g) else 0 := by
  intro n
  induction n with
  | zero =>
    intro m
    cases m with
    | zero => rfl
    | succ m => rfl
  | succ n ih =>
    intro m
    rw [noughtsG_succ, onesG_succ]
    cases hg : g n
    · rw [cnt_step (f0 := holdB n g) (f1 := holdB n g) (fun x hx => by rw [hold_low hx, hg]; simp) (fun x hx => hold_high hx), ih]
      simp only [cond_false, Nat.add_zero]
      cases m with
      | zero =>
        by_cases c : onesG n g ≤ 0
        · rw [if_pos c, if_pos c]
          simp [chs_zero]
        · rw [if_neg c, if_neg c]
          rfl
      | succ m =>
        show _ + cntF n (holdB n g) m = _
        rw [ih]
        by_cases c : onesG n g ≤ m
        · rw [if_pos c, if_pos (by omega), if_pos (by omega), show m + 1 - onesG n g = (m - onesG n g) + 1 by omega, chs]
          omega
        · rw [if_neg c]
          by_cases d : onesG n g ≤ m + 1
          · rw [if_pos d, if_pos d, show m + 1 - onesG n g = 0 by omega, chs_zero, chs_zero]
          · rw [if_neg d, if_neg d]
    · rw [cnt_step (f0 := fun _ => false) (f1 := holdB n g) (fun x hx => by rw [hold_low hx, hg]; simp) (fun x hx => hold_high hx), cnt_none fun _ _ => rfl]
      simp only [cond_true, Nat.add_zero, Nat.zero_add]
      cases m with
      | zero => rw [if_neg (by omega)]
      | succ m =>
        show cntF n (holdB n g) m = _
        rw [ih]
        by_cases c : onesG n g ≤ m
        · rw [if_pos c, if_pos (by omega)]
          congr 1
          omega
        · rw [if_neg c, if_neg (by omega)]
/-! ### sums put together otherwise -/
theorem sum_add {α : Type} (f g : α → Nat) : ∀ L : List α, (L.map fun x => f x + g x).sum = (L.map f).sum + (L.map g).sum
  | [] => rfl
  | a :: L => by
    have := sum_add f g L
    simp only [List.map_cons, List.sum_cons, this]
    omega
theorem sum_zero {α : Type} (L : List α) : (L.map fun _ => (0 : Nat)).sum = 0 := by
  induction L with
  | nil => rfl
  | cons a L ih => rw [List.map_cons, List.sum_cons, ih]
theorem sum_delta (h : Nat → Nat) (a : Nat) : ∀ N, ((List.range N).map fun w => if a == w then h w else 0).sum = if a < N then h a else 0
  | 0 => rfl
  | N + 1 => by
    rw [List.range_succ, List.map_append, List.sum_append, sum_delta h a N]
    simp only [List.map_cons, List.map_nil, List.sum_cons, List.sum_nil, beq_iff_eq]
    by_cases c : a = N
    · subst c
      rw [if_neg (by omega), if_pos rfl, if_pos (by omega)]
      omega
    · rw [if_neg c]
      by_cases d : a < N
      · rw [if_pos d, if_pos (by omega)]
        omega
      · rw [if_neg d, if_neg (by omega)]
        rfl
theorem group_sum {α : Type} (wt : α → Nat) (h : Nat → Nat) (N : Nat) : ∀ V : List α, (∀ v ∈ V, N ≤ wt v → h (wt v) = 0) → (V.map fun v => h (wt v)).sum = ((List.range N).map fun w => (V.filter fun v => wt v == w).length * h w).sum
  | [], _ => by
    simp only [List.map_nil, List.sum_nil, List.filter_nil, List.length_nil, Nat.zero_mul]
    rw [sum_zero]
  | v :: V, hz => by
    have ih := group_sum wt h N V fun u hu => hz u (List.mem_cons_of_mem _ hu)
    rw [List.map_cons, List.sum_cons, ih]
    have e : ((List.range N).map fun w => ((v :: V).filter fun v => wt v == w).length * h w) = (List.range N).map fun w => (if wt v == w then h w else 0) + (V.filter fun v => wt v == w).length * h w := by
      refine List.map_congr_left fun w _ => ?_
      rw [List.filter_cons]
      cases c : wt v == w
      · simp
      · simp only [if_true, List.length_cons]
        rw [Nat.succ_mul, Nat.add_comm]
    rw [e, sum_add, sum_delta]
    by_cases c : wt v < N
    · rw [if_pos c]
    · rw [if_neg c, hz v (List.mem_cons_self ..) (by omega)]
theorem sum_swap {α β : Type} (p : α → β → Bool) (V : List β) : ∀ X : List α, (X.map fun x => (V.filter (p x)).length).sum = (V.map fun v => (X.filter fun x => p x v).length).sum
  | [] => by simp [sum_zero]
  | x :: X => by
    rw [List.map_cons, List.sum_cons, sum_swap p V X]
    have e : (V.map fun v => ((x :: X).filter fun x => p x v).length) = V.map fun v => (if p x v then 1 else 0) + (X.filter fun x => p x v).length := by
      refine List.map_congr_left fun v _ => ?_
      rw [List.filter_cons]
      cases p x v
      · simp
      · simp [Nat.add_comm]
    rw [e, sum_add]
    congr 1
    clear e
    induction V with
    | nil => rfl
    | cons v V ih =>
      rw [List.filter_cons, List.map_cons, List.sum_cons]
      cases p x v
      · simpa using ih
      · simp only [if_true, List.length_cons]
        rw [ih]
        omega
/-! ### weights by ranks -/
def sizedN (n m : Nat) : List Nat := (List.range (2 ^ n)).filter fun x => (ptsN n x).length == m
def sumsC (n : Nat) (B : List (List Bool)) (m : Nat) : Nat := ((sizedN n m).map fun x => 2 ^ (B.length - rkP B (ptsN n x))).sum
def sumsO (n : Nat) (B : List (List Bool)) (m : Nat) : Nat := ((sizedN n m).map fun x => 2 ^ (m - rkP B (ptsN n x))).sum
def weightW (V : List (List Bool)) (w : Nat) : Nat := (V.filter fun v => wtN v == w).length
def chsW (n m w : Nat) : Nat := if w ≤ m then chs (n - w) (m - w) else 0
theorem wt_ones {n : Nat} {v : List Bool} (h : v.length = n) : wtN v = onesG n (gt v) := by
  unfold wtN idxs onesG
  rw [h]
theorem clear_iff {n x : Nat} {v : List Bool} : clearB n (gt v) x = true ↔ ∀ p ∈ ptsN n x, gt v p = false := by
  unfold clearB
  rw [List.all_eq_true]
  constructor
  · intro h p hp
    obtain ⟨h1, h2⟩ := mem_pts.mp hp
    have := h p (List.mem_range.mpr h1)
    rw [h2, Bool.and_true] at this
    simpa using this
  · intro h p hp
    cases c : Nat.testBit x p
    · simp
    · rw [h p (mem_pts.mpr ⟨List.mem_range.mp hp, c⟩)]
      simp
theorem hold_iff {n x : Nat} {v : List Bool} : holdB n (gt v) x = true ↔ ∀ p ∈ outP n (ptsN n x), gt v p = false := by
  unfold holdB
  rw [List.all_eq_true]
  constructor
  · intro h p hp
    obtain ⟨h1, h2⟩ := mem_outP.mp hp
    have := h p (List.mem_range.mpr h1)
    have c : Nat.testBit x p = false := by
      cases c : Nat.testBit x p
      · rfl
      · exact (h2 (mem_pts.mpr ⟨h1, c⟩)).elim
    rw [c, Bool.or_false] at this
    simpa using this
  · intro h p hp
    cases c : Nat.testBit x p
    · rw [h p (mem_outP.mpr ⟨List.mem_range.mp hp, fun z => by rw [(mem_pts.mp z).2] at c; cases c⟩)]
      rfl
    · simp
theorem code_sums {n : Nat} (hn : n ≤ 16) {B : List (List Bool)} (hB : Len n B) (iB : Ind n B) {V : List (List Bool)} (pV : V.Perm (sums n B)) {m : Nat} (hm : m ≤ n) : sumsC n B (n - m) = ((List.range (m + 1)).map fun w => weightW V w * chsW n m w).sum := by
  have lV : ∀ v ∈ V, v.length = n := fun v hv => ((sums_mem hB).mp (pV.mem_iff.mp hv)).len hB
  have e1 : sumsC n B (n - m) = ((sizedN n (n - m)).map fun x => (V.filter fun v => clearB n (gt v) x).length).sum := by
    unfold sumsC
    congr 1
    refine List.map_congr_left fun x _ => ?_
    rw [(pV.filter _).length_eq, count_within hB iB (P := ptsN n x) (g := fun v => clearB n (gt v) x) fun v _ => clear_iff]
  have e2 : (V.map fun v => ((sizedN n (n - m)).filter fun x => clearB n (gt v) x).length) = V.map fun v => chsW n m (wtN v) := by
    refine List.map_congr_left fun v hv => ?_
    have : ((sizedN n (n - m)).filter fun x => clearB n (gt v) x).length = cntF n (clearB n (gt v)) (n - m) := by
      unfold sizedN cntF
      rw [List.filter_filter]
      congr 1
      exact List.filter_congr fun x _ => Bool.and_comm _ _
    rw [this, cnt_clear]
    have b := both_G n (gt v)
    rw [← wt_ones (lV v hv)] at b
    unfold chsW
    rw [show noughtsG n (gt v) = n - wtN v by omega]
    by_cases c : wtN v ≤ m
    · rw [if_pos c, ← chs_sym (n - wtN v) (by omega) (m - wtN v) (by omega)]
      congr 1
      omega
    · rw [if_neg c, chs_big (by omega)]
  rw [e1, sum_swap (fun x v => clearB n (gt v) x) V, e2]
  exact group_sum wtN (chsW n m) (m + 1) V fun v _ h => if_neg (by omega)
theorem other_sums {n : Nat} (hn : n ≤ 16) {B S O : List (List Bool)} (hB : Len n B) (iB : Ind n B) (hS : Rref n B S) (hO : Rref n (freeRows n S) O) {V : List (List Bool)} (pV : V.Perm (sums n O)) {m : Nat} (hm : m ≤ n) : sumsO n B m = ((List.range (m + 1)).map fun w => weightW V w * chsW n m w).sum := by
  have lO := hO.red.len
  have iO := ind_rref hO
  have lV : ∀ v ∈ V, v.length = n := fun v hv => ((sums_mem lO).mp (pV.mem_iff.mp hv)).len lO
  have cO : O.length + B.length = n := by
    have h5 := other_count hS hO
    have h6 := iB S hS
    omega
  have e1 : sumsO n B m = ((sizedN n m).map fun x => (V.filter fun v => holdB n (gt v) x).length).sum := by
    unfold sumsO
    congr 1
    refine List.map_congr_left fun x hx => ?_
    rw [(pV.filter _).length_eq, count_within lO iO (P := outP n (ptsN n x)) (g := fun v => holdB n (gt v) x) fun v _ => hold_iff]
    have lx : (ptsN n x).length = m := by simpa using (List.mem_filter.mp hx).2
    have h1 := rk_other (P := outP n (ptsN n x)) (out_nodup n _) (fun p hp => (mem_outP.mp hp).1) hB iB hS hO
    have h2 := out_len (pts_nodup n x) (fun p hp => (mem_pts.mp hp).1)
    have h3 := rkP_same hB iB (P := outP n (outP n (ptsN n x))) (Q := ptsN n x) fun p => by
      rw [mem_outP, mem_outP]
      constructor
      · rintro ⟨a, b⟩
        exact Classical.byContradiction fun z => b ⟨a, z⟩
      · intro h
        exact ⟨(mem_pts.mp h).1, fun z => z.2 h⟩
    congr 1
    omega
  have e2 : (V.map fun v => ((sizedN n m).filter fun x => holdB n (gt v) x).length) = V.map fun v => chsW n m (wtN v) := by
    refine List.map_congr_left fun v hv => ?_
    have : ((sizedN n m).filter fun x => holdB n (gt v) x).length = cntF n (holdB n (gt v)) m := by
      unfold sizedN cntF
      rw [List.filter_filter]
      congr 1
      exact List.filter_congr fun x _ => Bool.and_comm _ _
    rw [this, cnt_hold]
    have b := both_G n (gt v)
    rw [← wt_ones (lV v hv)] at b ⊢
    unfold chsW
    rw [show noughtsG n (gt v) = n - wtN v by omega]
  rw [e1, sum_swap (fun x v => holdB n (gt v) x) V, e2]
  exact group_sum wtN (chsW n m) (m + 1) V fun v _ h => if_neg (by omega)
/-! ### rank numbers -/
def rankC (n : Nat) (B : List (List Bool)) (k i j : Nat) : Nat := ((List.range k).filter fun x => (ptsN n x).length == i && rkP B (ptsN n x) == j).length
def numbersN (n : Nat) (B : List (List Bool)) : List (List Nat) := (List.range (n + 1)).map fun i => (List.range (i + 1)).map fun j => rankC n B (2 ^ n) i j
theorem rankC_sized (n : Nat) (B : List (List Bool)) (i j : Nat) : rankC n B (2 ^ n) i j = ((sizedN n i).filter fun x => rkP B (ptsN n x) == j).length := by
  unfold rankC sizedN
  rw [List.filter_filter]
  congr 1
  exact List.filter_congr fun x _ => Bool.and_comm _ _
theorem sized_rank {n i : Nat} {B : List (List Bool)} {x : Nat} (h : x ∈ sizedN n i) : rkP B (ptsN n x) ≤ i := by
  have := (List.mem_filter.mp h).2
  have := rkP_le (B := B) (P := ptsN n x)
  simp at *
  omega
theorem numbers_C (n : Nat) (B : List (List Bool)) (i : Nat) : ((List.range (i + 1)).map fun j => rankC n B (2 ^ n) i j * 2 ^ (B.length - j)).sum = sumsC n B i := by
  unfold sumsC
  rw [group_sum (fun x => rkP B (ptsN n x)) (fun j => 2 ^ (B.length - j)) (i + 1) (sizedN n i) fun x hx h => by have := sized_rank (B := B) hx; omega]
  congr 1
  exact List.map_congr_left fun j _ => by rw [rankC_sized]
theorem numbers_O (n : Nat) (B : List (List Bool)) (i : Nat) : ((List.range (i + 1)).map fun j => rankC n B (2 ^ n) i j * 2 ^ (i - j)).sum = sumsO n B i := by
  unfold sumsO
  rw [group_sum (fun x => rkP B (ptsN n x)) (fun j => 2 ^ (i - j)) (i + 1) (sizedN n i) fun x hx h => by have := sized_rank (B := B) hx; omega]
  congr 1
  exact List.map_congr_left fun j _ => by rw [rankC_sized]
end Z
set_option Elab.async false
set_option linter.all false
set_option maxRecDepth 100000
set_option maxHeartbeats 4000000
local macro_rules | `(tactic| walk_at "z") => `(tactic| simp only [Z.dVar, Z.look, Z.dC, Z.dSolid, Z.dNil, Z.dCons, Z.dBin, Z.dUn, Z.dCall, Z.kont_none, Z.kont_bool, Z.kont_int, Z.kont_str, Z.kont_list, Z.kont_tuple, Z.f2I, Z.f2IC, Z.f1I, Z.asI, Z.dTest, Z.asB, Z.dAnd, Z.dOr, Z.dNot, Z.dYes, Z.dAndV, Z.dOrV, Z.dNotV, Z.dIf, Z.dTup, Z.dLst,
  Z.sNext, Z.sBreak, Z.sCont, Z.sSeq, Z.later_cons, Z.sIf, Z.sDrop, Z.sRet, Z.sRetV, Z.sRetN, Z.sAsg, Z.sAsgG, Z.valsAt, Z.sPar, Z.ownL, Z.sAppend, Z.sSetI, Z.dItems, Z.asItems, Z.items, Z.dRng1, Z.dRng2, Z.dCmbR, Z.dCmbL, Z.dgName, Z.dgNil, Z.dgCons, Z.asT, Z.dgTup, Z.asL, Z.dgUnl, Z.dComp, Z.dEnum, Z.sFor, Z.sAugI,
  Z.startE, Z.startL, Z.retE, Z.lawE, Z.fRepr, Z.fReprU, Z.dItemsZ, Z.fLenF, Z.fEqE, Z.solid_frz, Z.solid_frd, Z.fIx, Z.dKGet, Z.dKGet1, Z.dKGet2, Z.dKIn, Z.ownK, Z.sKPut, Z.sKSetd, Z.sKSetApp, Z.sFz, Z.dXKeys, Z.dXVals, Z.dXItems, Z.dLenX, Z.dNewX, Z.dLenDict0, Z.dLenDictK, Z.dLenSetI, Z.dSortSetT, Z.fDictP, Z.dDictX, Z.fSortedF, Z.fSortedW, Z.fSorted0, Z.sAug2, Z.fComb, Z.fSum, Z.fSumA, Z.dSortDict, Z.dLenDict, Z.asPairs, Z.fMaxA, Z.dIsi, Z.fIsi, Z.isInt, Z.isBool, Z.isStr, Z.isTuple, Z.isList, Z.isDict, Z.dAddN, Z.fAll, Z.fAny, Z.dTupRg, Z.asSeq, Z.dStar, Z.dStarS, Z.fMinD, Z.sMove, Z.dDisp, Z.dPairs, Z.dBits, Z.fDictCp, Z.sPar3, Z.fLen, Z.fTuple, Z.fTupleF, Z.fEqLE, Z.sAugL, Z.fInt, Z.fMul, Z.fAdd, Z.dIndex, Z.dSlice, Z.dRev, Z.fRev, Z.d0New, Z.sPopAt, Z.sRet2, Z.dZipSF, Z.dSortDict0, Z.dFrz, Z.fFrz, Z.fIxF_tup, Z.fIxF_list, Z.dZipF, Z.dIndexF, Z.sUpd0, Z.own0, Z.dLen0, Z.dNo, Z.dPart, Z.fCut, Z.fList, Z.dListRg, Z.fSorted, Z.dZip, Z.dZipS, Z.dTru, Z.f2L, Z.fAbs, Z.fIsN, Z.isNone, Z.dChain, Z.tru, Z.hide, Z.demote, Z.demoteOff, Z.restore, Z.isOwn, Z.solid_tI, Z.solid_tII, Z.solid_int, Z.solid_bool, Z.solid_str, Z.solid_none, Z.solids_nil, Z.solids_cons, Z.solid_tup, Z.solids_ints, Z.solids_tII,
  List.getElem?_cons_zero, List.getElem?_cons_succ, List.set_cons_zero, List.set_cons_succ, List.map_cons, List.map_nil, List.length_cons, List.length_nil, List.nil_append, List.cons_append, List.replicate_succ, List.replicate_zero, List.append_nil, List.contains_cons, List.contains_nil, List.elem_nil, Nat.reduceAdd, Nat.reduceSub, Nat.reduceBEq, Nat.reduceLeDiff, Nat.zero_add, Nat.reduceLT,
  Bool.or_false, Bool.false_or, Bool.true_or, Bool.or_true, Bool.and_true, Bool.true_and, cond_true, cond_false, if_true, if_false, true_and, and_true, Bool.false_eq_true, Bool.true_eq_false, ite_true, ite_false, reduceIte, beq_self_eq_true, List.not_mem_nil, implies_true, false_implies, Bool.not_true, Bool.not_false])
local macro_rules | `(tactic| walk_at "y") => `(tactic| simp only [Z.ix0, Z.ix1, Z.dVar, Z.look, Z.dC, Z.dSolid, Z.dNil, Z.dCons, Z.dBin, Z.dUn, Z.dCall, Z.kont_none, Z.kont_bool, Z.kont_int, Z.kont_str, Z.kont_list, Z.kont_tuple, Z.f2I, Z.f2IC, Z.f1I, Z.asI, Z.dTest, Z.asB, Z.dAnd, Z.dOr, Z.dNot, Z.dYes, Z.dAndV, Z.dOrV, Z.dNotV, Z.dIf, Z.dTup, Z.dLst,
  Z.sNext, Z.sBreak, Z.sCont, Z.sSeq, Z.later_cons, Z.sIf, Z.sDrop, Z.sRet, Z.sRetV, Z.sRetN, Z.sAsg, Z.sAsgG, Z.valsAt, Z.sPar, Z.ownL, Z.sAppend, Z.sSetI, Z.dItems, Z.asItems, Z.items, Z.dRng1, Z.dRng2, Z.dCmbR, Z.dCmbL, Z.dgName, Z.dgNil, Z.dgCons, Z.asT, Z.dgTup, Z.asL, Z.dgUnl, Z.dComp, Z.dEnum, Z.sFor, Z.sAugI,
  Z.startE, Z.startL, Z.retE, Z.lawE, Z.fRepr, Z.fReprU, Z.dItemsZ, Z.fLenF, Z.fEqE, Z.solid_frz, Z.solid_frd, Z.fIx, Z.dKGet, Z.dKGet1, Z.dKGet2, Z.dKIn, Z.ownK, Z.sKPut, Z.sKSetd, Z.sKSetApp, Z.sFz, Z.dXKeys, Z.dXVals, Z.dXItems, Z.dLenX, Z.dNewX, Z.dLenDict0, Z.dLenDictK, Z.dLenSetI, Z.dSortSetT, Z.fDictP, Z.dDictX, Z.fSortedF, Z.fSortedW, Z.fSorted0, Z.sAug2, Z.fComb, Z.fSum, Z.fSumA, Z.dSortDict, Z.dLenDict, Z.asPairs, Z.fMaxA, Z.dIsi, Z.fIsi, Z.isInt, Z.isBool, Z.isStr, Z.isTuple, Z.isList, Z.isDict, Z.dAddN, Z.fAll, Z.fAny, Z.dTupRg, Z.asSeq, Z.dStar, Z.dStarS, Z.fMinD, Z.sMove, Z.dDisp, Z.dPairs, Z.dBits, Z.fDictCp, Z.sPar3, Z.fLen, Z.fTuple, Z.fTupleF, Z.fEqLE, Z.sAugL, Z.fInt, Z.fMul, Z.fAdd, Z.dIndex, Z.dSlice, Z.dRev, Z.fRev, Z.d0New, Z.sPopAt, Z.sRet2, Z.dZipSF, Z.dSortDict0, Z.dFrz, Z.fFrz, Z.fIxF_tup, Z.fIxF_list, Z.dZipF, Z.dIndexF, Z.sUpd0, Z.own0, Z.dLen0, Z.dNo, Z.dPart, Z.fCut, Z.fList, Z.dListRg, Z.fSorted, Z.dZip, Z.dZipS, Z.dTru, Z.f2L, Z.fAbs, Z.fIsN, Z.isNone, Z.dChain, Z.tru, Z.hide, Z.demote, Z.demoteOff, Z.restore, Z.isOwn, Z.solid_tI, Z.solid_tII, Z.solid_int, Z.solid_bool, Z.solid_str, Z.solid_none, Z.solids_nil, Z.solids_cons, Z.solid_tup, Z.solids_ints, Z.solids_tII,
  List.getElem?_cons_zero, List.getElem?_cons_succ, List.set_cons_zero, List.set_cons_succ, List.map_cons, List.map_nil, List.length_cons, List.length_nil, List.nil_append, List.cons_append, List.replicate_succ, List.replicate_zero, List.append_nil, List.contains_cons, List.contains_nil, List.elem_nil, Nat.reduceAdd, Nat.reduceSub, Nat.reduceBEq, Nat.reduceLeDiff, Nat.zero_add, Nat.reduceLT,
  Bool.or_false, Bool.false_or, Bool.true_or, Bool.or_true, Bool.and_true, Bool.true_and, cond_true, cond_false, if_true, if_false, true_and, and_true, Bool.false_eq_true, Bool.true_eq_false, ite_true, ite_false, reduceIte, beq_self_eq_true, List.not_mem_nil, implies_true, false_implies, Bool.not_true, Bool.not_false])
local macro_rules | `(tactic| walk_at "h") => `(tactic| simp only [Z.ix0, Z.ix1, Z.dVar, Z.look, Z.dC, Z.dSolid, Z.dNil, Z.dCons, Z.dBin, Z.dUn, Z.dCall, Z.kont_none, Z.kont_bool, Z.kont_int, Z.kont_str, Z.kont_list, Z.kont_tuple, Z.f2I, Z.f2IC, Z.f1I, Z.asI, Z.dTest, Z.asB, Z.dAnd, Z.dOr, Z.dNot, Z.dYes, Z.dAndV, Z.dOrV, Z.dNotV, Z.dIf, Z.dTup, Z.dLst,
  Z.sNext, Z.sBreak, Z.sCont, Z.sSeq, Z.sIf, Z.sDrop, Z.sRet, Z.sRetV, Z.sRetN, Z.sAsg, Z.sAsgG, Z.valsAt, Z.sPar, Z.ownL, Z.sAppend, Z.sSetI, Z.dItems, Z.asItems, Z.items, Z.dRng1, Z.dRng2, Z.dCmbR, Z.dCmbL, Z.dgName, Z.dgNil, Z.dgCons, Z.asT, Z.dgTup, Z.asL, Z.dgUnl, Z.dComp, Z.dEnum, Z.sFor, Z.sAugI,
  Z.startE, Z.startL, Z.retE, Z.lawE, Z.fRepr, Z.fReprU, Z.dItemsZ, Z.fLenF, Z.fEqE, Z.solid_frz, Z.solid_frd, Z.fIx, Z.dKGet, Z.dKGet1, Z.dKGet2, Z.dKIn, Z.ownK, Z.sKPut, Z.sKSetd, Z.sKSetApp, Z.sFz, Z.dXKeys, Z.dXVals, Z.dXItems, Z.dLenX, Z.dNewX, Z.dLenDict0, Z.dLenDictK, Z.dLenSetI, Z.dSortSetT, Z.fDictP, Z.dDictX, Z.fSortedF, Z.fSortedW, Z.fSorted0, Z.sAug2, Z.fComb, Z.fSum, Z.fSumA, Z.dSortDict, Z.dLenDict, Z.asPairs, Z.fMaxA, Z.dIsi, Z.fIsi, Z.isInt, Z.isBool, Z.isStr, Z.isTuple, Z.isList, Z.isDict, Z.dAddN, Z.fAll, Z.fAny, Z.dTupRg, Z.asSeq, Z.dStar, Z.dStarS, Z.fMinD, Z.sMove, Z.dDisp, Z.dPairs, Z.dBits, Z.fDictCp, Z.sPar3, Z.fLen, Z.fTuple, Z.fTupleF, Z.fEqLE, Z.sAugL, Z.fInt, Z.fMul, Z.fAdd, Z.dIndex, Z.dSlice, Z.dRev, Z.fRev, Z.d0New, Z.sPopAt, Z.sRet2, Z.dZipSF, Z.dSortDict0, Z.dFrz, Z.fFrz, Z.fIxF_tup, Z.fIxF_list, Z.dZipF, Z.dIndexF, Z.sUpd0, Z.own0, Z.dLen0, Z.dNo, Z.dPart, Z.fCut, Z.fList, Z.dListRg, Z.fSorted, Z.dZip, Z.dZipS, Z.dTru, Z.f2L, Z.fAbs, Z.fIsN, Z.isNone, Z.dChain, Z.tru, Z.hide, Z.demote, Z.demoteOff, Z.restore, Z.isOwn, Z.solid_tI, Z.solid_tII, Z.solid_int, Z.solid_bool, Z.solid_str, Z.solid_none, Z.solids_nil, Z.solids_cons, Z.solid_tup, Z.solids_ints, Z.solids_tII,
  List.getElem?_cons_zero, List.getElem?_cons_succ, List.set_cons_zero, List.set_cons_succ, List.map_cons, List.map_nil, List.length_cons, List.length_nil, List.nil_append, List.cons_append, List.replicate_succ, List.replicate_zero, List.append_nil, List.contains_cons, List.contains_nil, List.elem_nil, Nat.reduceAdd, Nat.reduceSub, Nat.reduceBEq, Nat.reduceLeDiff, Nat.zero_add, Nat.reduceLT,
  Bool.or_false, Bool.false_or, Bool.true_or, Bool.or_true, Bool.and_true, Bool.true_and, cond_true, cond_false, if_true, if_false, true_and, and_true, Bool.false_eq_true, Bool.true_eq_false, ite_true, ite_false, reduceIte, beq_self_eq_true, List.not_mem_nil, implies_true, false_implies, Bool.not_true, Bool.not_false])
local macro_rules | `(tactic| walk_at "s") => `(tactic| ((first | rw [Z.later_cons] | (simp only []; rw [Z.later_cons])); walk_at "h"))
namespace Z
open PySem PySem.Spec PyProof.Rows L2
/-! ### the text -/
def topS (i : Nat) : Stmt := PySem.Challenge.pw_spancodes_k65_whole_weights_by_ranks.main.body.getD i (.Pass ⟨0, 0, 0, 0⟩)
abbrev s_added : Stmt := topS 3
theorem sc_added : FnScope ["row", "head", "one", "other"] ["row", "head"] (defScope s_added) := ⟨rfl, rfl, rfl, by decide +kernel, rfl, by decide +kernel, by decide +kernel⟩
abbrev s_stepped : Stmt := topS 6
theorem sc_stepped : FnScope ["base", "places", "heads", "left", "row", "place", "some", "k", "head", "other"] ["base", "places"] (defScope s_stepped) := ⟨rfl, rfl, rfl, by decide +kernel, rfl, by decide +kernel, by decide +kernel⟩
abbrev s_rank_in : Stmt := topS 2
theorem sc_rank_in : FnScope ["base", "places"] ["base", "places"] (defScope s_rank_in) := ⟨rfl, rfl, rfl, by decide +kernel, rfl, by decide +kernel, by decide +kernel⟩
abbrev s_places_of : Stmt := topS 4
theorem sc_places_of : FnScope ["n", "number", "place"] ["n", "number"] (defScope s_places_of) := ⟨rfl, rfl, rfl, by decide +kernel, rfl, by decide +kernel, by decide +kernel⟩
abbrev s_rank_table : Stmt := topS 5
theorem sc_rank_table : FnScope ["code", "n", "base", "number"] ["code"] (defScope s_rank_table) := ⟨rfl, rfl, rfl, by decide +kernel, rfl, by decide +kernel, by decide +kernel⟩
abbrev s_rank_numbers : Stmt := topS 8
theorem sc_rank_numbers : FnScope ["code", "n", "table", "found", "many", "number", "rank", "row"] ["code"] (defScope s_rank_numbers) := ⟨rfl, rfl, rfl, by decide +kernel, rfl, by decide +kernel, by decide +kernel⟩
abbrev s_unfolded : Stmt := topS 9
theorem sc_unfolded : FnScope ["n", "sums", "found", "m", "less", "w"] ["n", "sums"] (defScope s_unfolded) := ⟨rfl, rfl, rfl, by decide +kernel, rfl, by decide +kernel, by decide +kernel⟩
abbrev s_weights_by_ranks : Stmt := topS 10
theorem sc_weights_by_ranks : FnScope ["n", "r", "numbers", "sums", "m", "j", "many"] ["n", "r", "numbers"] (defScope s_weights_by_ranks) := ⟨rfl, rfl, rfl, by decide +kernel, rfl, by decide +kernel, by decide +kernel⟩
abbrev s_other_weights_by_ranks : Stmt := topS 11
theorem sc_other_weights_by_ranks : FnScope ["n", "r", "numbers", "sums", "m", "j", "many"] ["n", "r", "numbers"] (defScope s_other_weights_by_ranks) := ⟨rfl, rfl, rfl, by decide +kernel, rfl, by decide +kernel, by decide +kernel⟩
abbrev s__law_source : Stmt := topS 13
theorem sc__law_source : FnScope ["script", "mixed", "cell"] ["script"] (defScope s__law_source) := ⟨rfl, rfl, rfl, by decide +kernel, rfl, by decide +kernel, by decide +kernel⟩
abbrev s__law_pick : Stmt := topS 14
theorem sc__law_pick : FnScope ["source", "many", "left", "mixed"] ["source", "many"] (defScope s__law_pick) := ⟨rfl, rfl, rfl, by decide +kernel, rfl, by decide +kernel, by decide +kernel⟩
abbrev s__law_sum : Stmt := topS 15
theorem sc__law_sum : FnScope ["one", "other", "a", "b"] ["one", "other"] (defScope s__law_sum) := ⟨rfl, rfl, rfl, by decide +kernel, rfl, by decide +kernel, by decide +kernel⟩
abbrev s__law_rows : Stmt := topS 16
theorem sc__law_rows : FnScope ["n", "base", "found", "row", "late"] ["n", "base"] (defScope s__law_rows) := ⟨rfl, rfl, rfl, by decide +kernel, rfl, by decide +kernel, by decide +kernel⟩
abbrev s__law_code : Stmt := topS 17
theorem sc__law_code : FnScope ["source", "n", "most", "base", "share", "many", "lap", "row", "place", "k", "j"] ["source", "n", "most"] (defScope s__law_code) := ⟨rfl, rfl, rfl, by decide +kernel, rfl, by decide +kernel, by decide +kernel⟩
abbrev s__law_lot_of : Stmt := topS 18
theorem sc__law_lot_of : FnScope ["n", "number", "place"] ["n", "number"] (defScope s__law_lot_of) := ⟨rfl, rfl, rfl, by decide +kernel, rfl, by decide +kernel, by decide +kernel⟩
abbrev s__law_table : Stmt := topS 19
theorem sc__law_table : FnScope ["n", "columns", "by", "found", "spans", "number", "place", "heads", "left", "k", "head", "a", "b", "some", "one", "turn"] ["n", "columns", "by"] (defScope s__law_table) := ⟨rfl, rfl, rfl, by decide +kernel, rfl, by decide +kernel, by decide +kernel⟩
abbrev s__law_code_table : Stmt := topS 20
theorem sc__law_code_table : FnScope ["code", "place", "row"] ["code"] (defScope s__law_code_table) := ⟨rfl, rfl, rfl, by decide +kernel, rfl, by decide +kernel, by decide +kernel⟩
abbrev s__law_other_rows : Stmt := topS 21
theorem sc__law_other_rows : FnScope ["n", "base", "found", "place", "row", "late", "one", "p"] ["n", "base"] (defScope s__law_other_rows) := ⟨rfl, rfl, rfl, by decide +kernel, rfl, by decide +kernel, by decide +kernel⟩
abbrev s__law_weights : Stmt := topS 22
theorem sc__law_weights : FnScope ["n", "rows", "weights", "row", "w", "one"] ["n", "rows"] (defScope s__law_weights) := ⟨rfl, rfl, rfl, by decide +kernel, rfl, by decide +kernel, by decide +kernel⟩
abbrev s_law : Stmt := topS 23
theorem sc_law : FnScope ["script", "source", "lap", "code", "n", "r", "table", "numbers", "i", "ranks", "k", "j", "one", "kept", "due", "told"] ["script"] (defScope s_law) := ⟨rfl, rfl, rfl, by decide +kernel, rfl, by decide +kernel, by decide +kernel⟩
structure Tx (K : PySem.W.Frag) (mg : Str → Option Value) : Prop where
  b_abs : mg "abs" = none
  b_enumerate : mg "enumerate" = none
  b_int : mg "int" = none
  b_len : mg "len" = none
  b_list : mg "list" = none
  b_max : mg "max" = none
  b_min : mg "min" = none
  b_range : mg "range" = none
  b_repr : mg "repr" = none
  b_sorted : mg "sorted" = none
  b_sum : mg "sum" = none
  b_tuple : mg "tuple" = none
  b_zip : mg "zip" = none
  t_comb : mg "comb" = some (.builtin "math.comb")
  f_added : ∃ f fd, mg "added" = some (.ref f) ∧ Fun K "added" "added" s_added f fd
  f_stepped : ∃ f fd, mg "stepped" = some (.ref f) ∧ Fun K "stepped" "stepped" s_stepped f fd
  f_rank_in : ∃ f fd, mg "rank_in" = some (.ref f) ∧ Fun K "rank_in" "rank_in" s_rank_in f fd
  f_places_of : ∃ f fd, mg "places_of" = some (.ref f) ∧ Fun K "places_of" "places_of" s_places_of f fd
  f_rank_table : ∃ f fd, mg "rank_table" = some (.ref f) ∧ Fun K "rank_table" "rank_table" s_rank_table f fd
  f_rank_numbers : ∃ f fd, mg "rank_numbers" = some (.ref f) ∧ Fun K "rank_numbers" "rank_numbers" s_rank_numbers f fd
  f_unfolded : ∃ f fd, mg "unfolded" = some (.ref f) ∧ Fun K "unfolded" "unfolded" s_unfolded f fd
  f_weights_by_ranks : ∃ f fd, mg "weights_by_ranks" = some (.ref f) ∧ Fun K "weights_by_ranks" "weights_by_ranks" s_weights_by_ranks f fd
  f_other_weights_by_ranks : ∃ f fd, mg "other_weights_by_ranks" = some (.ref f) ∧ Fun K "other_weights_by_ranks" "other_weights_by_ranks" s_other_weights_by_ranks f fd
  f__law_source : ∃ f fd, mg "_law_source" = some (.ref f) ∧ Fun K "_law_source" "_law_source" s__law_source f fd
  f__law_pick : ∃ f fd, mg "_law_pick" = some (.ref f) ∧ Fun K "_law_pick" "_law_pick" s__law_pick f fd
  f__law_sum : ∃ f fd, mg "_law_sum" = some (.ref f) ∧ Fun K "_law_sum" "_law_sum" s__law_sum f fd
  f__law_rows : ∃ f fd, mg "_law_rows" = some (.ref f) ∧ Fun K "_law_rows" "_law_rows" s__law_rows f fd
  f__law_code : ∃ f fd, mg "_law_code" = some (.ref f) ∧ Fun K "_law_code" "_law_code" s__law_code f fd
  f__law_lot_of : ∃ f fd, mg "_law_lot_of" = some (.ref f) ∧ Fun K "_law_lot_of" "_law_lot_of" s__law_lot_of f fd
  f__law_table : ∃ f fd, mg "_law_table" = some (.ref f) ∧ Fun K "_law_table" "_law_table" s__law_table f fd
  f__law_code_table : ∃ f fd, mg "_law_code_table" = some (.ref f) ∧ Fun K "_law_code_table" "_law_code_table" s__law_code_table f fd
  f__law_other_rows : ∃ f fd, mg "_law_other_rows" = some (.ref f) ∧ Fun K "_law_other_rows" "_law_other_rows" s__law_other_rows f fd
  f__law_weights : ∃ f fd, mg "_law_weights" = some (.ref f) ∧ Fun K "_law_weights" "_law_weights" s__law_weights f fd
  f_law : ∃ f fd, mg "law" = some (.ref f) ∧ Fun K "law" "law" s_law f fd
section
variable {P : Program} {w : World} {K : PySem.W.Frag} {mg : Str → Option Value} {base : Heap}
def spec_added : List D → (D → Prop) → Prop := fun ds R => ∃ a b : List Bool, ds = [fR a, fR b] ∧ a.length = b.length ∧ a.length ≤ 100000 ∧ R (.list (bitsD (xr a b)))
theorem len_added : ∀ ds R, spec_added ds R → ds.length = 2 := by
  rintro ds R ⟨a, b, rfl, _⟩
  rfl
def m_added : DMS :=
  (sRet (dComp (dZipSF (dCons (dVar 0) (dCons (dVar 1) dNil))) (dgTup 2 (dgCons (dgName 2) (dgCons (dgName 3) dgNil))) dYes (dBin (f2IC (fun _ j => 0 < j) fun i j => .int (i % j)) (dBin fAdd (dVar 2) (dVar 3)) (dC (.int 2))) [2, 3]))
theorem pl_added : ∀ ds R, spec_added ds R → m_added (startE ["row", "head", "one", "other"] ds) (retE R) := by
  rintro ds R ⟨a, b, rfl, hl, hn, h⟩
  unfold m_added
  walk_at "z"
  refine ⟨_, _, bitsD a, bitsD b, rfl, .inr rfl, .inr rfl, by rw [bitsD_len, bitsD_len, hl], ?_⟩
  rw [zip_bitsD]
  refine ⟨by rw [List.length_map, List.length_zip]; omega, compD_map (fun p => .int (bI (p.1 ^^ p.2))) (fun p hp k k0 hk => ?_) ?_⟩
  · obtain ⟨x, y⟩ := p
    walk_at "z"
    refine ⟨by decide, ?_⟩
    rw [bI_add2]
    exact hk
  · rw [bitsD_xr]
    exact h
theorem at_added (T : Tx K mg) : FnAt P w K mg base "added" 1 2 (spD K spec_added) := by
  obtain ⟨f, fd, hm, F⟩ := T.f_added
  refine fnAt_of hm F rfl (F.binds (ps := ["row", "head"]) fun _ _ _ _ _ _ us hl => match us, hl with | [_, _], _ => rfl) (fnG_of F sc_added (spD_len len_added) fun cdv A outer s H vs Q E hr hg h => ?_)
  exact body_of (m := fun _ => m_added) ["row", "head", "one", "other"]
    ((pss_one (ps_ret (pe_lc (own := [("one", 2), ("other", 3)]) rfl sc_added.nd (pi_zipS (by rfl) T.b_zip (pa_cons (pv 0) (pa_cons (pv 1) pa_nil)) (pk_cons pe_bl pk_nil)) (blkOk_by (N := ["row", "head", "one", "other"]) (sc := defScope s_added) (by decide +kernel)) (fun _ _ _ _ _ => (pg_tup rfl (pgs_cons (pg_name (i := 2) sc_added.nd rfl (by first | exact Or.inl rfl | exact Or.inr rfl)) (pgs_cons (pg_name (i := 3) sc_added.nd rfl (by first | exact Or.inl rfl | exact Or.inr rfl)) pgs_nil)))) (fun _ _ _ _ _ => pts_nil) (fun _ _ _ _ _ => (pe_op op_mod (pe_op op_addZ (pv 2) (pv 3)) pe_int))))))
    (fun S => (ds_ret (de_lc (di_zipSF (da_cons (de_var 0) (da_cons (de_var 1) da_nil)) (fun _ _ _ h => h)) (dg_tup (dgs_cons (dg_name 2) (dgs_cons (dg_name 3) dgs_nil))) dt_yes (de_op od_IC (de_op od_add (de_var 2) (de_var 3)) de_int) (by decide)))) h (fun S ds R hs => pl_added ds R hs)
def spec_stepped : List D → (D → Prop) → Prop := fun ds R => ∃ (n : Nat) (B : List (List Bool)) (P : List Nat) (pd : D), items pd = some (P.map natD) ∧ ds = [.tuple (rowsD B), pd] ∧ Len n B ∧ (∀ p ∈ P, p < n) ∧ n ≤ 100000 ∧ B.length ≤ 100000 ∧ P.length ≤ 100000 ∧ R (.tuple [.list ((steps B P).1.map hedD), .list ((steps B P).2.map fR)])
theorem len_stepped : ∀ ds R, spec_stepped ds R → ds.length = 2 := by
  rintro ds R ⟨n, B, P, pd, _, rfl, _⟩
  rfl
def m_stepped : DMS :=
  (sSeq (sPar 2 3 (dCons (dLst dNil) (dCons (dComp (dItems (dVar 0)) (dgName 4) dYes (dFrz (dCall fList (dCons (dVar 4) dNil))) [4]) dNil)))
  (sSeq (sFor (dItems (dVar 1)) (dgName 5) (sSeq (sAsg 6 (dComp (dEnum (dCons (dVar 3) dNil)) (dgTup 2 (dgCons (dgName 7) (dgCons (dgName 4) dgNil))) (dTest (dBin (fEq false) (dBin fIxF (dVar 4) (dVar 5)) (dC (.int 1)))) (dSolid (dVar 7)) [7, 4]))
  (sIf (dTest (dBin (fEq true) (dVar 6) (dLst dNil))) (sSeq (sPopAt 8 3 (dBin fIxF (dVar 6) (dC (.int 0))))
  (sSeq (sAsg 3 (dComp (dItems (dVar 3)) (dgName 4) dYes (dSolid (dIf (dTest (dBin (fEq false) (dBin fIxF (dVar 4) (dVar 5)) (dC (.int 1)))) (dFrz (dCall spec_added (dCons (dVar 4) (dCons (dVar 8) dNil)))) (dVar 4))) [4]))
  (sSeq (sAsg 2 (dComp (dItems (dVar 2)) (dgTup 2 (dgCons (dgName 9) (dgCons (dgName 4) dgNil))) dYes (dSolid (dTup (dCons (dVar 9) (dCons (dIf (dTest (dBin (fEq false) (dBin fIxF (dVar 4) (dVar 5)) (dC (.int 1)))) (dFrz (dCall spec_added (dCons (dVar 4) (dCons (dVar 8) dNil)))) (dVar 4)) dNil)))) [9, 4]))
  (sAppend 2 (dSolid (dTup (dCons (dVar 5) (dCons (dVar 8) dNil)))))))) sNext)) [5, 6, 8, 3, 3, 2, 2] [5, 6, 8])
  (sRet2 2 3)))
theorem pl_stepped : ∀ ds R, spec_stepped ds R → m_stepped (startE ["base", "places", "heads", "left", "row", "place", "some", "k", "head", "other"] ds) (retE R) := by
  rintro ds R ⟨n, B, P, pd, hpd, rfl, hB, hP, hn, hl, hp, h⟩
  unfold m_stepped
  walk_at "h"
  refine ⟨by rw [List.length_map]; omega, compD_map (fun r => fR r) (fun r hr k k0 hk => ?_) ?_⟩
  · walk_at "h"
    rw [row_ints]
    exact hk
  walk_at "s"
  unfold items at hpd
  rw [hpd]
  dsimp only
  refine forD_fold natD stepHL (fun st ρ => (∃ Q, HL n B Q st.1 st.2) ∧ ρ = [.val (.tuple (rowsD B)), .val pd, .own (.list (st.1.map hedD)), .own (.list (st.2.map fR)), .unk, .unk, .unk, .unk, .unk, .unk]) P ([], B) _ ⟨⟨[], HL.start hB⟩, rfl⟩ ?_ ?_
  · rintro p hp st ρ Nx Bk ⟨⟨Q, hst⟩, rfl⟩ hN
    have lL := hst.lenL
    have lH : ∀ a ∈ st.1, a.2.length = n := fun a ha => hst.lenH _ (List.mem_map.mpr ⟨a, ha, rfl⟩)
    have mm := hst.many
    have pn := hP p hp
    have zr : ∀ r ∈ st.2, r.length = n := lL
    have es : stepHL st p = stepHL st p := rfl
    conv at es => rhs; unfold stepHL
    rw [es] at hN
    have hst2 := hst.step p
    rw [es] at hst2
    walk_at "h"
    rw [enumD_map]
    refine ⟨by rw [List.length_map, List.length_zipIdx]; omega, compD_filter (fun q => .int ((q.2 : Nat) : Int)) (fun q => gt q.1 p) (fun q hq k k0 h1 h0 => ?_) ?_⟩
    · obtain ⟨hj, ej⟩ := zipIdx_get hq
      have hr : q.1 ∈ st.2 := by rw [← ej]; exact List.getElem_mem hj
      walk_at "h"
      refine cell_fR pn (zr _ hr) (fEq_int ?_)
      walk_at "h"
      rw [isone]
      cases g : gt q.1 p
      · exact h0 g
      · exact h1 g
    walk_at "s"
    cases e : st.2.zipIdx.filter fun q => gt q.1 p with
    | nil =>
      simp only [e] at hN hst2
      refine fEq_list_nil (fun b _ => plain_nat _) ?_
      walk_at "h"
      exact hN _ ⟨⟨_, hst2⟩, rfl⟩
    | cons q more =>
      simp only [e] at hN hst2
      have hm : q ∈ st.2.zipIdx.filter fun q => gt q.1 p := by rw [e]; exact List.mem_cons_self ..
      obtain ⟨hz, hg⟩ := List.mem_filter.mp hm
      obtain ⟨hj, ej⟩ := zipIdx_get hz
      refine fEq_list_nil (fun b _ => plain_nat _) ?_
      walk_at "h"
      rw [show (!(q :: more).isEmpty) = true from rfl]
      simp only [cond_true]
      obtain ⟨r, j⟩ := q
      simp only at hz hg hj ej hN hst2 ⊢
      have hr : r ∈ st.2 := by rw [← ej]; exact List.getElem_mem hj
      have lr := lL r hr
      have le : Len n (st.2.eraseIdx j) := fun b hb => lL b (List.mem_of_mem_eraseIdx hb)
      have lle := List.length_eraseIdx_le st.2 j
      refine ⟨by omega, by rw [List.length_map]; omega, by rw [List.length_map]; omega, solids_fRs _, fR r, by rw [Int.toNat_natCast, List.getElem?_map, List.getElem?_eq_getElem hj, ej]; rfl, ?_⟩
      rw [Int.toNat_natCast, erase_map]
      have clr1 : ∀ c, gt c p = true → clr p r c = xr c r := fun c g => by unfold clr; rw [g]; rfl
      have clr0 : ∀ c, gt c p = false → clr p r c = c := fun c g => by unfold clr; rw [g]; rfl
      walk_at "s"
      refine ⟨by rw [List.length_map]; omega, compD_map (fun c => fR (clr p r c)) (fun c hc k k0 hk => ?_) ?_⟩
      · walk_at "h"
        have lc := le c hc
        refine cell_fR pn lc (fEq_int ?_)
        walk_at "h"
        rw [isone]
        cases g : gt c p
        · rw [clr0 c g] at hk
          walk_at "h"
          exact hk
        · rw [clr1 c g] at hk
          walk_at "h"
          exact ⟨c, r, rfl, by rw [lc, lr], by omega, by walk_at "h"; exact ⟨solids_bitsD _, hk⟩⟩
      walk_at "s"
      refine ⟨by rw [List.length_map]; omega, compD_map (fun a => hedD (a.1, clr p r a.2)) (fun a ha k k0 hk => ?_) ?_⟩
      · obtain ⟨o, c⟩ := a
        have lc : c.length = n := lH _ ha
        unfold hedD at hk ⊢
        walk_at "h"
        refine cell_fR pn lc (fEq_int ?_)
        walk_at "h"
        rw [isone]
        cases g : gt c p
        · rw [clr0 c g] at hk
          walk_at "h"
          exact hk
        · rw [clr1 c g] at hk
          walk_at "h"
          exact ⟨c, r, rfl, by rw [lc, lr], by omega, by walk_at "h"; exact ⟨solids_bitsD _, hk⟩⟩
      walk_at "s"
      refine ⟨by rw [List.length_map]; omega, hN _ ⟨⟨_, hst2⟩, ?_⟩⟩
      walk_at "h"
      simp [List.map_map, Function.comp_def, hedD]
  · rintro ρ ⟨_, rfl⟩
    walk_at "h"
    walk_at "s"
    exact ⟨by decide, h⟩
theorem at_stepped (T : Tx K mg) : FnAt P w K mg base "stepped" 2 2 (spD K spec_stepped) := by
  obtain ⟨f, fd, hm, F⟩ := T.f_stepped
  refine fnAt_of hm F rfl (F.binds (ps := ["base", "places"]) fun _ _ _ _ _ _ us hl => match us, hl with | [_, _], _ => rfl) (fnG_of F sc_stepped (spD_len len_stepped) fun cdv A outer s H vs Q E hr hg h => ?_)
  exact body_of (m := fun _ => m_stepped) ["base", "places", "heads", "left", "row", "place", "some", "k", "head", "other"]
    ((pss_cons (ps_par (i := 2) (j := 3) rfl sc_stepped.nd rfl rfl (by decide) rfl rfl (pa_cons (pe_lst pa_nil) (pa_cons (pe_lc (own := [("row", 4)]) rfl sc_stepped.nd (pi_seq (pv 0)) (blkOk_by (N := ["base", "places", "heads", "left", "row", "place", "some", "k", "head", "other"]) (sc := defScope s_stepped) (by decide +kernel)) (fun _ _ _ _ _ => (pg_name (i := 4) sc_stepped.nd rfl (by first | exact Or.inl rfl | exact Or.inr rfl))) (fun _ _ _ _ _ => pts_nil) (fun _ _ _ _ _ => (pe_frz (pe_callTy call_list_of (by rfl) T.b_list (by decide +kernel) (pa_cons (pv 4) pa_nil))))) pa_nil)) (by rfl))
      (pss_cons (ps_for PassesOwn.never rfl (pi_seq (pv 1)) (pg_name (i := 5) sc_stepped.nd rfl (by first | exact Or.inl rfl | exact Or.inr rfl)) (pss_cons (ps_setLc (i := 6) (own := [("k", 7), ("row", 4)]) rfl sc_stepped.nd rfl rfl (sw_true rfl rfl rfl (by decide +kernel)) (pi_enumS (by rfl) T.b_enumerate (pa_cons (pv 3) pa_nil)) (blkOk_by (N := ["base", "places", "heads", "left", "row", "place", "some", "k", "head", "other"]) (sc := defScope s_stepped) (by decide +kernel)) (fun _ _ _ _ _ => (pg_tup rfl (pgs_cons (pg_name (i := 7) sc_stepped.nd rfl (by first | exact Or.inl rfl | exact Or.inr rfl)) (pgs_cons (pg_name (i := 4) sc_stepped.nd rfl (by first | exact Or.inl rfl | exact Or.inr rfl)) pgs_nil)))) (fun _ _ _ _ _ => (pts_one (pt_cmpR (op_eqZ hr.units) (pe_ix ix_seq (pv 4) (pv 5) (fun _ _ => rfl)) pe_int (nomark _)))) (fun _ _ _ _ _ => (pv 7)))
      (pss_one (ps_if (pt_cmpR (op_neZ hr.units) (pv 6) (pe_lst pa_nil) (nomark _)) (pss_cons (ps_set (i := 8) sc_stepped.nd rfl (by first | exact Or.inl rfl | exact Or.inr rfl) (pe_bm PySem.F.plainAttrs_list PySem.F.slot_list_pop PySem.F.type_list_pop mt_popAt (pv 3) (pa_cons (pe_ix ix_seq (pv 6) pe_int (fun _ _ => rfl)) pa_nil)))
      (pss_cons (ps_setLc (i := 3) (own := [("row", 4)]) rfl sc_stepped.nd rfl rfl (sw_true rfl rfl rfl (by decide +kernel)) (pi_seq (pv 3)) (blkOk_by (N := ["base", "places", "heads", "left", "row", "place", "some", "k", "head", "other"]) (sc := defScope s_stepped) (by decide +kernel)) (fun _ _ _ _ _ => (pg_name (i := 4) sc_stepped.nd rfl (by first | exact Or.inl rfl | exact Or.inr rfl))) (fun _ _ _ _ _ => pts_nil) (fun _ _ _ _ _ => (pe_ifExp (pt_cmpR (op_eqZ hr.units) (pe_ix ix_seq (pv 4) (pv 5) (fun _ _ => rfl)) pe_int (nomark _)) (pe_frz (pe_callG (at_added T) (hr.mono (by decide)) hg (by rfl) (pa_cons (pv 4) (pa_cons (pv 8) pa_nil)))) (pv 4))))
      (pss_cons (ps_setLc (i := 2) (own := [("other", 9), ("row", 4)]) rfl sc_stepped.nd rfl rfl (sw_true rfl rfl rfl (by decide +kernel)) (pi_seq (pv 2)) (blkOk_by (N := ["base", "places", "heads", "left", "row", "place", "some", "k", "head", "other"]) (sc := defScope s_stepped) (by decide +kernel)) (fun _ _ _ _ _ => (pg_tup rfl (pgs_cons (pg_name (i := 9) sc_stepped.nd rfl (by first | exact Or.inl rfl | exact Or.inr rfl)) (pgs_cons (pg_name (i := 4) sc_stepped.nd rfl (by first | exact Or.inl rfl | exact Or.inr rfl)) pgs_nil)))) (fun _ _ _ _ _ => pts_nil) (fun _ _ _ _ _ => (pe_tupF (pa_cons (pv 9) (pa_cons (pe_ifExp (pt_cmpR (op_eqZ hr.units) (pe_ix ix_seq (pv 4) (pv 5) (fun _ _ => rfl)) pe_int (nomark _)) (pe_frz (pe_callG (at_added T) (hr.mono (by decide)) hg (by rfl) (pa_cons (pv 4) (pa_cons (pv 8) pa_nil)))) (pv 4)) pa_nil)))))
      (pss_one (ps_expr (pe_bm PySem.F.plainAttrs_list PySem.F.slot_list_append PySem.F.type_list_append mt_append (pv 2) (pa_cons (pe_tupF (pa_cons (pv 5) (pa_cons (pv 8) pa_nil))) pa_nil))))))) pss_nil))))
      (pss_one (ps_ret (pe_tupF (pa_cons (pv 2) (pa_cons (pv 3) pa_nil))))))))
    (fun S => (ds_seq (ds_par 2 3 (da_cons (de_lst da_nil) (da_cons (de_lc (di_seq (de_var 0)) (dg_name 4) dt_yes (de_frz (de_cb cd_list (da_cons (de_var 4) da_nil))) (by decide)) da_nil)))
      (ds_seq (ds_for (Wg := [5]) (Wb := [6, 8, 3, 3, 2, 2]) (F := [5, 6, 8]) (di_seq (de_var 1)) (dg_name 5) (ds_seq (ds_asg 6 (de_lc (di_enum (da_cons (de_var 3) da_nil)) (dg_tup (dgs_cons (dg_name 7) (dgs_cons (dg_name 4) dgs_nil))) (dt_val (de_op od_eq (de_opA oa_ixF (de_var 4) (de_var 5)) de_int)) (de_solid (de_var 7)) (by decide)))
      (ds_if (dt_val (de_op od_eq (de_var 6) (de_lst da_nil))) (ds_seq (ds_popAt 8 3 (de_opA oa_ixF (de_var 6) de_int))
      (ds_seq (ds_asg 3 (de_lc (di_seq (de_var 3)) (dg_name 4) dt_yes (de_solid (de_if (dt_val (de_op od_eq (de_opA oa_ixF (de_var 4) (de_var 5)) de_int)) (de_frz (de_call (da_cons (de_var 4) (da_cons (de_var 8) da_nil)))) (de_var 4))) (by decide)))
      (ds_seq (ds_asg 2 (de_lc (di_seq (de_var 2)) (dg_tup (dgs_cons (dg_name 9) (dgs_cons (dg_name 4) dgs_nil))) dt_yes (de_solid (de_tup (da_cons (de_var 9) (da_cons (de_if (dt_val (de_op od_eq (de_opA oa_ixF (de_var 4) (de_var 5)) de_int)) (de_frz (de_call (da_cons (de_var 4) (da_cons (de_var 8) da_nil)))) (de_var 4)) da_nil)))) (by decide)))
      (ds_append 2 (de_solid (de_tup (da_cons (de_var 5) (da_cons (de_var 8) da_nil)))))))) ds_next)) (by decide))
      (ds_ret2 2 3)))) h (fun S ds R hs => pl_stepped ds R hs)
def spec_rank_in : List D → (D → Prop) → Prop := fun ds R => ∃ (n : Nat) (B : List (List Bool)) (P : List Nat) (pd : D), items pd = some (P.map natD) ∧ ds = [.tuple (rowsD B), pd] ∧ Len n B ∧ (∀ p ∈ P, p < n) ∧ n ≤ 100000 ∧ B.length ≤ 100000 ∧ P.length ≤ 100000 ∧ R (natD (rkP B P))
theorem len_rank_in : ∀ ds R, spec_rank_in ds R → ds.length = 2 := by
  rintro ds R ⟨n, B, P, pd, _, rfl, _⟩
  rfl
def m_rank_in : DMS :=
  (sRet (dCall fLen (dCons (dBin fIx (dCall spec_stepped (dCons (dVar 0) (dCons (dVar 1) dNil))) (dC (.int 0))) dNil)))
theorem pl_rank_in : ∀ ds R, spec_rank_in ds R → m_rank_in (startE ["base", "places"] ds) (retE R) := by
  rintro ds R ⟨n, B, P, pd, hpd, rfl, hB, hP, hn, hl, hp, h⟩
  unfold m_rank_in
  walk_at "y"
  refine ⟨n, B, P, pd, hpd, rfl, hB, hP, hn, hl, hp, ?_⟩
  walk_at "y"
  rw [List.length_map, steps_rank hB hP]
  exact h
theorem at_rank_in (T : Tx K mg) : FnAt P w K mg base "rank_in" 3 2 (spD K spec_rank_in) := by
  obtain ⟨f, fd, hm, F⟩ := T.f_rank_in
  refine fnAt_of hm F rfl (F.binds (ps := ["base", "places"]) fun _ _ _ _ _ _ us hl => match us, hl with | [_, _], _ => rfl) (fnG_of F sc_rank_in (spD_len len_rank_in) fun cdv A outer s H vs Q E hr hg h => ?_)
  exact body_of (m := fun _ => m_rank_in) ["base", "places"]
    ((pss_one (ps_ret (pe_callB call_len (by rfl) T.b_len PySem.boot_len (pa_cons (pe_ix ix_seq (pe_callG (at_stepped T) (hr.mono (by decide)) hg (by rfl) (pa_cons (pv 0) (pa_cons (pv 1) pa_nil))) pe_int (fun _ _ => rfl)) pa_nil)))))
    (fun S => (ds_ret (de_cb cd_len (da_cons (de_opA oa_ix (de_call (da_cons (de_var 0) (da_cons (de_var 1) da_nil))) de_int) da_nil)))) h (fun S ds R hs => pl_rank_in ds R hs)
def spec_places_of : List D → (D → Prop) → Prop := fun ds R => ∃ n x : Nat, ds = [natD n, natD x] ∧ n ≤ 100000 ∧ R (.tuple ((ptsN n x).map natD))
theorem len_places_of : ∀ ds R, spec_places_of ds R → ds.length = 2 := by
  rintro ds R ⟨n, x, rfl, _⟩
  rfl
def m_places_of : DMS :=
  (sRet (dCall fTuple (dCons (dComp (dRng1 (dCons (dVar 0) dNil)) (dgName 2) (dTru (dBin (f2I fun i j => .int (Builtin.bitAnd i j)) (dBin (f2IC (fun _ j => 0 ≤ j) fun i j => .int (i / 2 ^ j.toNat)) (dVar 1) (dVar 2)) (dC (.int 1)))) (dSolid (dVar 2)) [2]) dNil)))
theorem pl_places_of : ∀ ds R, spec_places_of ds R → m_places_of (startE ["n", "number", "place"] ds) (retE R) := by
  rintro ds R ⟨n, x, rfl, hn, h⟩
  unfold m_places_of
  walk_at "h"
  rw [Int.toNat_natCast, rangeD_nats]
  refine ⟨⟨by omega, by omega⟩, by rw [List.length_map, List.length_range]; omega, compD_filter natD (fun p => Nat.testBit x p) (fun p hp k k0 h1 h0 => ?_) ⟨solids_nats _, h⟩⟩
  walk_at "h"
  refine ⟨by omega, ?_⟩
  rw [Int.toNat_natCast, bit_and]
  cases g : Nat.testBit x p
  · exact h0 g
  · exact h1 g
theorem at_places_of (T : Tx K mg) : FnAt P w K mg base "places_of" 1 2 (spD K spec_places_of) := by
  obtain ⟨f, fd, hm, F⟩ := T.f_places_of
  refine fnAt_of hm F rfl (F.binds (ps := ["n", "number"]) fun _ _ _ _ _ _ us hl => match us, hl with | [_, _], _ => rfl) (fnG_of F sc_places_of (spD_len len_places_of) fun cdv A outer s H vs Q E hr hg h => ?_)
  exact body_of (m := fun _ => m_places_of) ["n", "number", "place"]
    ((pss_one (ps_ret (pe_callTy call_tupF (by rfl) T.b_tuple (by decide +kernel) (pa_cons (pe_lc (own := [("place", 2)]) rfl sc_places_of.nd (pi_range1 (by rfl) T.b_range (pa_cons (pv 0) pa_nil)) (blkOk_by (N := ["n", "number", "place"]) (sc := defScope s_places_of) (by decide +kernel)) (fun _ _ _ _ _ => (pg_name (i := 2) sc_places_of.nd rfl (by first | exact Or.inl rfl | exact Or.inr rfl))) (fun _ _ _ _ _ => (pts_one (pt_truth (pe_op op_and (pe_op op_shr (pv 1) (pv 2)) pe_int) (fun _ => rfl)))) (fun _ _ _ _ _ => (pv 2))) pa_nil)))))
    (fun S => (ds_ret (de_cb cd_tuple (da_cons (de_lc (di_rng1 (da_cons (de_var 0) da_nil)) (dg_name 2) (dt_tru (de_op od_I0 (de_op od_IC (de_var 1) (de_var 2)) de_int)) (de_solid (de_var 2)) (by decide)) da_nil)))) h (fun S ds R hs => pl_places_of ds R hs)
def spec_rank_table : List D → (D → Prop) → Prop := fun ds R => ∃ (n : Nat) (B : List (List Bool)), ds = [.tuple [natD n, .tuple (rowsD B)]] ∧ Len n B ∧ n ≤ 16 ∧ B.length ≤ 100000 ∧ R (.tuple ((List.range (2 ^ n)).map fun x => natD (rkP B (ptsN n x))))
theorem len_rank_table : ∀ ds R, spec_rank_table ds R → ds.length = 1 := by
  rintro ds R ⟨n, B, rfl, _⟩
  rfl
def m_rank_table : DMS :=
  (sSeq (sAsgG [] (dSolid (dVar 0)) (dgTup 2 (dgCons (dgName 1) (dgCons (dgName 2) dgNil))))
  (sRet (dCall fTuple (dCons (dComp (dRng1 (dCons (dBin (f2IC CPow fun i j => .int (i * 2 ^ j.toNat)) (dC (.int 1)) (dVar 1)) dNil)) (dgName 3) dYes (dCall spec_rank_in (dCons (dVar 2) (dCons (dCall spec_places_of (dCons (dVar 1) (dCons (dVar 3) dNil))) dNil))) [3]) dNil))))
theorem pl_rank_table : ∀ ds R, spec_rank_table ds R → m_rank_table (startE ["code", "n", "base", "number"] ds) (retE R) := by
  rintro ds R ⟨n, B, rfl, hB, hn, hl, h⟩
  unfold m_rank_table
  walk_at "h"
  refine ⟨solids_rowsD B, ?_⟩
  walk_at "s"
  have pw : (2 : Nat) ^ n ≤ 2 ^ 16 := Nat.pow_le_pow_right (by decide) hn
  have e : (1 : Int) * 2 ^ ((n : Nat) : Int).toNat = ((2 ^ n : Nat) : Int) := by rw [Int.toNat_natCast, Int.one_mul]; norm_cast
  rw [e, Int.toNat_natCast, rangeD_nats]
  refine ⟨⟨by omega, by omega, by decide⟩, ⟨?_, ?_⟩, by rw [List.length_map, List.length_range]; omega, compD_map (fun x => natD (rkP B (ptsN n x))) (fun x hx k k0 hk => ?_) ⟨solids_of fun x _ => solid_int _, h⟩⟩
  · exact Int.le_trans (by decide) (Int.natCast_nonneg _)
  · have : ((2 ^ n : Nat) : Int) ≤ ((2 ^ 16 : Nat) : Int) := Int.ofNat_le.mpr pw
    exact Int.le_trans this (by decide)
  walk_at "h"
  refine ⟨n, x, rfl, by omega, ?_⟩
  have := pts_len n x
  walk_at "h"
  exact ⟨n, B, ptsN n x, _, rfl, rfl, hB, pts_lt, by omega, hl, by omega, hk⟩
theorem at_rank_table (T : Tx K mg) : FnAt P w K mg base "rank_table" 4 1 (spD K spec_rank_table) := by
  obtain ⟨f, fd, hm, F⟩ := T.f_rank_table
  refine fnAt_of hm F rfl (F.binds (ps := ["code"]) fun _ _ _ _ _ _ us hl => match us, hl with | [_], _ => rfl) (fnG_of F sc_rank_table (spD_len len_rank_table) fun cdv A outer s H vs Q E hr hg h => ?_)
  exact body_of (m := fun _ => m_rank_table) ["code", "n", "base", "number"]
    ((pss_cons (ps_asg (pv 0) (pg_tup rfl (pgs_cons (pg_name (i := 1) sc_rank_table.nd rfl (by first | exact Or.inl rfl | exact Or.inr rfl)) (pgs_cons (pg_name (i := 2) sc_rank_table.nd rfl (by first | exact Or.inl rfl | exact Or.inr rfl)) pgs_nil))))
      (pss_one (ps_ret (pe_callTy call_tupF (by rfl) T.b_tuple (by decide +kernel) (pa_cons (pe_lc (own := [("number", 3)]) rfl sc_rank_table.nd (pi_range1 (by rfl) T.b_range (pa_cons (pe_op op_shl pe_int (pv 1)) pa_nil)) (blkOk_by (N := ["code", "n", "base", "number"]) (sc := defScope s_rank_table) (by decide +kernel)) (fun _ _ _ _ _ => (pg_name (i := 3) sc_rank_table.nd rfl (by first | exact Or.inl rfl | exact Or.inr rfl))) (fun _ _ _ _ _ => pts_nil) (fun _ _ _ _ _ => (pe_callG (at_rank_in T) (hr.mono (by decide)) hg (by rfl) (pa_cons (pv 2) (pa_cons (pe_callG (at_places_of T) (hr.mono (by decide)) hg (by rfl) (pa_cons (pv 1) (pa_cons (pv 3) pa_nil))) pa_nil))))) pa_nil))))))
    (fun S => (ds_seq (ds_asgG (de_solid (de_var 0)) (dg_tup (dgs_cons (dg_name 1) (dgs_cons (dg_name 2) dgs_nil))))
      (ds_ret (de_cb cd_tuple (da_cons (de_lc (di_rng1 (da_cons (de_op od_IC de_int (de_var 1)) da_nil)) (dg_name 3) dt_yes (de_call (da_cons (de_var 2) (da_cons (de_call (da_cons (de_var 1) (da_cons (de_var 3) da_nil))) da_nil))) (by decide)) da_nil))))) h (fun S ds R hs => pl_rank_table ds R hs)
def rnkD (n : Nat) (B : List (List Bool)) : D := .tuple ((numbersN n B).map lotD)
def spec_rank_numbers : List D → (D → Prop) → Prop := fun ds R => ∃ (n : Nat) (B : List (List Bool)), ds = [.tuple [.int ((n : Nat) : Int), .tuple (rowsD B)]] ∧ Len n B ∧ n ≤ 12 ∧ B.length ≤ 100 ∧ R (rnkD n B)
theorem len_rank_numbers : ∀ ds R, spec_rank_numbers ds R → ds.length = 1 := by
  rintro ds R ⟨n, B, rfl, _⟩
  rfl
def m_rank_numbers : DMS :=
  (sSeq (sPar 1 2 (dCons (dSolid (dBin fIx (dVar 0) (dC (.int 0)))) (dCons (dCall spec_rank_table (dCons (dVar 0) dNil)) dNil)))
  (sSeq (sAsg 3 (dComp (dRng1 (dCons (dBin fAdd (dVar 1) (dC (.int 1))) dNil)) (dgName 4) dYes (dBin fMul (dLst (dCons (dC (.int 0)) dNil)) (dBin fAdd (dVar 4) (dC (.int 1)))) [4]))
  (sSeq (sFor (dEnum (dCons (dVar 2) dNil)) (dgTup 2 (dgCons (dgName 5) (dgCons (dgName 6) dgNil))) (sAug2 3 (dCall fLen (dCons (dCall spec_places_of (dCons (dVar 1) (dCons (dVar 5) dNil))) dNil)) (dVar 6) (dC (.int 1))) [5, 6, 3] [5, 6])
  (sRet (dCall fTuple (dCons (dComp (dItems (dVar 3)) (dgName 7) dYes (dCall fTuple (dCons (dVar 7) dNil)) [7]) dNil))))))
theorem set_range {α : Type} (f : Nat → α) (y : α) (i N : Nat) : ((List.range N).map f).set i y = (List.range N).map fun t => if t = i then y else f t := by
  refine List.ext_getElem (by simp) fun t h1 h2 => ?_
  rw [List.getElem_set, List.getElem_map, List.getElem_range, List.getElem_map, List.getElem_range]
  by_cases c : i = t
  · rw [if_pos c, if_pos c.symm]
  · rw [if_neg c, if_neg (Ne.symm c)]
theorem rankC_succ (n : Nat) (B : List (List Bool)) (k i j : Nat) : rankC n B (k + 1) i j = rankC n B k i j + if (ptsN n k).length = i ∧ rkP B (ptsN n k) = j then 1 else 0 := by
  unfold rankC
  rw [List.range_succ, List.filter_append, List.length_append]
  congr 1
  by_cases c : (ptsN n k).length = i ∧ rkP B (ptsN n k) = j
  · rw [if_pos c]
    simp [c.1, c.2]
  · rw [if_neg c, List.length_eq_zero_iff, List.filter_eq_nil_iff]
    intro x hx
    rw [List.mem_singleton.mp hx]
    simpa using c
def foundC (n : Nat) (B : List (List Bool)) (k : Nat) : List D := (List.range (n + 1)).map fun i => .list ((List.range (i + 1)).map fun j => natD (rankC n B k i j))
theorem foundC_step (n : Nat) (B : List (List Bool)) (k : Nat) : (foundC n B k).set (ptsN n k).length (.list (((List.range ((ptsN n k).length + 1)).map fun j => natD (rankC n B k (ptsN n k).length j)).set (rkP B (ptsN n k)) (.int (((rankC n B k (ptsN n k).length (rkP B (ptsN n k)) : Nat) : Int) + 1)))) = foundC n B (k + 1) := by
  unfold foundC
  rw [set_range, set_range]
  refine List.map_congr_left fun i hi => ?_
  by_cases c : i = (ptsN n k).length
  · rw [if_pos c]
    subst c
    congr 1
    refine List.map_congr_left fun j hj => ?_
    rw [rankC_succ]
    by_cases d : j = rkP B (ptsN n k)
    · rw [if_pos d, if_pos ⟨rfl, d.symm⟩, d]
      rfl
    · rw [if_neg d, if_neg fun z => d z.2.symm]
      rfl
  · rw [if_neg c]
    congr 1
    refine List.map_congr_left fun j hj => ?_
    rw [rankC_succ, if_neg fun z => c z.1.symm]
    rfl
theorem enum_range (f : Nat → D) (N : Nat) : enumD ((List.range N).map f) = (List.range N).map fun x => .tuple [natD x, f x] := by
  rw [enumD_map, List.zipIdx_eq_zip_range', List.length_range, ← List.range_eq_range']
  refine List.ext_getElem (by simp) fun i h1 h2 => by simp
theorem num_at {n : Nat} {B : List (List Bool)} {i : Nat} {k : Int} (e : k = (i : Int)) (h : i ≤ n) : atI ((numbersN n B).map lotD) k = some (.tuple ((List.range (i + 1)).map fun j => natD (rankC n B (2 ^ n) i j))) := by
  refine atI_ok (j := i) ?_ e
  unfold numbersN
  rw [List.getElem?_map, List.getElem?_map, List.getElem?_range (by omega)]
  show some (lotD _) = _
  unfold lotD
  rw [List.map_map]
  rfl
theorem foundC_at {n : Nat} {B : List (List Bool)} {m i : Nat} (h : i ≤ n) : (foundC n B m)[i]? = some (.list ((List.range (i + 1)).map fun j => natD (rankC n B m i j))) := by
  unfold foundC
  rw [List.getElem?_map, List.getElem?_range (by omega)]
  rfl
theorem pl_rank_numbers : ∀ ds R, spec_rank_numbers ds R → m_rank_numbers (startE ["code", "n", "table", "found", "many", "number", "rank", "row"] ds) (retE R) := by
  rintro ds R ⟨n, B, rfl, hB, hn, hl, h⟩
  unfold m_rank_numbers
  have pw : (2 : Nat) ^ n ≤ 2 ^ 12 := Nat.pow_le_pow_right (by decide) hn
  have p12 : (2 : Nat) ^ 12 = 4096 := by decide
  walk_at "h"
  refine ⟨n, B, rfl, hB, by omega, by omega, ?_⟩
  walk_at "s"
  refine ⟨⟨by omega, by omega⟩, ?_⟩
  rw [show (((n : Nat) : Int) + 1).toNat = n + 1 by omega, rangeD_nats]
  refine ⟨by rw [List.length_map, List.length_range]; omega, compD_map (fun i => .list ((List.range (i + 1)).map fun j => natD (rankC n B 0 i j))) (fun i hi k k0 hk => ?_) ?_⟩
  · have hi := List.mem_range.mp hi
    walk_at "h"
    refine ⟨by omega, by omega, ?_⟩
    have e1 : (List.replicate (((i : Nat) : Int) + 1).toNat [PyData.int 0]).flatten = (List.range (i + 1)).map fun j => natD (rankC n B 0 i j) := by
      rw [List.flatten_replicate_singleton, show (((i : Nat) : Int) + 1).toNat = i + 1 by omega]
      have : ((List.range (i + 1)).map fun j => natD (rankC n B 0 i j)) = (List.range (i + 1)).map fun _ => (.int 0 : D) := List.map_congr_left fun j _ => rfl
      rw [this, List.map_const', List.length_range]
    rw [e1]
    exact hk
  have e0 : ((List.range (n + 1)).map fun i => PyData.list ((List.range (i + 1)).map fun j => natD (rankC n B 0 i j))) = foundC n B 0 := rfl
  rw [e0]
  walk_at "s"
  rw [enum_range]
  refine forD_inv (fun m ρ => ρ = [.val (.tuple [.int ((n : Nat) : Int), .tuple (rowsD B)]), .val (.int ((n : Nat) : Int)), .val (.tuple ((List.range (2 ^ n)).map fun x => natD (rkP B (ptsN n x)))), .own (.list (foundC n B m)), .unk, .unk, .unk, .unk]) _ 0 _ rfl ?_ ?_
  · rintro m x ρ Nx hx rfl hN
    rw [Nat.zero_add] at hN ⊢
    have hm : m < 2 ^ n := by
      have := (List.getElem?_eq_some_iff.mp hx).1
      rwa [List.length_map, List.length_range] at this
    rw [List.getElem?_map, List.getElem?_range hm] at hx
    obtain rfl := Option.some.inj hx
    have lr := rkP_le (B := B) (P := ptsN n m)
    have lp := pts_len n m
    walk_at "h"
    refine ⟨n, m, rfl, by omega, ?_⟩
    walk_at "h"
    refine ⟨(ptsN n m).length, _, by rw [List.length_map], foundC_at lp, solids_of fun j _ => solid_int _, rkP B (ptsN n m), ((rankC n B m (ptsN n m).length (rkP B (ptsN n m)) : Nat) : Int), rfl, ?_, hN _ ?_⟩
    · rw [List.getElem?_map, List.getElem?_range (by omega)]
      rfl
    · walk_at "h"
      rw [foundC_step]
  · rintro ρ rfl
    rw [Nat.zero_add, List.length_map, List.length_range]
    walk_at "h"
    rw [Z.later_cons]
    walk_at "h"
    have ef : foundC n B (2 ^ n) = (List.range (n + 1)).map fun i => PyData.list ((List.range (i + 1)).map fun j => natD (rankC n B (2 ^ n) i j)) := rfl
    rw [ef]
    refine ⟨by rw [List.length_map, List.length_range]; omega, compD_map (fun i => lotD ((List.range (i + 1)).map fun j => rankC n B (2 ^ n) i j)) (fun i hi k k0 hk => ?_) ?_⟩
    · walk_at "h"
      refine ⟨solids_of fun j _ => solid_int _, ?_⟩
      have e1 : lotD ((List.range (i + 1)).map fun j => rankC n B (2 ^ n) i j) = .tuple ((List.range (i + 1)).map fun j => natD (rankC n B (2 ^ n) i j)) := by
        unfold lotD
        rw [List.map_map]
        rfl
      rw [← e1]
      exact hk
    · have e2 : ((List.range (n + 1)).map fun i => lotD ((List.range (i + 1)).map fun j => rankC n B (2 ^ n) i j)) = (numbersN n B).map lotD := by
        unfold numbersN
        rw [List.map_map]
        rfl
      rw [e2]
      exact ⟨solids_of fun L _ => by unfold lotD; rw [solid_tup]; exact solids_nats L, h⟩
theorem at_rank_numbers (T : Tx K mg) : FnAt P w K mg base "rank_numbers" 5 1 (spD K spec_rank_numbers) := by
  obtain ⟨f, fd, hm, F⟩ := T.f_rank_numbers
  refine fnAt_of hm F rfl (F.binds (ps := ["code"]) fun _ _ _ _ _ _ us hl => match us, hl with | [_], _ => rfl) (fnG_of F sc_rank_numbers (spD_len len_rank_numbers) fun cdv A outer s H vs Q E hr hg h => ?_)
  exact body_of (m := fun _ => m_rank_numbers) ["code", "n", "table", "found", "many", "number", "rank", "row"]
    ((pss_cons (ps_par (i := 1) (j := 2) rfl sc_rank_numbers.nd rfl rfl (by decide) rfl rfl (pa_cons (pe_ix ix_seq (pv 0) pe_int (fun _ _ => rfl)) (pa_cons (pe_callG (at_rank_table T) (hr.mono (by decide)) hg (by rfl) (pa_cons (pv 0) pa_nil)) pa_nil)) (by rfl))
      (pss_cons (ps_setLc (i := 3) (own := [("many", 4)]) rfl sc_rank_numbers.nd rfl rfl (sw_true rfl rfl rfl (by decide +kernel)) (pi_range1 (by rfl) T.b_range (pa_cons (pe_op op_addZ (pv 1) pe_int) pa_nil)) (blkOk_by (N := ["code", "n", "table", "found", "many", "number", "rank", "row"]) (sc := defScope s_rank_numbers) (by decide +kernel)) (fun _ _ _ _ _ => (pg_name (i := 4) sc_rank_numbers.nd rfl (by first | exact Or.inl rfl | exact Or.inr rfl))) (fun _ _ _ _ _ => pts_nil) (fun _ _ _ _ _ => (pe_op op_mulZ (pe_lst (pa_cons pe_int pa_nil)) (pe_op op_addZ (pv 4) pe_int))))
      (pss_cons (ps_for PassesOwn.never rfl (pi_enumS (by rfl) T.b_enumerate (pa_cons (pv 2) pa_nil)) (pg_tup rfl (pgs_cons (pg_name (i := 5) sc_rank_numbers.nd rfl (by first | exact Or.inl rfl | exact Or.inr rfl)) (pgs_cons (pg_name (i := 6) sc_rank_numbers.nd rfl (by first | exact Or.inl rfl | exact Or.inr rfl)) pgs_nil))) (pss_one (ps_augS (pe_ix ix_seq (pv 3) (pe_callB call_len (by rfl) T.b_len PySem.boot_len (pa_cons (pe_callG (at_places_of T) (hr.mono (by decide)) hg (by rfl) (pa_cons (pv 1) (pa_cons (pv 5) pa_nil))) pa_nil)) (fun _ _ => rfl)) (pv 6) get_list0 pe_int ip_add set_list)))
      (pss_one (ps_ret (pe_callTy call_tupF (by rfl) T.b_tuple (by decide +kernel) (pa_cons (pe_lc (own := [("row", 7)]) rfl sc_rank_numbers.nd (pi_seq (pv 3)) (blkOk_by (N := ["code", "n", "table", "found", "many", "number", "rank", "row"]) (sc := defScope s_rank_numbers) (by decide +kernel)) (fun _ _ _ _ _ => (pg_name (i := 7) sc_rank_numbers.nd rfl (by first | exact Or.inl rfl | exact Or.inr rfl))) (fun _ _ _ _ _ => pts_nil) (fun _ _ _ _ _ => (pe_callTy call_tupF (by rfl) T.b_tuple (by decide +kernel) (pa_cons (pv 7) pa_nil)))) pa_nil))))))))
    (fun S => (ds_seq (ds_par 1 2 (da_cons (de_solid (de_opA oa_ix (de_var 0) de_int)) (da_cons (de_call (da_cons (de_var 0) da_nil)) da_nil)))
      (ds_seq (ds_asg 3 (de_lc (di_rng1 (da_cons (de_op od_add (de_var 1) de_int) da_nil)) (dg_name 4) dt_yes (de_op od_mul (de_lst (da_cons de_int da_nil)) (de_op od_add (de_var 4) de_int)) (by decide)))
      (ds_seq (ds_for (Wg := [5, 6]) (Wb := [3]) (F := [5, 6]) (di_enum (da_cons (de_var 2) da_nil)) (dg_tup (dgs_cons (dg_name 5) (dgs_cons (dg_name 6) dgs_nil))) (ds_aug2 3 (de_cb cd_len (da_cons (de_call (da_cons (de_var 1) (da_cons (de_var 5) da_nil))) da_nil)) (de_var 6) de_int) (by decide))
      (ds_ret (de_cb cd_tuple (da_cons (de_lc (di_seq (de_var 3)) (dg_name 7) dt_yes (de_cb cd_tuple (da_cons (de_var 7) da_nil)) (by decide)) da_nil))))))) h (fun S ds R hs => pl_rank_numbers ds R hs)
def spec_unfolded : List D → (D → Prop) → Prop := fun ds R => ∃ (n : Nat) (A : Nat → Nat), ds = [.int ((n : Nat) : Int), .list ((List.range (n + 1)).map fun m => natD (((List.range (m + 1)).map fun w => A w * chsW n m w).sum))] ∧ n ≤ 12 ∧ R (.tuple ((List.range (n + 1)).map fun w => natD (A w)))
theorem len_unfolded : ∀ ds R, spec_unfolded ds R → ds.length = 2 := by
  rintro ds R ⟨n, A, rfl, _⟩
  rfl
def m_unfolded : DMS :=
  (sSeq (sAsg 2 (dLst dNil))
  (sSeq (sFor (dRng1 (dCons (dBin fAdd (dVar 0) (dC (.int 1))) dNil)) (dgName 3) (sSeq (sAsg 4 (dCall fSumA (dCons (dComp (dRng1 (dCons (dVar 3) dNil)) (dgName 5) dYes (dBin fMul (dBin fIx (dVar 2) (dVar 5)) (dCall fComb (dCons (dBin (f2I fun i j => .int (i - j)) (dVar 0) (dVar 5)) (dCons (dBin (f2I fun i j => .int (i - j)) (dVar 3) (dVar 5)) dNil)))) [5]) dNil)))
  (sAppend 2 (dBin (f2I fun i j => .int (i - j)) (dBin fIx (dVar 1) (dVar 3)) (dVar 4)))) [3, 4, 2] [3, 4])
  (sRet (dCall fTuple (dCons (dVar 2) dNil)))))
theorem chs_small : ∀ a, a < 17 → ∀ b, b < a + 1 → chs a b < 2 ^ 60 := by decide +kernel
theorem nat_sum (L : List Nat) (f : Nat → Nat) : (L.map fun w => (((f w : Nat) : Int))).sum = (((L.map f).sum : Nat) : Int) := by
  rw [cast_sum, List.map_map]
  rfl
theorem pl_unfolded : ∀ ds R, spec_unfolded ds R → m_unfolded (startE ["n", "sums", "found", "m", "less", "w"] ds) (retE R) := by
  rintro ds R ⟨n, A, rfl, hn, h⟩
  unfold m_unfolded
  walk_at "h"
  walk_at "s"
  refine ⟨⟨by omega, by omega⟩, ?_⟩
  rw [show (((n : Nat) : Int) + 1).toNat = n + 1 by omega]
  refine forD_inv (fun m ρ => ρ = [.val (natD n), .val (.list ((List.range (n + 1)).map fun m => natD (((List.range (m + 1)).map fun w => A w * chsW n m w).sum))), .own (.list ((List.range m).map fun w => natD (A w))), .unk, .unk, .unk]) _ 0 _ rfl ?_ ?_
  · rintro m x ρ Nx hx rfl hN
    obtain ⟨hm, rfl⟩ := range_at hx
    rw [Nat.zero_add] at hN ⊢
    walk_at "h"
    rw [Int.toNat_natCast, rangeD_nats]
    refine ⟨⟨by omega, by omega⟩, by rw [List.length_map, List.length_range]; omega, compD_map (fun w => natD (A w * chsW n m w)) (fun w hw k k0 hk => ?_) ?_⟩
    · have hw := List.mem_range.mp hw
      walk_at "h"
      refine ⟨natD (A w), by rw [at_map (k := w) rfl (by rw [List.length_range]; exact hw), List.getElem_range], n - w, m - w, ?_, by omega, ?_⟩
      · rw [Int.natCast_sub (by omega), Int.natCast_sub (by omega)]
      · rw [chs_comb (n - w) (by omega) (m - w) (by omega)]
        have cb := chs_small (n - w) (by omega) (m - w) (by omega)
        unfold chsW at hk
        rw [if_pos (by omega)] at hk
        dsimp only
        refine ⟨.inr ⟨by omega, by omega⟩, ?_⟩
        have e1 : natD (A w * chs (n - w) (m - w)) = .int (((A w : Nat) : Int) * ((chs (n - w) (m - w) : Nat) : Int)) := by
          show PyData.int _ = _
          push_cast
          rfl
        rw [← e1]
        exact hk
    · refine ⟨(List.range m).map fun w => ((A w * chsW n m w : Nat) : Int), by rw [List.map_map]; rfl, ?_⟩
      rw [nat_sum]
      walk_at "s"
      refine ⟨_, at_map (k := m) rfl (by rw [List.length_range]; exact hm), ?_⟩
      rw [List.getElem_range]
      walk_at "h"
      refine ⟨by rw [List.length_map, List.length_range]; omega, hN _ ?_⟩
      walk_at "h"
      have e1 : chsW n m m = 1 := by
        unfold chsW
        rw [if_pos (Nat.le_refl _), Nat.sub_self, chs_zero]
      have e3 : (List.range (m + 1)).map (fun w => natD (A w)) = (List.range m).map (fun w => natD (A w)) ++ [natD (A m)] := by
        rw [List.range_succ, List.map_append]
        rfl
      have e4 : ((List.range (m + 1)).map fun w => A w * chsW n m w).sum = ((List.range m).map fun w => A w * chsW n m w).sum + A m := by
        rw [List.range_succ, List.map_append, List.sum_append]
        simp [e1]
      have e5 : (((((List.range (m + 1)).map fun w => A w * chsW n m w).sum : Nat) : Int) - ((((List.range m).map fun w => A w * chsW n m w).sum : Nat) : Int)) = ((A m : Nat) : Int) := by omega
      rw [e3, e5]
  · rintro ρ rfl
    rw [Nat.zero_add, rangeD_len]
    walk_at "h"
    rw [Z.later_cons]
    walk_at "h"
    exact ⟨solids_of fun w _ => solid_int _, h⟩
theorem at_unfolded (T : Tx K mg) : FnAt P w K mg base "unfolded" 1 2 (spD K spec_unfolded) := by
  obtain ⟨f, fd, hm, F⟩ := T.f_unfolded
  refine fnAt_of hm F rfl (F.binds (ps := ["n", "sums"]) fun _ _ _ _ _ _ us hl => match us, hl with | [_, _], _ => rfl) (fnG_of F sc_unfolded (spD_len len_unfolded) fun cdv A outer s H vs Q E hr hg h => ?_)
  exact body_of (m := fun _ => m_unfolded) ["n", "sums", "found", "m", "less", "w"]
    ((pss_cons (ps_set (i := 2) sc_unfolded.nd rfl (by first | exact Or.inl rfl | exact Or.inr rfl) (pe_lst pa_nil))
      (pss_cons (ps_for PassesOwn.never rfl (pi_range1 (by rfl) T.b_range (pa_cons (pe_op op_addZ (pv 0) pe_int) pa_nil)) (pg_name (i := 3) sc_unfolded.nd rfl (by first | exact Or.inl rfl | exact Or.inr rfl)) (pss_cons (ps_set (i := 4) sc_unfolded.nd rfl (by first | exact Or.inl rfl | exact Or.inr rfl) (pe_callB (cr_sumA rfl) (by rfl) T.b_sum (by decide +kernel) (pa_cons (pe_lc (own := [("w", 5)]) rfl sc_unfolded.nd (pi_range1 (by rfl) T.b_range (pa_cons (pv 3) pa_nil)) (blkOk_by (N := ["n", "sums", "found", "m", "less", "w"]) (sc := defScope s_unfolded) (by decide +kernel)) (fun _ _ _ _ _ => (pg_name (i := 5) sc_unfolded.nd rfl (by first | exact Or.inl rfl | exact Or.inr rfl))) (fun _ _ _ _ _ => pts_nil) (fun _ _ _ _ _ => (pe_op op_mulZ (pe_ix ix_seq (pv 2) (pv 5) (fun _ _ => rfl)) (pe_callBG cr_comb (by rfl) T.t_comb (pa_cons (pe_op op_sub (pv 0) (pv 5)) (pa_cons (pe_op op_sub (pv 3) (pv 5)) pa_nil)))))) pa_nil)))
      (pss_one (ps_expr (pe_bm PySem.F.plainAttrs_list PySem.F.slot_list_append PySem.F.type_list_append mt_append (pv 2) (pa_cons (pe_op op_sub (pe_ix ix_seq (pv 1) (pv 3) (fun _ _ => rfl)) (pv 4)) pa_nil))))))
      (pss_one (ps_ret (pe_callTy call_tupF (by rfl) T.b_tuple (by decide +kernel) (pa_cons (pv 2) pa_nil)))))))
    (fun S => (ds_seq (ds_asg 2 (de_lst da_nil))
      (ds_seq (ds_for (Wg := [3]) (Wb := [4, 2]) (F := [3, 4]) (di_rng1 (da_cons (de_op od_add (de_var 0) de_int) da_nil)) (dg_name 3) (ds_seq (ds_asg 4 (de_cb cd_sumA (da_cons (de_lc (di_rng1 (da_cons (de_var 3) da_nil)) (dg_name 5) dt_yes (de_op od_mul (de_opA oa_ix (de_var 2) (de_var 5)) (de_cb cd_comb (da_cons (de_op od_I0 (de_var 0) (de_var 5)) (da_cons (de_op od_I0 (de_var 3) (de_var 5)) da_nil)))) (by decide)) da_nil)))
      (ds_append 2 (de_op od_I0 (de_opA oa_ix (de_var 1) (de_var 3)) (de_var 4)))) (by decide))
      (ds_ret (de_cb cd_tuple (da_cons (de_var 2) da_nil)))))) h (fun S ds R hs => pl_unfolded ds R hs)
def spec_weights_by_ranks : List D → (D → Prop) → Prop := fun ds R => ∃ (n : Nat) (B V : List (List Bool)), ds = [.int ((n : Nat) : Int), .int ((B.length : Nat) : Int), rnkD n B] ∧ Len n B ∧ Ind n B ∧ n ≤ 12 ∧ V.Perm (sums n B) ∧ R (.tuple ((List.range (n + 1)).map fun w => natD (weightW V w)))
theorem len_weights_by_ranks : ∀ ds R, spec_weights_by_ranks ds R → ds.length = 3 := by
  rintro ds R ⟨n, B, V, rfl, _⟩
  rfl
def m_weights_by_ranks : DMS :=
  (sSeq (sAsg 3 (dLst dNil))
  (sSeq (sFor (dRng1 (dCons (dBin fAdd (dVar 0) (dC (.int 1))) dNil)) (dgName 4) (sAppend 3 (dCall fSumA (dCons (dComp (dEnum (dCons (dBin fIx (dVar 2) (dBin (f2I fun i j => .int (i - j)) (dVar 0) (dVar 4))) dNil)) (dgTup 2 (dgCons (dgName 5) (dgCons (dgName 6) dgNil))) (dTest (dBin (f2I fun i j => .bool (decide (j < i))) (dVar 6) (dC (.int 0)))) (dBin fMul (dVar 6) (dBin (f2IC CPow fun i j => .int (i * 2 ^ j.toNat)) (dC (.int 1)) (dBin (f2I fun i j => .int (i - j)) (dVar 1) (dVar 5)))) [5, 6]) dNil))) [4, 3] [4])
  (sRet (dCall spec_unfolded (dCons (dVar 0) (dCons (dVar 3) dNil))))))
theorem sum_pos (f g : Nat → Nat) : ∀ L : List Nat, ((L.filter fun j => decide (0 < f j)).map fun j => f j * g j).sum = (L.map fun j => f j * g j).sum
  | [] => rfl
  | a :: L => by
    have ih := sum_pos f g L
    rw [List.filter_cons, List.map_cons, List.sum_cons]
    by_cases c : 0 < f a
    · rw [if_pos (by simpa using c), List.map_cons, List.sum_cons, ih]
    · rw [if_neg (by simpa using c), ih, show f a = 0 by omega, Nat.zero_mul, Nat.zero_add]
theorem rankC_le {n : Nat} {B : List (List Bool)} (hB : Len n B) (iB : Ind n B) {k i j : Nat} (h : 0 < rankC n B k i j) : j ≤ B.length := by
  unfold rankC at h
  obtain ⟨x, hx⟩ := List.exists_mem_of_ne_nil _ (List.length_pos_iff.mp h)
  have := (List.mem_filter.mp hx).2
  rw [Bool.and_eq_true, beq_iff_eq, beq_iff_eq] at this
  have m := rkP_mono hB iB (P := ptsN n x) (Q := List.range n) fun p hp => List.mem_range.mpr (mem_pts.mp hp).1
  rw [rkP_all hB iB] at m
  omega
theorem pl_weights_by_ranks : ∀ ds R, spec_weights_by_ranks ds R → m_weights_by_ranks (startE ["n", "r", "numbers", "sums", "m", "j", "many"] ds) (retE R) := by
  rintro ds R ⟨n, B, V, rfl, hB, iB, hn, pV, h⟩
  unfold m_weights_by_ranks
  walk_at "h"
  walk_at "s"
  refine ⟨⟨by omega, by omega⟩, ?_⟩
  rw [show (((n : Nat) : Int) + 1).toNat = n + 1 by omega]
  have lB := ind_count hB iB
  have pw : (2 : Nat) ^ n ≤ 2 ^ 12 := Nat.pow_le_pow_right (by decide) hn
  have p12 : (2 : Nat) ^ 12 = 4096 := by decide
  have rb : ∀ i j, rankC n B (2 ^ n) i j ≤ 4096 := fun i j => by
    have := List.length_filter_le (fun x => (ptsN n x).length == i && rkP B (ptsN n x) == j) (List.range (2 ^ n))
    rw [List.length_range] at this
    unfold rankC
    omega
  refine forD_inv (fun m ρ => ρ = [.val (natD n), .val (natD B.length), .val (rnkD n B), .own (.list ((List.range m).map fun m => natD (sumsC n B (n - m)))), .unk, .unk, .unk]) _ 0 _ rfl ?_ ?_
  · rintro m x ρ Nx hx rfl hN
    obtain ⟨hm, rfl⟩ := range_at hx
    rw [Nat.zero_add] at hN ⊢
    unfold rnkD at hN ⊢
    walk_at "h"
    refine ⟨_, num_at (i := n - m) (by omega) (by omega), ?_⟩
    dsimp only
    rw [enum_range]
    refine ⟨by rw [List.length_map, List.length_range]; omega, compD_filter (fun j => natD (rankC n B (2 ^ n) (n - m) j * 2 ^ (B.length - j))) (fun j => decide (0 < rankC n B (2 ^ n) (n - m) j)) (fun j hj k k0 h1 h0 => ?_) ?_⟩
    · have b := rb (n - m) j
      walk_at "h"
      have ec : decide ((0 : Int) < ((rankC n B (2 ^ n) (n - m) j : Nat) : Int)) = decide (0 < rankC n B (2 ^ n) (n - m) j) := by
        rw [Bool.eq_iff_iff, decide_eq_true_iff, decide_eq_true_iff]
        omega
      rw [ec]
      cases c : decide (0 < rankC n B (2 ^ n) (n - m) j)
      · exact h0 c
      · have hk := h1 c
        have jr := rankC_le hB iB (of_decide_eq_true c)
        rw [cond_true]
        refine ⟨⟨by omega, by omega, by decide⟩, .inl ⟨by omega, by omega⟩, ?_⟩
        rw [show (((B.length : Nat) : Int) - ((j : Nat) : Int)).toNat = B.length - j by omega]
        have e1 : natD (rankC n B (2 ^ n) (n - m) j * 2 ^ (B.length - j)) = .int (((rankC n B (2 ^ n) (n - m) j : Nat) : Int) * (1 * 2 ^ (B.length - j))) := by
          show PyData.int _ = _
          push_cast
          rw [Int.one_mul]
        rw [← e1]
        exact hk
    · refine ⟨((List.range (n - m + 1)).filter fun j => decide (0 < rankC n B (2 ^ n) (n - m) j)).map fun j => ((rankC n B (2 ^ n) (n - m) j * 2 ^ (B.length - j) : Nat) : Int), by rw [List.map_map]; rfl, by rw [List.length_map, List.length_range]; omega, ?_⟩
      rw [nat_sum, sum_pos (fun j => rankC n B (2 ^ n) (n - m) j) (fun j => 2 ^ (B.length - j)), numbers_C]
      refine hN _ ?_
      walk_at "h"
      rw [List.range_succ, List.map_append]
      rfl
  · rintro ρ rfl
    rw [Nat.zero_add, rangeD_len]
    walk_at "h"
    rw [Z.later_cons]
    walk_at "h"
    refine ⟨n, weightW V, ?_, hn, h⟩
    have e1 : ((List.range (n + 1)).map fun m => natD (sumsC n B (n - m))) = (List.range (n + 1)).map fun m => natD (((List.range (m + 1)).map fun w => weightW V w * chsW n m w).sum) := List.map_congr_left fun m hm => by
      rw [code_sums (by omega) hB iB pV (by have := List.mem_range.mp hm; omega)]
    rw [e1]
theorem at_weights_by_ranks (T : Tx K mg) : FnAt P w K mg base "weights_by_ranks" 2 3 (spD K spec_weights_by_ranks) := by
  obtain ⟨f, fd, hm, F⟩ := T.f_weights_by_ranks
  refine fnAt_of hm F rfl (F.binds (ps := ["n", "r", "numbers"]) fun _ _ _ _ _ _ us hl => match us, hl with | [_, _, _], _ => rfl) (fnG_of F sc_weights_by_ranks (spD_len len_weights_by_ranks) fun cdv A outer s H vs Q E hr hg h => ?_)
  exact body_of (m := fun _ => m_weights_by_ranks) ["n", "r", "numbers", "sums", "m", "j", "many"]
    ((pss_cons (ps_set (i := 3) sc_weights_by_ranks.nd rfl (by first | exact Or.inl rfl | exact Or.inr rfl) (pe_lst pa_nil))
      (pss_cons (ps_for PassesOwn.never rfl (pi_range1 (by rfl) T.b_range (pa_cons (pe_op op_addZ (pv 0) pe_int) pa_nil)) (pg_name (i := 4) sc_weights_by_ranks.nd rfl (by first | exact Or.inl rfl | exact Or.inr rfl)) (pss_one (ps_expr (pe_bm PySem.F.plainAttrs_list PySem.F.slot_list_append PySem.F.type_list_append mt_append (pv 3) (pa_cons (pe_callB (cr_sumA rfl) (by rfl) T.b_sum (by decide +kernel) (pa_cons (pe_lc (own := [("j", 5), ("many", 6)]) rfl sc_weights_by_ranks.nd (pi_enumS (by rfl) T.b_enumerate (pa_cons (pe_ix ix_seq (pv 2) (pe_op op_sub (pv 0) (pv 4)) (fun _ _ => rfl)) pa_nil)) (blkOk_by (N := ["n", "r", "numbers", "sums", "m", "j", "many"]) (sc := defScope s_weights_by_ranks) (by decide +kernel)) (fun _ _ _ _ _ => (pg_tup rfl (pgs_cons (pg_name (i := 5) sc_weights_by_ranks.nd rfl (by first | exact Or.inl rfl | exact Or.inr rfl)) (pgs_cons (pg_name (i := 6) sc_weights_by_ranks.nd rfl (by first | exact Or.inl rfl | exact Or.inr rfl)) pgs_nil)))) (fun _ _ _ _ _ => (pts_one (pt_cmpR op_gt (pv 6) pe_int (nomark _)))) (fun _ _ _ _ _ => (pe_op op_mulZ (pv 6) (pe_op op_shl pe_int (pe_op op_sub (pv 1) (pv 5)))))) pa_nil)) pa_nil)))))
      (pss_one (ps_ret (pe_callG (at_unfolded T) (hr.mono (by decide)) hg (by rfl) (pa_cons (pv 0) (pa_cons (pv 3) pa_nil))))))))
    (fun S => (ds_seq (ds_asg 3 (de_lst da_nil))
      (ds_seq (ds_for (Wg := [4]) (Wb := [3]) (F := [4]) (di_rng1 (da_cons (de_op od_add (de_var 0) de_int) da_nil)) (dg_name 4) (ds_append 3 (de_cb cd_sumA (da_cons (de_lc (di_enum (da_cons (de_opA oa_ix (de_var 2) (de_op od_I0 (de_var 0) (de_var 4))) da_nil)) (dg_tup (dgs_cons (dg_name 5) (dgs_cons (dg_name 6) dgs_nil))) (dt_val (de_op od_B0 (de_var 6) de_int)) (de_op od_mul (de_var 6) (de_op od_IC de_int (de_op od_I0 (de_var 1) (de_var 5)))) (by decide)) da_nil))) (by decide))
      (ds_ret (de_call (da_cons (de_var 0) (da_cons (de_var 3) da_nil))))))) h (fun S ds R hs => pl_weights_by_ranks ds R hs)
def spec_other_weights_by_ranks : List D → (D → Prop) → Prop := fun ds R => ∃ (n : Nat) (r : D) (B S O V : List (List Bool)), ds = [.int ((n : Nat) : Int), r, rnkD n B] ∧ Len n B ∧ Ind n B ∧ Rref n B S ∧ Rref n (freeRows n S) O ∧ n ≤ 12 ∧ V.Perm (sums n O) ∧ R (.tuple ((List.range (n + 1)).map fun w => natD (weightW V w)))
theorem len_other_weights_by_ranks : ∀ ds R, spec_other_weights_by_ranks ds R → ds.length = 3 := by
  rintro ds R ⟨n, r, B, S, O, V, rfl, _⟩
  rfl
def m_other_weights_by_ranks : DMS :=
  (sSeq (sAsg 3 (dLst dNil))
  (sSeq (sFor (dRng1 (dCons (dBin fAdd (dVar 0) (dC (.int 1))) dNil)) (dgName 4) (sAppend 3 (dCall fSumA (dCons (dComp (dEnum (dCons (dBin fIx (dVar 2) (dVar 4)) dNil)) (dgTup 2 (dgCons (dgName 5) (dgCons (dgName 6) dgNil))) dYes (dBin fMul (dVar 6) (dBin (f2IC CPow fun i j => .int (i * 2 ^ j.toNat)) (dC (.int 1)) (dBin (f2I fun i j => .int (i - j)) (dVar 4) (dVar 5)))) [5, 6]) dNil))) [4, 3] [4])
  (sRet (dCall spec_unfolded (dCons (dVar 0) (dCons (dVar 3) dNil))))))
theorem pl_other_weights_by_ranks : ∀ ds R, spec_other_weights_by_ranks ds R → m_other_weights_by_ranks (startE ["n", "r", "numbers", "sums", "m", "j", "many"] ds) (retE R) := by
  rintro ds R ⟨n, r, B, S, O, V, rfl, hB, iB, hS, hO, hn, pV, h⟩
  unfold m_other_weights_by_ranks
  walk_at "h"
  walk_at "s"
  refine ⟨⟨by omega, by omega⟩, ?_⟩
  rw [show (((n : Nat) : Int) + 1).toNat = n + 1 by omega]
  have lB := ind_count hB iB
  have pw : (2 : Nat) ^ n ≤ 2 ^ 12 := Nat.pow_le_pow_right (by decide) hn
  have p12 : (2 : Nat) ^ 12 = 4096 := by decide
  have rb : ∀ i j, rankC n B (2 ^ n) i j ≤ 4096 := fun i j => by
    have := List.length_filter_le (fun x => (ptsN n x).length == i && rkP B (ptsN n x) == j) (List.range (2 ^ n))
    rw [List.length_range] at this
    unfold rankC
    omega
  refine forD_inv (fun m ρ => ρ = [.val (natD n), .val r, .val (rnkD n B), .own (.list ((List.range m).map fun m => natD (sumsO n B m))), .unk, .unk, .unk]) _ 0 _ rfl ?_ ?_
  · rintro m x ρ Nx hx rfl hN
    obtain ⟨hm, rfl⟩ := range_at hx
    rw [Nat.zero_add] at hN ⊢
    unfold rnkD at hN ⊢
    walk_at "h"
    refine ⟨_, num_at (i := m) (by omega) (by omega), ?_⟩
    dsimp only
    rw [enum_range]
    refine ⟨by rw [List.length_map, List.length_range]; omega, compD_map (fun j => natD (rankC n B (2 ^ n) m j * 2 ^ (m - j))) (fun j hj k k0 hk => ?_) ?_⟩
    · have b := rb m j
      have hj := List.mem_range.mp hj
      walk_at "h"
      refine ⟨⟨by omega, by omega, by decide⟩, .inl ⟨by omega, by omega⟩, ?_⟩
      rw [show (((m : Nat) : Int) - ((j : Nat) : Int)).toNat = m - j by omega]
      have e1 : natD (rankC n B (2 ^ n) m j * 2 ^ (m - j)) = .int (((rankC n B (2 ^ n) m j : Nat) : Int) * (1 * 2 ^ (m - j))) := by
        show PyData.int _ = _
        push_cast
        rw [Int.one_mul]
      rw [← e1]
      exact hk
    · refine ⟨(List.range (m + 1)).map fun j => ((rankC n B (2 ^ n) m j * 2 ^ (m - j) : Nat) : Int), by rw [List.map_map]; rfl, by rw [List.length_map, List.length_range]; omega, ?_⟩
      rw [nat_sum, numbers_O]
      refine hN _ ?_
      walk_at "h"
      rw [List.range_succ, List.map_append]
      rfl
  · rintro ρ rfl
    rw [Nat.zero_add, rangeD_len]
    walk_at "h"
    rw [Z.later_cons]
    walk_at "h"
    refine ⟨n, weightW V, ?_, hn, h⟩
    have e1 : ((List.range (n + 1)).map fun m => natD (sumsO n B m)) = (List.range (n + 1)).map fun m => natD (((List.range (m + 1)).map fun w => weightW V w * chsW n m w).sum) := List.map_congr_left fun m hm => by
      rw [other_sums (by omega) hB iB hS hO pV (by have := List.mem_range.mp hm; omega)]
    rw [e1]
theorem at_other_weights_by_ranks (T : Tx K mg) : FnAt P w K mg base "other_weights_by_ranks" 2 3 (spD K spec_other_weights_by_ranks) := by
  obtain ⟨f, fd, hm, F⟩ := T.f_other_weights_by_ranks
  refine fnAt_of hm F rfl (F.binds (ps := ["n", "r", "numbers"]) fun _ _ _ _ _ _ us hl => match us, hl with | [_, _, _], _ => rfl) (fnG_of F sc_other_weights_by_ranks (spD_len len_other_weights_by_ranks) fun cdv A outer s H vs Q E hr hg h => ?_)
  exact body_of (m := fun _ => m_other_weights_by_ranks) ["n", "r", "numbers", "sums", "m", "j", "many"]
    ((pss_cons (ps_set (i := 3) sc_other_weights_by_ranks.nd rfl (by first | exact Or.inl rfl | exact Or.inr rfl) (pe_lst pa_nil))
      (pss_cons (ps_for PassesOwn.never rfl (pi_range1 (by rfl) T.b_range (pa_cons (pe_op op_addZ (pv 0) pe_int) pa_nil)) (pg_name (i := 4) sc_other_weights_by_ranks.nd rfl (by first | exact Or.inl rfl | exact Or.inr rfl)) (pss_one (ps_expr (pe_bm PySem.F.plainAttrs_list PySem.F.slot_list_append PySem.F.type_list_append mt_append (pv 3) (pa_cons (pe_callB (cr_sumA rfl) (by rfl) T.b_sum (by decide +kernel) (pa_cons (pe_lc (own := [("j", 5), ("many", 6)]) rfl sc_other_weights_by_ranks.nd (pi_enumS (by rfl) T.b_enumerate (pa_cons (pe_ix ix_seq (pv 2) (pv 4) (fun _ _ => rfl)) pa_nil)) (blkOk_by (N := ["n", "r", "numbers", "sums", "m", "j", "many"]) (sc := defScope s_other_weights_by_ranks) (by decide +kernel)) (fun _ _ _ _ _ => (pg_tup rfl (pgs_cons (pg_name (i := 5) sc_other_weights_by_ranks.nd rfl (by first | exact Or.inl rfl | exact Or.inr rfl)) (pgs_cons (pg_name (i := 6) sc_other_weights_by_ranks.nd rfl (by first | exact Or.inl rfl | exact Or.inr rfl)) pgs_nil)))) (fun _ _ _ _ _ => pts_nil) (fun _ _ _ _ _ => (pe_op op_mulZ (pv 6) (pe_op op_shl pe_int (pe_op op_sub (pv 4) (pv 5)))))) pa_nil)) pa_nil)))))
      (pss_one (ps_ret (pe_callG (at_unfolded T) (hr.mono (by decide)) hg (by rfl) (pa_cons (pv 0) (pa_cons (pv 3) pa_nil))))))))
    (fun S => (ds_seq (ds_asg 3 (de_lst da_nil))
      (ds_seq (ds_for (Wg := [4]) (Wb := [3]) (F := [4]) (di_rng1 (da_cons (de_op od_add (de_var 0) de_int) da_nil)) (dg_name 4) (ds_append 3 (de_cb cd_sumA (da_cons (de_lc (di_enum (da_cons (de_opA oa_ix (de_var 2) (de_var 4)) da_nil)) (dg_tup (dgs_cons (dg_name 5) (dgs_cons (dg_name 6) dgs_nil))) dt_yes (de_op od_mul (de_var 6) (de_op od_IC de_int (de_op od_I0 (de_var 4) (de_var 5)))) (by decide)) da_nil))) (by decide))
      (ds_ret (de_call (da_cons (de_var 0) (da_cons (de_var 3) da_nil))))))) h (fun S ds R hs => pl_other_weights_by_ranks ds R hs)
theorem at__law_source (T : Tx K mg) : FnAt P w K mg base "_law_source" 1 1 (spSource K) := by
  obtain ⟨f, fd, hm, F⟩ := T.f__law_source
  refine fnAt_of hm F rfl (F.binds (ps := ["script"]) fun _ _ _ _ _ _ us hl => match us, hl with | [_], _ => rfl) (fnG_of F sc__law_source (fun vs H Q E h => by obtain ⟨a, ns, rfl, _⟩ := h; rfl) fun cdv A outer s H vs Q E hr hg h => ⟨tSource K, ?_, source_reading h⟩)
  exact (pss_cons (ps_set (i := 1) sc__law_source.nd rfl (.inl rfl) pe_int) (pss_cons (ps_for PassesOwn.never rfl (pi_list (pv 0)) (pg_name (i := 2) sc__law_source.nd rfl (.inl rfl))
    (pss_one (ps_set (i := 1) sc__law_source.nd rfl (.inl rfl) (pe_op op_mod (pe_callTy call_int1 (by rfl) T.b_int (by decide +kernel) (pa_cons (pe_op op_add (pe_op op_add (pe_op op_mul (pv 1) pe_int) (pe_op op_mul (pv 2) pe_int)) pe_int) pa_nil)) pe_int))))
    (pss_one (ps_ret (pe_disp (pps_cons pe_str (pe_revL (pe_lc (own := [("cell", 2)]) rfl sc__law_source.nd (pi_list (pv 0)) (blkOk_by (N := ["script", "mixed", "cell"]) (sc := defScope s__law_source) (by decide +kernel)) (fun _ _ _ _ _ => pg_name (i := 2) sc__law_source.nd rfl (.inl rfl)) (fun _ _ _ _ _ => pts_nil)
      (fun _ _ _ _ _ => pe_callB call_abs (by rfl) T.b_abs (by decide +kernel) (pa_cons (pv 2) pa_nil))))
      (pps_cons pe_str pe_int (pps_cons pe_str (pv 1) (pps_cons pe_str pe_int pps_nil)))) (by rfl) (by rfl) (fun z => by cases z) (by decide))))))
theorem at__law_pick (T : Tx K mg) : FnAt P w K mg base "_law_pick" 1 2 (spD K specPick) := by
  obtain ⟨f, fd, hm, F⟩ := T.f__law_pick
  refine fnAt_of hm F rfl (F.binds (ps := ["source", "many"]) fun _ _ _ _ _ _ us hl => match us, hl with | [_, _], _ => rfl) (fnG_of F sc__law_pick (spD_len fun ds R h => by obtain ⟨n, rfl, _⟩ := h; rfl) fun cdv A outer s H vs Q E hr hg h => ⟨tPick K, ?_, pick_reading h⟩)
  have hu := hu_of hr
  exact (pss_cons (ps_while PassesOwn.never (PW.pt (pw_and (pt_cmpR op_gt (pv 1) pe_int (nomark _)) (pw_and (pt_cmpR op_lt (pe_dget hu (pv 0) pe_str (fun _ _ => rfl)) pe_int (nomark _))
      (pw_and1 (pt_cmpR op_gt (pe_callB call_len (by rfl) T.b_len PySem.boot_len (pa_cons (pe_dget hu (pv 0) pe_str (fun _ _ => rfl)) pa_nil)) pe_int (nomark _))))))
      (pss_one (ps_dput hu (pv 0) pe_str (pe_bm0 PySem.F.plainAttrs_list PySem.F.slot_list_pop PySem.F.type_list_pop mt_pop (pe_dget hu (pv 0) pe_str (fun _ _ => rfl))) rfl)))
    (pss_cons (ps_set (i := 2) sc__law_pick.nd rfl (.inl rfl) (pe_dget hu (pv 0) pe_str (fun _ _ => rfl)))
    (pss_cons (ps_if (PW.pt (pw_or (pt_cmpR op_lt (pv 1) pe_int (nomark _)) (pw_or1 (pt_cmpR op_gt (pv 2) pe_int (nomark _)))))
      (pss_cons (ps_dput hu (pv 0) pe_str (pe_op op_fdiv (pv 2) (pe_callB (call_max2 rfl) (by rfl) T.b_max (by decide +kernel) (pa_cons pe_int (pa_cons (pv 1) pa_nil)))) rfl)
        (pss_one (ps_ret (pe_op op_mod (pe_callTy call_int1 (by rfl) T.b_int (by decide +kernel) (pa_cons (pv 2) pa_nil)) (pe_callB (call_max2 rfl) (by rfl) T.b_max (by decide +kernel) (pa_cons pe_int (pa_cons (pv 1) pa_nil)))))))
      pss_nil)
    (pss_cons (ps_dput hu (pv 0) pe_str (pe_op op_add (pe_dget hu (pv 0) pe_str (fun _ _ => rfl)) pe_int) rfl)
    (pss_cons (ps_set (i := 3) sc__law_pick.nd rfl (.inl rfl) (pe_op op_mod (pe_callTy call_int1 (by rfl) T.b_int (by decide +kernel) (pa_cons (pe_op op_add (pe_dget hu (pv 0) pe_str (fun _ _ => rfl)) (pe_op op_mul (pe_dget hu (pv 0) pe_str (fun _ _ => rfl)) pe_int)) pa_nil)) pe_int))
    (pss_cons (ps_set (i := 3) sc__law_pick.nd rfl (.inl rfl) (pe_op op_mod (pe_callTy call_int1 (by rfl) T.b_int (by decide +kernel) (pa_cons (pe_op op_add (pe_op op_mul (pv 3) (pv 3)) (pe_op op_mul (pe_dget hu (pv 0) pe_str (fun _ _ => rfl)) pe_int)) pa_nil)) pe_int))
    (pss_cons (ps_dput hu (pv 0) pe_str (pv 3) rfl)
    (pss_one (ps_ret (pe_op op_mod (pe_callTy call_int1 (by rfl) T.b_int (by decide +kernel) (pa_cons (pe_op op_fdiv (pv 3) pe_int) pa_nil)) (pv 1)))))))))))
abbrev spec__law_pick := specPick
def spec__law_sum : List D → (D → Prop) → Prop := fun ds R => ∃ a b : List Bool, ds = [rowD a, rowD b] ∧ a.length = b.length ∧ a.length ≤ 100000 ∧ R (rowD (xr a b))
theorem len__law_sum : ∀ ds R, spec__law_sum ds R → ds.length = 2 := by
  rintro ds R ⟨a, b, rfl, _⟩
  rfl
def m__law_sum : DMS :=
  (sRet (dCall fTuple (dCons (dComp (dZip (dCons (dVar 0) (dCons (dVar 1) dNil))) (dgTup 2 (dgCons (dgName 2) (dgCons (dgName 3) dgNil))) dYes (dCall fInt (dCons (dBin (fEq true) (dVar 2) (dVar 3)) dNil)) [2, 3]) dNil)))
theorem pl__law_sum : ∀ ds R, spec__law_sum ds R → m__law_sum (startE ["one", "other", "a", "b"] ds) (retE R) := by
  rintro ds R ⟨a, b, rfl, hl, hn, h⟩
  unfold m__law_sum
  walk_at "z"
  rw [row_ints, row_ints, zipD_map]
  refine ⟨by rw [List.length_map, List.length_zip]; omega, compD_map (fun p => .int (bI (p.1 ^^ p.2))) (fun p hp k k0 hk => ?_) ⟨solids_of fun p _ => solid_int _, ?_⟩⟩
  · obtain ⟨x, y⟩ := p
    walk_at "z"
    refine fEq_bI ?_
    walk_at "z"
    have e : (!(x == y)) = (x ^^ y) := by cases x <;> cases y <;> rfl
    rw [e]
    exact hk
  · rw [xr_zip]
    exact h
theorem at__law_sum (T : Tx K mg) : FnAt P w K mg base "_law_sum" 1 2 (spD K spec__law_sum) := by
  obtain ⟨f, fd, hm, F⟩ := T.f__law_sum
  refine fnAt_of hm F rfl (F.binds (ps := ["one", "other"]) fun _ _ _ _ _ _ us hl => match us, hl with | [_, _], _ => rfl) (fnG_of F sc__law_sum (spD_len len__law_sum) fun cdv A outer s H vs Q E hr hg h => ?_)
  exact body_of (m := fun _ => m__law_sum) ["one", "other", "a", "b"]
    ((pss_one (ps_ret (pe_callTy call_tupF (by rfl) T.b_tuple (by decide +kernel) (pa_cons (pe_lc (own := [("a", 2), ("b", 3)]) rfl sc__law_sum.nd (RZ.pi_zipA (by rfl) T.b_zip (pa_cons (pv 0) (pa_cons (pv 1) pa_nil))) (blkOk_by (N := ["one", "other", "a", "b"]) (sc := defScope s__law_sum) (by decide +kernel)) (fun _ _ _ _ _ => (pg_tup rfl (pgs_cons (pg_name (i := 2) sc__law_sum.nd rfl (by first | exact Or.inl rfl | exact Or.inr rfl)) (pgs_cons (pg_name (i := 3) sc__law_sum.nd rfl (by first | exact Or.inl rfl | exact Or.inr rfl)) pgs_nil)))) (fun _ _ _ _ _ => pts_nil) (fun _ _ _ _ _ => (pe_callTy call_int1 (by rfl) T.b_int (by decide +kernel) (pa_cons (pe_cmpR (op_neZ hr.units) (pv 2) (pv 3) (nomark _)) pa_nil)))) pa_nil)))))
    (fun S => (ds_ret (de_cb cd_tuple (da_cons (de_lc (di_zip (da_cons (de_var 0) (da_cons (de_var 1) da_nil))) (dg_tup (dgs_cons (dg_name 2) (dgs_cons (dg_name 3) dgs_nil))) dt_yes (de_cb cd_int (da_cons (de_op od_eq (de_var 2) (de_var 3)) da_nil)) (by decide)) da_nil)))) h (fun S ds R hs => pl__law_sum ds R hs)
def spec__law_rows : List D → (D → Prop) → Prop := fun ds R => ∃ (n : Nat) (B : List (List Bool)), ds = [.int ((n + 1 : Nat) : Int), .tuple (rowsD B)] ∧ Len (n + 1) B ∧ n < 1000 ∧ B.length ≤ 20 ∧ R (.list (rowsD (sortR (sums (n + 1) B))))
theorem len__law_rows : ∀ ds R, spec__law_rows ds R → ds.length = 2 := by
  rintro ds R ⟨n, B, rfl, _⟩
  rfl
def m__law_rows : DMS :=
  (sSeq (sAsg 2 (dLst (dCons (dBin fMul (dTup (dCons (dC (.int 0)) dNil)) (dVar 0)) dNil)))
  (sSeq (sFor (dItems (dVar 1)) (dgName 3) (sAsg 2 (dBin fAdd (dVar 2) (dComp (dItems (dVar 2)) (dgName 4) dYes (dCall spec__law_sum (dCons (dVar 3) (dCons (dVar 4) dNil))) [4]))) [3, 2] [3])
  (sRet (dCall (fSorted false) (dCons (dVar 2) dNil)))))
theorem pl__law_rows : ∀ ds R, spec__law_rows ds R → m__law_rows (startE ["n", "base", "found", "row", "late"] ds) (retE R) := by
  rintro ds R ⟨n, B, rfl, hL, hn, hB, h⟩
  unfold m__law_rows
  walk_at "z"
  refine ⟨by simp, by omega, by omega, ?_⟩
  rw [Int.toNat_natCast, nul_flat]
  have pw : ∀ i, i ≤ B.length → ((B.take i).foldl (fun F b => F ++ F.map (xr b)) [nul (n + 1)]).length ≤ 1048576 := fun i hi => by
    rw [sums_len, List.length_take, List.length_singleton, Nat.one_mul]
    exact Nat.pow_le_pow_right (by decide : 0 < 2) (by omega : min i B.length ≤ 20)
  have LF : ∀ i, Len (n + 1) ((B.take i).foldl (fun F b => F ++ F.map (xr b)) [nul (n + 1)]) := fun i v hv =>
    (sums_go hL (B.take i) [nul (n + 1)] (fun c hc => List.mem_of_mem_take hc) (fun w hw => by rw [List.mem_singleton.mp hw]; exact .zero) v hv).len hL
  refine forD_inv (fun i ρ => ρ = [.val (.int ((n + 1 : Nat) : Int)), .val (.tuple (rowsD B)), .own (.list (rowsD ((B.take i).foldl (fun F b => F ++ F.map (xr b)) [nul (n + 1)]))), .unk, .unk]) _ 0 _ rfl ?_ ?_
  · rintro i x ρ Nx hx rfl hN
    rw [Nat.zero_add] at hN ⊢
    have hi : i < B.length := by
      have := (List.getElem?_eq_some_iff.mp hx).1
      simpa using this
    rw [List.getElem?_map, List.getElem?_eq_getElem hi] at hx
    have ex := Option.some.inj hx
    subst ex
    have lb := hL B[i] (List.getElem_mem hi)
    have l0 := pw i (by omega)
    have l1 := pw (i + 1) (by omega)
    have LFi := LF i
    have es : (B.take (i + 1)).foldl (fun F b => F ++ F.map (xr b)) [nul (n + 1)] = (B.take i).foldl (fun F b => F ++ F.map (xr b)) [nul (n + 1)] ++ ((B.take i).foldl (fun F b => F ++ F.map (xr b)) [nul (n + 1)]).map (xr B[i]) := by
      rw [List.take_succ_eq_append_getElem hi, List.foldl_append]
      rfl
    rw [es] at hN
    generalize (B.take i).foldl (fun F b => F ++ F.map (xr b)) [nul (n + 1)] = F at *
    walk_at "z"
    refine ⟨by rw [List.length_map]; omega, compD_map (fun v => rowD (xr B[i] v)) (fun v hv k k0 hk => ?_) ⟨solids_rowsD _, solids_of fun v _ => solid_rowD _, by rw [List.length_map, List.length_map]; omega, ?_⟩⟩
    · walk_at "z"
      exact ⟨_, v, rfl, by rw [lb, LFi v hv], by omega, hk⟩
    · refine hN _ ?_
      walk_at "z"
      simp [List.map_map, Function.comp_def]
  · rintro ρ rfl
    have lF := pw B.length (Nat.le_refl _)
    have LB := LF B.length
    walk_at "z"
    rw [List.length_map, List.take_length]
    rw [List.take_length] at lF LB
    exact ⟨solids_rowsD _, sortOk_rowsD LB (by omega), by rw [sortD_map]; exact h⟩
theorem at__law_rows (T : Tx K mg) : FnAt P w K mg base "_law_rows" 2 2 (spD K spec__law_rows) := by
  obtain ⟨f, fd, hm, F⟩ := T.f__law_rows
  refine fnAt_of hm F rfl (F.binds (ps := ["n", "base"]) fun _ _ _ _ _ _ us hl => match us, hl with | [_, _], _ => rfl) (fnG_of F sc__law_rows (spD_len len__law_rows) fun cdv A outer s H vs Q E hr hg h => ?_)
  exact body_of (m := fun _ => m__law_rows) ["n", "base", "found", "row", "late"]
    ((pss_cons (ps_set (i := 2) sc__law_rows.nd rfl (by first | exact Or.inl rfl | exact Or.inr rfl) (pe_lst (pa_cons (pe_op op_mulZ (pe_tupF (pa_cons pe_int pa_nil)) (pv 0)) pa_nil)))
      (pss_cons (ps_for PassesOwn.never rfl (pi_seq (pv 1)) (pg_name (i := 3) sc__law_rows.nd rfl (by first | exact Or.inl rfl | exact Or.inr rfl)) (pss_one (ps_set (i := 2) sc__law_rows.nd rfl (by first | exact Or.inl rfl | exact Or.inr rfl) (pe_op op_addZ (pv 2) (pe_lc (own := [("late", 4)]) rfl sc__law_rows.nd (pi_seq (pv 2)) (blkOk_by (N := ["n", "base", "found", "row", "late"]) (sc := defScope s__law_rows) (by decide +kernel)) (fun _ _ _ _ _ => (pg_name (i := 4) sc__law_rows.nd rfl (by first | exact Or.inl rfl | exact Or.inr rfl))) (fun _ _ _ _ _ => pts_nil) (fun _ _ _ _ _ => (pe_callG (at__law_sum T) (hr.mono (by decide)) hg (by rfl) (pa_cons (pv 3) (pa_cons (pv 4) pa_nil)))))))))
      (pss_one (ps_ret (pe_callB (cr_sortZ hr.units) (by rfl) T.b_sorted (by decide +kernel) (pa_cons (pv 2) pa_nil)))))))
    (fun S => (ds_seq (ds_asg 2 (de_lst (da_cons (de_op od_mul (de_tup (da_cons de_int da_nil)) (de_var 0)) da_nil)))
      (ds_seq (ds_for (Wg := [3]) (Wb := [2]) (F := [3]) (di_seq (de_var 1)) (dg_name 3) (ds_asg 2 (de_op od_add (de_var 2) (de_lc (di_seq (de_var 2)) (dg_name 4) dt_yes (de_call (da_cons (de_var 3) (da_cons (de_var 4) da_nil))) (by decide)))) (by decide))
      (ds_ret (de_cb cd_sorted (da_cons (de_var 2) da_nil)))))) h (fun S ds R hs => pl__law_rows ds R hs)
def spec__law_code : List D → (D → Prop) → Prop := fun ds R => ∃ n most : Nat, ds = [srcD, .int ((n + 1 : Nat) : Int), .int ((most : Nat) : Int)] ∧ n ≤ 800 ∧ most ≤ 16 ∧ ∀ B, Len (n + 1) B → Ind (n + 1) B → B.length ≤ most → B.length ≤ n + 1 → R (.tuple [.int ((n + 1 : Nat) : Int), .tuple (rowsD B)])
theorem len__law_code : ∀ ds R, spec__law_code ds R → ds.length = 3 := by
  rintro ds R ⟨n, most, rfl, _⟩
  rfl
def m__law_code : DMS :=
  (sSeq (sAsgG [] (dTup (dCons (dTup dNil) (dCons (dBin fAdd (dC (.int 2)) (dCall spec__law_pick (dCons (dVar 0) (dCons (dC (.int 3)) dNil)))) (dCons (dCall spec__law_pick (dCons (dVar 0) (dCons (dBin fAdd (dCall (f2L fun i j => if j < i then j else i) (dCons (dVar 1) (dCons (dVar 2) dNil))) (dC (.int 1))) dNil))) dNil)))) (dgTup 3 (dgCons (dgName 3) (dgCons (dgName 4) (dgCons (dgName 5) dgNil)))))
  (sSeq (sFor (dRng1 (dCons (dVar 5) dNil)) (dgName 6) (sSeq (sAsg 7 (dCall fTuple (dCons (dComp (dRng1 (dCons (dVar 1) dNil)) (dgName 8) dYes (dCall fInt (dCons (dBin (fEq false) (dCall spec__law_pick (dCons (dVar 0) (dCons (dVar 4) dNil))) (dC (.int 0))) dNil)) [8]) dNil)))
  (sSeq (sIf (dAnd (dTest (dBin (fEq false) (dCall spec__law_pick (dCons (dVar 0) (dCons (dC (.int 4)) dNil))) (dC (.int 0)))) (dTest (dBin (f2I fun i j => .bool (decide (j < i))) (dVar 1) (dC (.int 1))))) (sSeq (sPar 9 10 (dCons (dCall spec__law_pick (dCons (dVar 0) (dCons (dVar 1) dNil))) (dCons (dCall spec__law_pick (dCons (dVar 0) (dCons (dVar 1) dNil))) dNil)))
  (sAsg 7 (dBin fAdd (dBin fAdd (dSlice (dVar 7) dNo (dPart (dVar 9))) (dTup (dCons (dBin fIx (dVar 7) (dVar 10)) dNil))) (dSlice (dVar 7) (dPart (dBin fAdd (dVar 9) (dC (.int 1)))) dNo)))) sNext)
  (sAsg 3 (dBin fAdd (dVar 3) (dIf (dTest (dBin (fIn true) (dVar 7) (dCall spec__law_rows (dCons (dVar 1) (dCons (dVar 3) dNil))))) (dTup (dCons (dVar 7) dNil)) (dTup dNil)))))) [6, 7, 9, 10, 7, 3] [6, 7, 9, 10])
  (sRet (dSolid (dTup (dCons (dVar 1) (dCons (dVar 3) dNil)))))))
theorem pl__law_code : ∀ ds R, spec__law_code ds R → m__law_code (startE ["source", "n", "most", "base", "share", "many", "lap", "row", "place", "k", "j"] ds) (retE R) := by
  rintro ds R ⟨n, most, rfl, hn, hm, h⟩
  unfold m__law_code
  have toRows : ∀ (F : List (List Bool)) (r : List Bool), rowsD F ++ [rowD r] = rowsD (F ++ [r]) := fun F r => by simp
  walk_at "h"
  refine ⟨3, rfl, by omega, fun sh s0 s1 => ?_⟩
  walk_at "h"
  have em : (if ((most : Nat) : Int) < ((n + 1 : Nat) : Int) then ((most : Nat) : Int) else ((n + 1 : Nat) : Int)) = ((min (n + 1) most : Nat) : Int) := by
    split <;> omega
  rw [em]
  refine ⟨((min (n + 1) most : Nat) : Int) + 1, rfl, by omega, fun many m0 m1 => ?_⟩
  walk_at "h"
  refine ⟨by omega, ?_⟩
  refine forD_inv (fun i ρ => ∃ F s3, F.length ≤ i ∧ (s3 = .val (.tuple (rowsD F)) ∨ s3 = .own (.tuple (rowsD F))) ∧ ρ = [.val srcD, .val (.int ((n + 1 : Nat) : Int)), .val (.int ((most : Nat) : Int)), s3, .val (.int (2 + sh)), .val (.int many), .unk, .unk, .unk, .unk, .unk] ∧ Len (n + 1) F ∧ Ind (n + 1) F) _ 0 _ ⟨[], _, by simp, .inl rfl, rfl, fun b hb => (by cases hb), ind_nil⟩ ?_ ?_
  · rintro i x ρ Nx hx ⟨F, s3, lF, h3, rfl, hF, iF⟩ hN
    have l3 : ∀ k : D → Prop, look (some s3) k = k (.tuple (rowsD F)) := fun k => by rcases h3 with rfl | rfl <;> rfl
    have hi : i < many.toNat := by
      have := (List.getElem?_eq_some_iff.mp hx).1
      rw [rangeD_len] at this
      exact this
    walk_at "h"
    refine ⟨⟨by omega, by omega⟩, by rw [rangeD_len]; omega, compD_draw (enc := fun b : Bool => .int (bI b)) (A := fun _ => True) (fun y _ k k0 hk => ?_) fun rs hrs _ => ?_⟩
    · walk_at "h"
      refine ⟨2 + sh, rfl, by omega, fun a a0 a1 => fEq_int ?_⟩
      walk_at "h"
      exact hk _ trivial
    rw [rangeD_len] at hrs
    rw [← row_ints]
    refine ⟨solids_ints _, ?_⟩
    walk_at "s"
    apply joinK (Q := fun ρ => ∃ (r : List Bool) (s9 s10 : Sl), r.length = n + 1 ∧ ρ = [.val srcD, .val (.int ((n + 1 : Nat) : Int)), .val (.int ((most : Nat) : Int)), s3, .val (.int (2 + sh)), .val (.int many), .val x, .own (rowD r), .unk, s9, s10])
    case main =>
      intro key
      refine ⟨4, rfl, by omega, fun a a0 a1 => fEq_int ?_⟩
      walk_at "h"
      cases (a == 0)
      · walk_at "h"
        exact key _ ⟨rs, _, _, by omega, rfl⟩
      · walk_at "h"
        cases decide ((1 : Int) < ((n + 1 : Nat) : Int))
        · walk_at "h"
          exact key _ ⟨rs, _, _, by omega, rfl⟩
        · walk_at "h"
          refine ⟨((n + 1 : Nat) : Int), rfl, by omega, fun c c0 c1 => ⟨((n + 1 : Nat) : Int), rfl, by omega, fun b b0 b1 => ?_⟩⟩
          obtain ⟨c, rfl⟩ : ∃ k : Nat, c = (k : Int) := ⟨c.toNat, by omega⟩
          obtain ⟨b, rfl⟩ : ∃ k : Nat, b = (k : Int) := ⟨b.toNat, by omega⟩
          have e1 : ((c : Nat) : Int) + 1 = ((c + 1 : Nat) : Int) := by omega
          walk_at "s"
          rw [e1]
          simp only [cutL_take, cutL_drop, ← List.map_take, ← List.map_drop]
          have lr : (rowI rs).length = n + 1 := by rw [rowI, List.length_map]; omega
          have l1 := List.length_take_le c (rowI rs)
          have l2 : ((rowI rs).drop (c + 1)).length ≤ n + 1 := by rw [List.length_drop]; omega
          have l3 : ((rowI rs).take c).length ≤ n + 1 := by rw [List.length_take]; omega
          refine fIx_rowD (by omega) ⟨solids_ints _, solid_int _, by rw [List.length_map]; omega, ?_, solids_ints _, by rw [List.length_append, List.length_map, List.length_map, List.length_singleton]; omega, key _ ⟨rs.take c ++ [gt rs b] ++ rs.drop (c + 1), .own (.int ((c : Nat) : Int)), .own (.int ((b : Nat) : Int)), ?_, ?_⟩⟩
          · have e2 : ((rowI rs).take c).map PyData.int ++ [.int (bI (gt rs b))] = ((rowI rs).take c ++ [bI (gt rs b)]).map .int := by simp
            rw [e2]
            exact solids_ints _
          · simp only [List.length_append, List.length_take, List.length_drop, List.length_singleton]
            omega
          · simp [rowI]
    case key =>
      rintro ρ ⟨r, s9, s10, lr, rfl⟩
      rcases h3 with rfl | rfl
      all_goals
        walk_at "s"
        refine ⟨n, F, rfl, hF, by omega, by omega, ?_⟩
        walk_at "h"
        refine fIn_rows ?_
        walk_at "h"
        have hc : (sortR (sums (n + 1) F)).contains r = true ↔ Sp (n + 1) F r := by rw [List.contains_iff_mem, mem_sortR, sums_mem hF]
        have lF2 : (rowsD F).length = F.length := List.length_map ..
        cases c : (sortR (sums (n + 1) F)).contains r
        · walk_at "h"
          have hr1 : Len (n + 1) (F ++ [r]) := len_app hF fun b hb => by rw [List.mem_singleton.mp hb]; exact lr
          rw [toRows]
          exact ⟨solids_rowsD F, by omega, hN _ ⟨F ++ [r], _, by rw [List.length_append, List.length_singleton]; omega, .inr rfl, rfl, hr1, ind_snoc hF lr iF fun s => by rw [hc.mpr s] at c; cases c⟩⟩
        · walk_at "h"
          exact ⟨solids_rowsD F, by omega, hN _ ⟨F, _, by omega, .inr rfl, rfl, hF, iF⟩⟩
  · rintro ρ ⟨F, s3, lF, h3, rfl, hF, iF⟩
    have l3 : ∀ k : D → Prop, look (some s3) k = k (.tuple (rowsD F)) := fun k => by rcases h3 with rfl | rfl <;> rfl
    rw [rangeD_len] at lF
    walk_at "h"
    walk_at "s"
    rcases h3 with rfl | rfl
    · simp only [solid_tup, solids_rowsD, if_true]
      exact ⟨trivial, h F hF iF (by omega) (ind_count hF iF)⟩
    · exact ⟨solids_rowsD F, h F hF iF (by omega) (ind_count hF iF)⟩
theorem at__law_code (T : Tx K mg) : FnAt P w K mg base "_law_code" 3 3 (spD K spec__law_code) := by
  obtain ⟨f, fd, hm, F⟩ := T.f__law_code
  refine fnAt_of hm F rfl (F.binds (ps := ["source", "n", "most"]) fun _ _ _ _ _ _ us hl => match us, hl with | [_, _, _], _ => rfl) (fnG_of F sc__law_code (spD_len len__law_code) fun cdv A outer s H vs Q E hr hg h => ?_)
  exact body_of (m := fun _ => m__law_code) ["source", "n", "most", "base", "share", "many", "lap", "row", "place", "k", "j"]
    ((pss_cons (ps_asg (pe_tupF (pa_cons (pe_tupF pa_nil) (pa_cons (pe_op op_addZ pe_int (pe_callG (at__law_pick T) (hr.mono (by decide)) hg (by rfl) (pa_cons (pv 0) (pa_cons pe_int pa_nil)))) (pa_cons (pe_callG (at__law_pick T) (hr.mono (by decide)) hg (by rfl) (pa_cons (pv 0) (pa_cons (pe_op op_addZ (pe_callB (call_min2 rfl) (by rfl) T.b_min (by decide +kernel) (pa_cons (pv 1) (pa_cons (pv 2) pa_nil))) pe_int) pa_nil))) pa_nil)))) (pg_tup rfl (pgs_cons (pg_name (i := 3) sc__law_code.nd rfl (by first | exact Or.inl rfl | exact Or.inr rfl)) (pgs_cons (pg_name (i := 4) sc__law_code.nd rfl (by first | exact Or.inl rfl | exact Or.inr rfl)) (pgs_cons (pg_name (i := 5) sc__law_code.nd rfl (by first | exact Or.inl rfl | exact Or.inr rfl)) pgs_nil)))))
      (pss_cons (ps_for PassesOwn.never rfl (pi_range1 (by rfl) T.b_range (pa_cons (pv 5) pa_nil)) (pg_name (i := 6) sc__law_code.nd rfl (by first | exact Or.inl rfl | exact Or.inr rfl)) (pss_cons (ps_set (i := 7) sc__law_code.nd rfl (by first | exact Or.inl rfl | exact Or.inr rfl) (pe_callTy call_tupF (by rfl) T.b_tuple (by decide +kernel) (pa_cons (pe_lc (own := [("place", 8)]) rfl sc__law_code.nd (pi_range1 (by rfl) T.b_range (pa_cons (pv 1) pa_nil)) (blkOk_by (N := ["source", "n", "most", "base", "share", "many", "lap", "row", "place", "k", "j"]) (sc := defScope s__law_code) (by decide +kernel)) (fun _ _ _ _ _ => (pg_name (i := 8) sc__law_code.nd rfl (by first | exact Or.inl rfl | exact Or.inr rfl))) (fun _ _ _ _ _ => pts_nil) (fun _ _ _ _ _ => (pe_callTy call_int1 (by rfl) T.b_int (by decide +kernel) (pa_cons (pe_cmpR (op_eqZ hr.units) (pe_callG (at__law_pick T) (hr.mono (by decide)) hg (by rfl) (pa_cons (pv 0) (pa_cons (pv 4) pa_nil))) pe_int (nomark _)) pa_nil)))) pa_nil)))
      (pss_cons (ps_if (PW.pt (pw_and (pt_cmpR (op_eqZ hr.units) (pe_callG (at__law_pick T) (hr.mono (by decide)) hg (by rfl) (pa_cons (pv 0) (pa_cons pe_int pa_nil))) pe_int (nomark _)) (pw_and1 (pt_cmpR op_gt (pv 1) pe_int (nomark _))))) (pss_cons (ps_par (i := 9) (j := 10) rfl sc__law_code.nd rfl rfl (by decide) rfl rfl (pa_cons (pe_callG (at__law_pick T) (hr.mono (by decide)) hg (by rfl) (pa_cons (pv 0) (pa_cons (pv 1) pa_nil))) (pa_cons (pe_callG (at__law_pick T) (hr.mono (by decide)) hg (by rfl) (pa_cons (pv 0) (pa_cons (pv 1) pa_nil))) pa_nil)) (by rfl))
      (pss_one (ps_set (i := 7) sc__law_code.nd rfl (by first | exact Or.inl rfl | exact Or.inr rfl) (pe_op op_addZ (pe_op op_addZ (pe_slice sl_cut (pv 7) po_none (po_some (pv 9))) (pe_tupF (pa_cons (pe_ix ix_seq (pv 7) (pv 10) (fun _ _ => rfl)) pa_nil))) (pe_slice sl_cut (pv 7) (po_some (pe_op op_addZ (pv 9) pe_int)) po_none))))) pss_nil)
      (pss_one (ps_set (i := 3) sc__law_code.nd rfl (by first | exact Or.inl rfl | exact Or.inr rfl) (pe_op op_addZ (pv 3) (pe_ifExp (pt_cmpR (op_notInZ hr.units) (pv 7) (pe_callG (at__law_rows T) (hr.mono (by decide)) hg (by rfl) (pa_cons (pv 1) (pa_cons (pv 3) pa_nil))) (by with_unfolding_all rfl)) (pe_tupF (pa_cons (pv 7) pa_nil)) (pe_tupF pa_nil))))))))
      (pss_one (ps_ret (pe_tupF (pa_cons (pv 1) (pa_cons (pv 3) pa_nil))))))))
    (fun S => (ds_seq (ds_asgG (de_tup (da_cons (de_tup da_nil) (da_cons (de_op od_add de_int (de_call (da_cons (de_var 0) (da_cons de_int da_nil)))) (da_cons (de_call (da_cons (de_var 0) (da_cons (de_op od_add (de_cb cd_min2 (da_cons (de_var 1) (da_cons (de_var 2) da_nil))) de_int) da_nil))) da_nil)))) (dg_tup (dgs_cons (dg_name 3) (dgs_cons (dg_name 4) (dgs_cons (dg_name 5) dgs_nil)))))
      (ds_seq (ds_for (Wg := [6]) (Wb := [7, 9, 10, 7, 3]) (F := [6, 7, 9, 10]) (di_rng1 (da_cons (de_var 5) da_nil)) (dg_name 6) (ds_seq (ds_asg 7 (de_cb cd_tuple (da_cons (de_lc (di_rng1 (da_cons (de_var 1) da_nil)) (dg_name 8) dt_yes (de_cb cd_int (da_cons (de_op od_eq (de_call (da_cons (de_var 0) (da_cons (de_var 4) da_nil))) de_int) da_nil)) (by decide)) da_nil)))
      (ds_seq (ds_if (dt_and (dt_val (de_op od_eq (de_call (da_cons (de_var 0) (da_cons de_int da_nil))) de_int)) (dt_val (de_op od_B0 (de_var 1) de_int))) (ds_seq (ds_par 9 10 (da_cons (de_call (da_cons (de_var 0) (da_cons (de_var 1) da_nil))) (da_cons (de_call (da_cons (de_var 0) (da_cons (de_var 1) da_nil))) da_nil)))
      (ds_asg 7 (de_op od_add (de_op od_add (de_slice (de_var 7) do_no (do_part (de_var 9))) (de_tup (da_cons (de_opA oa_ix (de_var 7) (de_var 10)) da_nil))) (de_slice (de_var 7) (do_part (de_op od_add (de_var 9) de_int)) do_no)))) ds_next)
      (ds_asg 3 (de_op od_add (de_var 3) (de_if (dt_val (de_op od_in (de_var 7) (de_call (da_cons (de_var 1) (da_cons (de_var 3) da_nil))))) (de_tup (da_cons (de_var 7) da_nil)) (de_tup da_nil)))))) (by decide))
      (ds_ret (de_solid (de_tup (da_cons (de_var 1) (da_cons (de_var 3) da_nil)))))))) h (fun S ds R hs => pl__law_code ds R hs)
def spec__law_lot_of : List D → (D → Prop) → Prop := fun ds R => ∃ n x : Nat, ds = [natD n, natD x] ∧ n ≤ 20 ∧ R (.tuple ((ptsN n x).map natD))
theorem len__law_lot_of : ∀ ds R, spec__law_lot_of ds R → ds.length = 2 := by
  rintro ds R ⟨n, x, rfl, _⟩
  rfl
def m__law_lot_of : DMS :=
  (sRet (dCall fTuple (dCons (dComp (dRng1 (dCons (dVar 0) dNil)) (dgName 2) (dTest (dBin (fEq false) (dBin (f2IC (fun _ j => 0 < j) fun i j => .int (i % j)) (dCall fInt (dCons (dBin (f2IC CDiv fun i j => .int (i / j)) (dVar 1) (dBin (f2IC CPow fun i j => .int (i * 2 ^ j.toNat)) (dC (.int 1)) (dVar 2))) dNil)) (dC (.int 2))) (dC (.int 1)))) (dSolid (dVar 2)) [2]) dNil)))
theorem pl__law_lot_of : ∀ ds R, spec__law_lot_of ds R → m__law_lot_of (startE ["n", "number", "place"] ds) (retE R) := by
  rintro ds R ⟨n, x, rfl, hn, h⟩
  unfold m__law_lot_of
  walk_at "h"
  rw [Int.toNat_natCast, rangeD_nats]
  refine ⟨⟨by omega, by omega⟩, by rw [List.length_map, List.length_range]; omega, compD_filter natD (fun p => Nat.testBit x p) (fun p hp k k0 h1 h0 => ?_) ⟨solids_nats _, h⟩⟩
  have := List.mem_range.mp hp
  walk_at "h"
  rw [Int.toNat_natCast, Int.one_mul]
  have lt30 : (2 : Int) ^ p < 1073741824 := by
    have : (2 : Nat) ^ p < 2 ^ 30 := Nat.pow_lt_pow_right (by decide) (by omega)
    rw [show ((2 : Int) ^ p) = ((2 ^ p : Nat) : Int) by norm_cast]
    exact Int.ofNat_lt.mpr this
  refine ⟨⟨by omega, by omega, by decide⟩, ⟨Int.pow_pos (by decide), lt30⟩, by decide, fEq_int ?_⟩
  walk_at "h"
  rw [bit_mod]
  cases g : Nat.testBit x p
  · exact h0 g
  · exact h1 g
theorem at__law_lot_of (T : Tx K mg) : FnAt P w K mg base "_law_lot_of" 1 2 (spD K spec__law_lot_of) := by
  obtain ⟨f, fd, hm, F⟩ := T.f__law_lot_of
  refine fnAt_of hm F rfl (F.binds (ps := ["n", "number"]) fun _ _ _ _ _ _ us hl => match us, hl with | [_, _], _ => rfl) (fnG_of F sc__law_lot_of (spD_len len__law_lot_of) fun cdv A outer s H vs Q E hr hg h => ?_)
  exact body_of (m := fun _ => m__law_lot_of) ["n", "number", "place"]
    ((pss_one (ps_ret (pe_callTy call_tupF (by rfl) T.b_tuple (by decide +kernel) (pa_cons (pe_lc (own := [("place", 2)]) rfl sc__law_lot_of.nd (pi_range1 (by rfl) T.b_range (pa_cons (pv 0) pa_nil)) (blkOk_by (N := ["n", "number", "place"]) (sc := defScope s__law_lot_of) (by decide +kernel)) (fun _ _ _ _ _ => (pg_name (i := 2) sc__law_lot_of.nd rfl (by first | exact Or.inl rfl | exact Or.inr rfl))) (fun _ _ _ _ _ => (pts_one (pt_cmpR (op_eqZ hr.units) (pe_op op_mod (pe_callTy call_int1 (by rfl) T.b_int (by decide +kernel) (pa_cons (pe_op op_fdiv (pv 1) (pe_op op_shl pe_int (pv 2))) pa_nil)) pe_int) pe_int (nomark _)))) (fun _ _ _ _ _ => (pv 2))) pa_nil)))))
    (fun S => (ds_ret (de_cb cd_tuple (da_cons (de_lc (di_rng1 (da_cons (de_var 0) da_nil)) (dg_name 2) (dt_val (de_op od_eq (de_op od_IC (de_cb cd_int (da_cons (de_op od_IC (de_var 1) (de_op od_IC de_int (de_var 2))) da_nil)) de_int) de_int)) (de_solid (de_var 2)) (by decide)) da_nil)))) h (fun S ds R hs => pl__law_lot_of ds R hs)
def spec__law_table : List D → (D → Prop) → Prop := fun ds R => (∃ (n : Nat) (B : List (List Bool)), ds = [natD n, .list ((List.range n).map fun p => .list (bitsD (colB B p))), .int 2] ∧ Len n B ∧ n ≤ 16 ∧ B.length ≤ 10000 ∧ R (.tuple ((List.range (2 ^ n)).map fun x => natD (rkP B (ptsN n x))))) ∨
  ∃ (n q m : Nat) (C : Nat → List Int), ds = [natD n, .list ((List.range n).map fun p => .list ((C p).map .int)), natD q] ∧ 1 < q ∧ q ≤ 100 ∧ Inv1 q ∧ (∀ p, Vec q m (C p)) ∧ n ≤ 16 ∧ m ≤ 10000 ∧ R (.tuple ((List.range (2 ^ n)).map fun x => natD (rkC q m C (ptsN n x))))
theorem len__law_table : ∀ ds R, spec__law_table ds R → ds.length = 3 := by
  rintro ds R (⟨n, B, rfl, _⟩ | ⟨n, q, m, C, rfl, _⟩) <;> rfl
def m__law_table : DMS :=
  (sSeq (sPar 3 4 (dCons (dLst (dCons (dC (.int 0)) dNil)) (dCons (dLst (dCons (dFrz (dLst dNil)) dNil)) dNil)))
  (sSeq (sFor (dRng2 (dCons (dC (.int 1)) (dCons (dBin (f2IC CPow fun i j => .int (i * 2 ^ j.toNat)) (dC (.int 1)) (dVar 0)) dNil))) (dgName 5) (sSeq (sAsg 6 (dBin fIxF (dCall spec__law_lot_of (dCons (dVar 0) (dCons (dVar 5) dNil))) (dUn (f1I fun i => .int (-i)) (dC (.int 1)))))
  (sSeq (sPar 7 8 (dCons (dSolid (dBin fIxF (dVar 4) (dBin (f2I fun i j => .int (i - j)) (dVar 5) (dBin (f2IC CPow fun i j => .int (i * 2 ^ j.toNat)) (dC (.int 1)) (dVar 6))))) (dCons (dCall fList (dCons (dBin fIxF (dVar 1) (dVar 6)) dNil)) dNil)))
  (sSeq (sFor (dItemsZ (dVar 7)) (dgTup 2 (dgCons (dgName 9) (dgCons (dgName 10) dgNil))) (sAsg 8 (dComp (dZipF (dCons (dVar 8) (dCons (dVar 10) dNil))) (dgTup 2 (dgCons (dgName 11) (dgCons (dgName 12) dgNil))) dYes (dBin (f2IC (fun _ j => 0 < j) fun i j => .int (i % j)) (dCall fInt (dCons (dBin (f2I fun i j => .int (i - j)) (dVar 11) (dBin fMul (dBin fIxF (dVar 8) (dVar 9)) (dVar 12))) dNil)) (dVar 2)) [11, 12])) [9, 10, 8] [10])
  (sSeq (sAsg 13 (dComp (dEnum (dCons (dVar 8) dNil)) (dgTup 2 (dgCons (dgName 9) (dgCons (dgName 14) dgNil))) (dTest (dBin (fEq true) (dVar 14) (dC (.int 0)))) (dSolid (dVar 9)) [9, 14]))
  (sSeq (sIf (dTest (dBin (fEq true) (dVar 13) (dLst dNil))) (sSeq (sAsg 15 (dBin fIxF (dComp (dRng1 (dCons (dVar 2) dNil)) (dgName 14) (dTest (dBin (fEq false) (dBin (f2IC (fun _ j => 0 < j) fun i j => .int (i % j)) (dCall fInt (dCons (dBin fMul (dVar 14) (dBin fIxF (dVar 8) (dBin fIxF (dVar 13) (dC (.int 0))))) dNil)) (dVar 2)) (dC (.int 1)))) (dSolid (dVar 14)) [14]) (dC (.int 0))))
  (sAsg 7 (dFrz (dBin fCatE (dSolid (dVar 7)) (dLst (dCons (dTup (dCons (dSolid (dBin fIxF (dVar 13) (dC (.int 0)))) (dCons (dFrz (dComp (dItems (dVar 8)) (dgName 14) dYes (dBin (f2IC (fun _ j => 0 < j) fun i j => .int (i % j)) (dCall fInt (dCons (dBin fMul (dVar 15) (dVar 14)) dNil)) (dVar 2)) [14])) dNil))) dNil)))))) sNext)
  (sSeq (sAppend 4 (dSolid (dVar 7)))
  (sAppend 3 (dCall fLenF (dCons (dVar 7) dNil))))))))) [5, 6, 7, 8, 9, 10, 8, 13, 15, 7, 4, 3] [5, 6, 7, 8, 9, 10, 13, 15])
  (sRet (dCall fTuple (dCons (dVar 3) dNil)))))
theorem table_two {n : Nat} {B : List (List Bool)} {R : D → Prop} (hB : Len n B) (hn : n ≤ 16) (hl : B.length ≤ 10000) (h : R (.tuple ((List.range (2 ^ n)).map fun x => natD (rkP B (ptsN n x))))) : m__law_table (startE ["n", "columns", "by", "found", "spans", "number", "place", "heads", "left", "k", "head", "a", "b", "some", "one", "turn"] [natD n, .list ((List.range n).map fun p => .list (bitsD (colB B p))), .int 2]) (retE R) := by
  unfold m__law_table
  have pw : (2 : Nat) ^ n ≤ 2 ^ 16 := Nat.pow_le_pow_right (by decide) hn
  have e : (1 : Int) * 2 ^ ((n : Nat) : Int).toNat = ((2 ^ n : Nat) : Int) := by rw [Int.toNat_natCast, Int.one_mul]; norm_cast
  walk_at "h"
  walk_at "s"
  rw [e]
  have pi : ((2 ^ n : Nat) : Int) ≤ 65536 := Int.le_trans (Int.ofNat_le.mpr pw) (by decide)
  have p0 : (0 : Int) ≤ ((2 ^ n : Nat) : Int) := Int.natCast_nonneg _
  have p1 : 0 < 2 ^ n := Nat.pow_pos (by decide)
  have eN : (((2 ^ n : Nat) : Int) - 1).toNat = 2 ^ n - 1 := by omega
  have tt := fun x => tabT_ok (C := colB B) (fun p => colB_len B p) n x
  refine ⟨⟨by omega, by omega, by decide⟩, ⟨by omega, by omega, by omega, by omega⟩, ?_⟩
  refine forD_inv (fun i ρ => ρ = [.val (natD n), .val (.list ((List.range n).map fun p => .list (bitsD (colB B p)))), .val (.int 2), .own (.list ((List.range (i + 1)).map fun x => natD (tabT (colB B) n x).length)), .own (.list ((List.range (i + 1)).map fun x => frzD ((tabT (colB B) n x).map hedD))), .unk, .unk, .unk, .unk, .unk, .unk, .unk, .unk, .unk, .unk, .unk]) _ 0 _ ?_ ?_ ?_
  · have z : tabT (colB B) n 0 = [] := by unfold tabT; rw [pts_zero]; rfl
    simp [z]
  · rintro i x ρ Nx hx rfl hN
    rw [Nat.zero_add] at hN ⊢
    have hi : i < 2 ^ n - 1 := by
      have := (List.getElem?_eq_some_iff.mp hx).1
      rw [rangeD_len, eN] at this
      exact this
    obtain rfl : natD (i + 1) = x := by
      unfold rangeD at hx
      rw [List.getElem?_map, List.getElem?_range (by omega)] at hx
      have := Option.some.inj hx
      rw [← this]
      show PyData.int _ = PyData.int _
      congr 1
      omega
    obtain ⟨p, Q, e1, hpn, ge, lt, e2⟩ := pts_top (n := n) (x := i + 1) (by omega) (by omega)
    have ad := tabT_top (C := colB B) e1 e2
    walk_at "h"
    refine ⟨n, i + 1, rfl, by omega, ?_⟩
    rw [e1]
    walk_at "h"
    have en : ((i + 1 : Nat) : Int) - 2 ^ p = ((i + 1 - 2 ^ p : Nat) : Int) := by
      rw [show ((2 : Int) ^ p) = ((2 ^ p : Nat) : Int) by norm_cast]
      omega
    refine ⟨natD p, by
      have : ixN (Q.length + 1) (-1) = some Q.length := by
        unfold ixN
        simp
        omega
      simp [atI, this], ?_⟩
    walk_at "s"
    rw [Int.toNat_natCast, Int.one_mul, en]
    refine ⟨⟨by omega, by omega, by decide⟩, frzD ((tabT (colB B) n (i + 1 - 2 ^ p)).map hedD), atI_ok (j := i + 1 - 2 ^ p) (by rw [List.getElem?_map, List.getElem?_range (by omega)]; rfl) rfl, ?_⟩
    refine ⟨solid_frz _, _, atI_ok (j := p) (by rw [List.getElem?_map, List.getElem?_range hpn]; rfl) rfl, ?_⟩
    walk_at "h"
    refine ⟨solids_bitsD _, ?_⟩
    have T := tt (i + 1 - 2 ^ p)
    have lH : ∀ a ∈ tabT (colB B) n (i + 1 - 2 ^ p), a.2.length = B.length := fun a ha => T.len _ (List.mem_map.mpr ⟨a, ha, rfl⟩)
    walk_at "s"
    refine ⟨_, rfl, ?_⟩
    refine forD_fold hedD (fun l a => clr a.1 a.2 l) (fun l ρ => l.length = B.length ∧ ∃ s9, ρ = [.val (natD n), .val (.list ((List.range n).map fun p => .list (bitsD (colB B p)))), .val (.int 2), .val (.list ((List.range (i + 1)).map fun x => natD (tabT (colB B) n x).length)), .val (.list ((List.range (i + 1)).map fun x => frzD ((tabT (colB B) n x).map hedD))), .val (natD (i + 1)), .val (natD p), .val (frzD ((tabT (colB B) n (i + 1 - 2 ^ p)).map hedD)), .own (.list (bitsD l)), s9, .unk, .unk, .unk, .unk, .unk, .unk]) (tabT (colB B) n (i + 1 - 2 ^ p)) (colB B p) _ ⟨colB_len _ _, _, rfl⟩ ?_ ?_
    · rintro a ha l ρ Nx2 Bk2 ⟨ll, s9, rfl⟩ hN2
      obtain ⟨k, r⟩ := a
      have lr : r.length = B.length := lH _ ha
      have lk : k < B.length := T.lt _ ha
      unfold hedD
      walk_at "h"
      refine ⟨_, _, bitsD l, bitsD r, rfl, .inl rfl, .inr rfl, ?_⟩
      rw [zip_bitsD]
      refine ⟨by rw [List.length_map, List.length_zip]; omega, compD_map (fun q => .int (bI (if gt l k then q.1 ^^ q.2 else q.1))) (fun q hq k1 k10 hk => ?_) ?_⟩
      · obtain ⟨x, y⟩ := q
        walk_at "h"
        refine ⟨_, at_bitsD (by omega), ?_⟩
        walk_at "h"
        have e5 : (bI x - bI (gt l k) * bI y) % 2 = bI (if gt l k then x ^^ y else x) := by cases x <;> cases y <;> cases gt l k <;> rfl
        rw [e5]
        exact ⟨by unfold CMul; cases gt l k <;> cases y <;> decide, by decide, hk⟩
      · rw [clr_zip (by omega)]
        exact hN2 _ ⟨clr_len lr ll, _, rfl⟩
    · rintro ρ ⟨ll, s9, rfl⟩
      obtain ⟨r1, r2, r3, _⟩ := redT_ok _ T.len T.one T.low (colB B p) (colB_len B p)
      have ef : (tabT (colB B) n (i + 1 - 2 ^ p)).foldl (fun l a => clr a.1 a.2 l) (colB B p) = redT (tabT (colB B) n (i + 1 - 2 ^ p)) (colB B p) := rfl
      rw [ef]
      unfold addT at ad
      generalize redT (tabT (colB B) n (i + 1 - 2 ^ p)) (colB B p) = v at *
      walk_at "h"
      walk_at "s"
      have eb : bitsD v = v.map fun b => .int (bI b) := rfl
      rw [eb, enumD_map]
      refine ⟨by rw [List.length_map, List.length_zipIdx]; omega, compD_filter (fun q => .int ((q.2 : Nat) : Int)) (fun q => q.1) (fun q hq k1 k10 h1 h0 => ?_) ?_⟩
      · walk_at "h"
        refine fEq_int ?_
        walk_at "h"
        cases g : q.1
        · exact h0 g
        · exact h1 g
      have ei : (v.zipIdx.filter fun q => q.1).map (fun q => (.int ((q.2 : Nat) : Int) : D)) = (idxs v).map natD := by rw [← zip_idxs, List.map_map]; rfl
      rw [ei]
      walk_at "s"
      cases e6 : idxs v with
      | nil =>
        rw [e6] at ad
        refine fEq_list_nil (fun b _ => plain_nat _) ?_
        simp only [List.isEmpty_nil]
        walk_at "h"
        walk_at "s"
        refine ⟨by rw [List.length_map, List.length_range]; omega, ?_⟩
        walk_at "s"
        refine ⟨_, .inr rfl, by rw [List.length_map, List.length_range]; omega, hN _ ?_⟩
        walk_at "h"
        rw [List.range_succ (n := i + 1), List.map_append, List.map_append, List.map_singleton, List.map_singleton, ad, List.length_map]
      | cons k more =>
        rw [e6] at ad
        refine fEq_list_nil (fun b _ => plain_nat _) ?_
        rw [show (if true = true then !(k :: more).isEmpty else (k :: more).isEmpty) = true from rfl]
        walk_at "h"
        have gk : gt v k = true := mem_idxs.mp (by rw [e6]; exact List.mem_cons_self ..)
        have lk : k < v.length := idxs_lt (mem_idxs.mpr gk)
        refine ⟨⟨by decide, by decide⟩, by decide, ?_⟩
        have er : rangeD 0 (Int.toNat 2) 1 = [0, 1].map natD := rfl
        rw [er]
        refine compD_filter natD (fun x => x == 1) (fun x hx k1 k10 h1 h0 => ?_) ?_
        · walk_at "h"
          have ek : (v.map fun b => (.int (bI b) : D)) = bitsD v := rfl
          rw [ek]
          refine ⟨_, at_bitsD lk, ?_⟩
          rw [gk]
          walk_at "h"
          refine ⟨.inr (by decide), by decide, fEq_int ?_⟩
          walk_at "h"
          have e7 : ((x : Nat) : Int) * bI true % 2 = x := by
            rcases List.mem_cons.mp hx with rfl | hx
            · rfl
            · rw [List.mem_singleton.mp hx]; rfl
          have e8 : (((x : Nat) : Int) == 1) = (x == 1) := by
            rcases List.mem_cons.mp hx with rfl | hx
            · rfl
            · rw [List.mem_singleton.mp hx]; rfl
          rw [e7, e8]
          cases g : x == 1
          · exact h0 g
          · exact h1 g
        have ef2 : (([0, 1] : List Nat).filter fun x => x == 1) = [1] := rfl
        rw [ef2]
        refine ⟨natD 1, rfl, ?_⟩
        walk_at "s"
        refine ⟨by rw [List.length_map]; omega, compD_map (fun b => .int (bI b)) (fun b hb k1 k10 hk => ?_) ⟨solids_bitsD v, (tabT (colB B) n (i + 1 - 2 ^ p)).map hedD, [hedD (k, v)], .inr rfl, .inl rfl, solids_heds _, by rw [solids_cons, solid_hed]; rfl, ?_, ?_⟩⟩
        · walk_at "h"
          have e7 : ((1 : Nat) : Int) * bI b % 2 = bI b := by cases b <;> rfl
          refine ⟨.inl (by decide), by decide, ?_⟩
          rw [e7]
          exact hk
        · have t2 := (tt (i + 1 - 2 ^ p)).rank fun b hb => by obtain ⟨q, _, rfl⟩ := List.mem_map.mp hb; exact colB_len B q
          have t3 := rk_le ((ptsN n (i + 1 - 2 ^ p)).map (colB B))
          have t4 := pts_len n (i + 1 - 2 ^ p)
          rw [List.length_map] at t3
          rw [List.length_map, List.length_singleton]
          omega
        have e9 : (tabT (colB B) n (i + 1 - 2 ^ p)).map hedD ++ [hedD (k, v)] = (tabT (colB B) n (i + 1)).map hedD := by rw [ad]; simp
        rw [e9]
        refine ⟨solids_heds _, ?_⟩
        walk_at "s"
        refine ⟨by rw [List.length_map, List.length_range]; omega, ?_⟩
        walk_at "s"
        refine ⟨_, .inr rfl, by rw [List.length_map, List.length_range]; omega, hN _ ?_⟩
        walk_at "h"
        rw [List.range_succ (n := i + 1), List.map_append, List.map_append, List.map_singleton, List.map_singleton, List.length_map]
  · rintro ρ rfl
    rw [rangeD_len, eN]
    walk_at "h"
    walk_at "s"
    have e3 : 2 ^ n - 1 + 1 = 2 ^ n := by omega
    rw [e3]
    have e4 : (fun x => natD (tabT (colB B) n x).length) = fun x => natD (rkP B (ptsN n x)) := funext fun x => by rw [tabT_rank hB]
    rw [e4]
    exact ⟨solids_of fun x _ => solid_int _, h⟩
def hedM (a : Nat × List Int) : D := .tuple [natD a.1, frzD (a.2.map .int)]
theorem solid_hedM (a : Nat × List Int) : solid (hedM a) = true := by
  unfold hedM
  simp [solid, solids, solid_frz]
theorem solids_hedMs (H : List (Nat × List Int)) : solids (H.map hedM) = true := solids_of fun a _ => solid_hedM a
theorem rkS_le (p : Int) (m : Nat) : ∀ S : List (List Int), rkS p m S ≤ S.length
  | [] => Nat.le_refl _
  | u :: S => by
    have ih := rkS_le p m S
    rw [List.length_cons]
    by_cases h : Spn p m S u
    · rw [rkS_in h]; omega
    · rw [rkS_out h]; omega
theorem table_q {n q m : Nat} {C : Nat → List Int} {R : D → Prop} (hq : 1 < q) (q1 : q ≤ 100) (ip : Inv1 q) (hC : ∀ p, Vec q m (C p)) (hn : n ≤ 16) (hm : m ≤ 10000) (h : R (.tuple ((List.range (2 ^ n)).map fun x => natD (rkC q m C (ptsN n x))))) : m__law_table (startE ["n", "columns", "by", "found", "spans", "number", "place", "heads", "left", "k", "head", "a", "b", "some", "one", "turn"] [natD n, .list ((List.range n).map fun p => .list ((C p).map .int)), natD q]) (retE R) := by
  unfold m__law_table
  have pw : (2 : Nat) ^ n ≤ 2 ^ 16 := Nat.pow_le_pow_right (by decide) hn
  have e : (1 : Int) * 2 ^ ((n : Nat) : Int).toNat = ((2 ^ n : Nat) : Int) := by rw [Int.toNat_natCast, Int.one_mul]; norm_cast
  walk_at "h"
  walk_at "s"
  rw [e]
  have pi : ((2 ^ n : Nat) : Int) ≤ 65536 := Int.le_trans (Int.ofNat_le.mpr pw) (by decide)
  have p0 : (0 : Int) ≤ ((2 ^ n : Nat) : Int) := Int.natCast_nonneg _
  have p1 : 0 < 2 ^ n := Nat.pow_pos (by decide)
  have eN : (((2 ^ n : Nat) : Int) - 1).toNat = 2 ^ n - 1 := by omega
  refine ⟨⟨by omega, by omega, by decide⟩, ⟨by omega, by omega, by omega, by omega⟩, ?_⟩
  refine forD_inv (fun i ρ => ρ = [.val (natD n), .val (.list ((List.range n).map fun p => .list ((C p).map .int))), .val (natD q), .own (.list ((List.range (i + 1)).map fun x => natD (tabM q C n x).length)), .own (.list ((List.range (i + 1)).map fun x => frzD ((tabM q C n x).map hedM))), .unk, .unk, .unk, .unk, .unk, .unk, .unk, .unk, .unk, .unk, .unk]) _ 0 _ ?_ ?_ ?_
  · have z : tabM q C n 0 = [] := by unfold tabM; rw [pts_zero]; rfl
    simp [z]
  · rintro i x ρ Nx hx rfl hN
    rw [Nat.zero_add] at hN ⊢
    have hi : i < 2 ^ n - 1 := by
      have := (List.getElem?_eq_some_iff.mp hx).1
      rw [rangeD_len, eN] at this
      exact this
    obtain rfl : natD (i + 1) = x := by
      unfold rangeD at hx
      rw [List.getElem?_map, List.getElem?_range (by omega)] at hx
      have := Option.some.inj hx
      rw [← this]
      show PyData.int _ = PyData.int _
      congr 1
      omega
    obtain ⟨p, Q, e1, hpn, ge, lt, e2⟩ := pts_top (n := n) (x := i + 1) (by omega) (by omega)
    have ad := tabM_top (q := q) (C := C) e1 e2
    walk_at "h"
    refine ⟨n, i + 1, rfl, by omega, ?_⟩
    rw [e1]
    walk_at "h"
    have enn : ((i + 1 : Nat) : Int) - 2 ^ p = ((i + 1 - 2 ^ p : Nat) : Int) := by
      rw [show ((2 : Int) ^ p) = ((2 ^ p : Nat) : Int) by norm_cast]
      omega
    refine ⟨natD p, by
      have : ixN (Q.length + 1) (-1) = some Q.length := by
        unfold ixN
        simp
        omega
      simp [atI, this], ?_⟩
    walk_at "s"
    rw [Int.toNat_natCast, Int.one_mul, enn]
    refine ⟨⟨by omega, by omega, by decide⟩, frzD ((tabM q C n (i + 1 - 2 ^ p)).map hedM), atI_ok (j := i + 1 - 2 ^ p) (by rw [List.getElem?_map, List.getElem?_range (by omega)]; rfl) rfl, ?_⟩
    refine ⟨solid_frz _, _, atI_ok (j := p) (by rw [List.getElem?_map, List.getElem?_range hpn]; rfl) rfl, ?_⟩
    walk_at "h"
    have T := tabM_fold hq ip hC (ptsN n (i + 1 - 2 ^ p)) [] [] (fun b hb => by cases hb) (TP.nil q m)
    have rkT := tabM_rank hq ip hC n (i + 1 - 2 ^ p)
    have eT : (ptsN n (i + 1 - 2 ^ p)).foldl (fun H p => addM q H (C p)) [] = tabM q C n (i + 1 - 2 ^ p) := rfl
    rw [eT] at T
    generalize hT : tabM q C n (i + 1 - 2 ^ p) = H at *
    have hp0 : (0 : Int) < q := by omega
    have vH : ∀ a ∈ H, Vec q m a.2 := fun a ha => T.vec _ (List.mem_map.mpr ⟨a, ha, rfl⟩)
    walk_at "s"
    refine ⟨_, rfl, ?_⟩
    refine forD_fold hedM (stpM q) (fun l ρ => Vec q m l ∧ ∃ s9, ρ = [.val (natD n), .val (.list ((List.range n).map fun p => .list ((C p).map .int))), .val (natD q), .val (.list ((List.range (i + 1)).map fun x => natD (tabM q C n x).length)), .val (.list ((List.range (i + 1)).map fun x => frzD ((tabM q C n x).map hedM))), .val (natD (i + 1)), .val (natD p), .val (frzD (H.map hedM)), .own (.list (l.map .int)), s9, .unk, .unk, .unk, .unk, .unk, .unk]) H (C p) _ ⟨hC p, _, rfl⟩ ?_ ?_
    · rintro a ha l ρ Nx2 Bk2 ⟨vl, s9, rfl⟩ hN2
      obtain ⟨k, r⟩ := a
      have vr := vH _ ha
      have lk : k < m := T.lt _ ha
      have rng := en_lt vl hp0 k
      have vs : Vec q m (stpM q l (k, r)) := by rw [stpM_axp hp0 vl.1 vr.1]; exact vec_axp hp0 vr.1 vl.1
      unfold hedM
      walk_at "h"
      refine ⟨_, _, l.map .int, r.map .int, rfl, .inl rfl, .inr rfl, ?_⟩
      rw [zipD_map]
      refine ⟨by rw [List.length_map, List.length_zip]; have := vl.1; omega, compD_map (fun z => .int ((z.1 - en l k * z.2) % (q : Int))) (fun z hz k1 k10 hk => ?_) ?_⟩
      · obtain ⟨x, y⟩ := z
        walk_at "h"
        refine ⟨_, atI_ok (j := k) (show (l.map (PyData.int))[k]? = some (.int (en l k)) by
          have hk2 : k < l.length := by rw [vl.1]; exact lk
          rw [List.getElem?_map, List.getElem?_eq_getElem hk2]
          show some _ = some _
          unfold en
          rw [List.getD_eq_getElem?_getD, List.getElem?_eq_getElem hk2]
          rfl) rfl, ?_⟩
        walk_at "h"
        exact ⟨.inl ⟨by omega, by omega⟩, by omega, hk⟩
      · have ez : (l.zip r).map (fun z => (.int ((z.1 - en l k * z.2) % (q : Int)) : D)) = (stpM q l (k, r)).map .int := by
          unfold stpM
          rw [List.map_map]
          rfl
        rw [ez]
        exact hN2 _ ⟨vs, _, rfl⟩
    · rintro ρ ⟨vl, s9, rfl⟩
      have ef : H.foldl (stpM q) (C p) = redM q H (C p) := rfl
      rw [ef] at vl ⊢
      unfold addM at ad
      generalize redM q H (C p) = v at *
      have lv := vl.1
      walk_at "h"
      walk_at "s"
      rw [enumD_map]
      refine ⟨by rw [List.length_map, List.length_zipIdx]; omega, compD_filter (fun z => natD z.2) (fun z => z.1 != 0) (fun z hz k1 k10 h1 h0 => ?_) ?_⟩
      · walk_at "h"
        refine fEq_int ?_
        have e9 : (if true = true then !(z.1 == 0) else (z.1 == 0)) = (z.1 != 0) := rfl
        rw [e9]
        cases g : z.1 != 0
        · exact h0 g
        · exact h1 g
      have ei : (v.zipIdx.filter fun z => z.1 != 0).map (fun z => natD z.2) = (idxM v).map natD := by unfold idxM; rw [List.map_map]; rfl
      rw [ei]
      walk_at "s"
      cases e6 : idxM v with
      | nil =>
        rw [e6] at ad
        refine fEq_list_nil (fun b _ => plain_nat _) ?_
        simp only [List.isEmpty_nil]
        walk_at "h"
        walk_at "s"
        refine ⟨by rw [List.length_map, List.length_range]; omega, ?_⟩
        walk_at "s"
        refine ⟨_, .inr rfl, by rw [List.length_map, List.length_range]; omega, hN _ ?_⟩
        walk_at "h"
        rw [List.range_succ (n := i + 1), List.map_append, List.map_append, List.map_singleton, List.map_singleton, ad, List.length_map]
      | cons k more =>
        rw [e6] at ad
        refine fEq_list_nil (fun b _ => plain_nat _) ?_
        rw [show (if true = true then !(k :: more).isEmpty else (k :: more).isEmpty) = true from rfl]
        walk_at "h"
        obtain ⟨lk, nk⟩ := mem_idxM.mp (by rw [e6]; exact List.mem_cons_self .. : k ∈ idxM v)
        have rng := en_lt vl hp0 k
        obtain ⟨t, et, lt1, ht, tne⟩ := turn_ok ip hq (c := en v k) (by rw [Int.emod_eq_of_lt rng.1 rng.2]; exact nk)
        replace ad : tabM q C n (i + 1) = H ++ [(k, v.map fun x => (((turnM q (en v k)).getD 0 0 : Nat) * x) % (q : Int))] := ad
        rw [et] at ad
        have atk : atI (v.map (PyData.int)) (k : Int) = some (.int (en v k)) := atI_ok (j := k) (show (v.map (PyData.int))[k]? = some (.int (en v k)) by
          rw [List.getElem?_map, List.getElem?_eq_getElem lk]
          show some _ = some _
          unfold en
          rw [List.getD_eq_getElem?_getD, List.getElem?_eq_getElem lk]
          rfl) rfl
        rw [Int.toNat_natCast, rangeD_nats]
        refine ⟨⟨by omega, by omega⟩, by rw [List.length_map, List.length_range]; omega, compD_filter natD (fun x => ((x : Int) * en v k) % (q : Int) == 1) (fun x hx k1 k10 h1 h0 => ?_) ?_⟩
        · have hx2 := List.mem_range.mp hx
          walk_at "h"
          refine ⟨_, atk, ?_⟩
          walk_at "h"
          refine ⟨.inl ⟨by omega, by omega⟩, by omega, fEq_int ?_⟩
          have e9 : (if false = true then !(((x : Int) * en v k) % (q : Int) == 1) else (((x : Int) * en v k) % (q : Int) == 1)) = (((x : Int) * en v k) % (q : Int) == 1) := rfl
          rw [e9]
          cases g : ((x : Int) * en v k) % (q : Int) == 1
          · exact h0 g
          · exact h1 g
        have eM : (List.range q).filter (fun (x : Nat) => ((x : Int) * en v k) % (q : Int) == 1) = turnM q (en v k) := rfl
        rw [eM]
        match hm2 : turnM q (en v k), tne, et with
        | t0 :: tr, _, et =>
          obtain rfl : t0 = t := et
          refine ⟨natD t0, atI_ok (j := 0) rfl rfl, ?_⟩
          walk_at "s"
          have e9 : (H.map hedM ++ [hedM (k, v.map fun x => ((t0 : Nat) * x) % (q : Int))]) = (tabM q C n (i + 1)).map hedM := by rw [ad]; simp
          refine ⟨by rw [List.length_map]; omega, compD_map (fun x => .int (((t0 : Nat) * x) % (q : Int))) (fun b hb k1 k10 hk => ?_) ?_⟩
          · walk_at "h"
            exact ⟨.inl ⟨by omega, by omega⟩, by omega, hk⟩
          · have eh : (.tuple [natD k, frzD (v.map fun x => (.int (((t0 : Nat) * x) % (q : Int)) : D))] : D) = hedM (k, v.map fun x => ((t0 : Nat) * x) % (q : Int)) := by
              show _ = PyData.tuple [natD k, frzD ((v.map fun x => ((t0 : Nat) * x) % (q : Int)).map .int)]
              rw [List.map_map]
              rfl
            have lH : H.length ≤ 16 := by
              have a1 := rkS_le (q : Int) m ((ptsN n (i + 1 - 2 ^ p)).map C)
              have a2 := pts_len n (i + 1 - 2 ^ p)
              have a3 : H.length = rkS (q : Int) m ((ptsN n (i + 1 - 2 ^ p)).map C) := rkT
              rw [List.length_map] at a1
              omega
            rw [eh]
            refine ⟨solids_of fun x _ => solid_int _, H.map hedM, [hedM (k, v.map fun x => ((t0 : Nat) * x) % (q : Int))], .inr rfl, .inl rfl, solids_hedMs _, by rw [solids_cons, solid_hedM]; rfl, by rw [List.length_map, List.length_singleton]; omega, ?_⟩
            rw [e9]
            refine ⟨solids_hedMs _, ?_⟩
            walk_at "s"
            refine ⟨by rw [List.length_map, List.length_range]; omega, ?_⟩
            walk_at "s"
            refine ⟨_, .inr rfl, by rw [List.length_map, List.length_range]; omega, hN _ ?_⟩
            walk_at "h"
            rw [List.range_succ (n := i + 1), List.map_append, List.map_append, List.map_singleton, List.map_singleton, List.length_map]
  · rintro ρ rfl
    rw [rangeD_len, eN]
    walk_at "h"
    walk_at "s"
    have e3 : 2 ^ n - 1 + 1 = 2 ^ n := by omega
    rw [e3]
    have e4 : (fun x => natD (tabM q C n x).length) = fun x => natD (rkC q m C (ptsN n x)) := funext fun x => by rw [tabM_rank hq ip hC]
    rw [e4]
    exact ⟨solids_of fun x _ => solid_int _, h⟩
theorem pl__law_table : ∀ ds R, spec__law_table ds R → m__law_table (startE ["n", "columns", "by", "found", "spans", "number", "place", "heads", "left", "k", "head", "a", "b", "some", "one", "turn"] ds) (retE R) := by
  rintro ds R (⟨n, B, rfl, hB, hn, hl, h⟩ | ⟨n, q, m, C, rfl, hq, q1, ip, hC, hn, hm, h⟩)
  · exact table_two hB hn hl h
  · exact table_q hq q1 ip hC hn hm h
theorem at__law_table (T : Tx K mg) : FnAt P w K mg base "_law_table" 2 3 (spD K spec__law_table) := by
  obtain ⟨f, fd, hm, F⟩ := T.f__law_table
  refine fnAt_of hm F rfl (F.binds (ps := ["n", "columns", "by"]) fun _ _ _ _ _ _ us hl => match us, hl with | [_, _, _], _ => rfl) (fnG_of F sc__law_table (spD_len len__law_table) fun cdv A outer s H vs Q E hr hg h => ?_)
  exact body_of (m := fun _ => m__law_table) ["n", "columns", "by", "found", "spans", "number", "place", "heads", "left", "k", "head", "a", "b", "some", "one", "turn"]
    ((pss_cons (ps_par (i := 3) (j := 4) rfl sc__law_table.nd rfl rfl (by decide) rfl rfl (pa_cons (pe_lst (pa_cons pe_int pa_nil)) (pa_cons (pe_lst (pa_cons (pe_frz (pe_lst pa_nil)) pa_nil)) pa_nil)) (by rfl))
      (pss_cons (ps_for PassesOwn.never rfl (pi_range2 (by rfl) T.b_range (pa_cons pe_int (pa_cons (pe_op op_shl pe_int (pv 0)) pa_nil))) (pg_name (i := 5) sc__law_table.nd rfl (by first | exact Or.inl rfl | exact Or.inr rfl)) (pss_cons (ps_set (i := 6) sc__law_table.nd rfl (by first | exact Or.inl rfl | exact Or.inr rfl) (pe_ix ix_seq (pe_callG (at__law_lot_of T) (hr.mono (by decide)) hg (by rfl) (pa_cons (pv 0) (pa_cons (pv 5) pa_nil))) (pe_un un_neg pe_int) (fun _ _ => rfl)))
      (pss_cons (ps_asg (pe_tupF (pa_cons (pe_ix ix_seq (pv 4) (pe_op op_sub (pv 5) (pe_op op_shl pe_int (pv 6))) (fun _ _ => rfl)) (pa_cons (pe_callTy call_list_of (by rfl) T.b_list (by decide +kernel) (pa_cons (pe_ix ix_seq (pv 1) (pv 6) (fun _ _ => rfl)) pa_nil)) pa_nil))) (pg_tup rfl (pgs_cons (pg_name (i := 7) sc__law_table.nd rfl (by first | exact Or.inl rfl | exact Or.inr rfl)) (pgs_cons (pg_name (i := 8) sc__law_table.nd rfl (by first | exact Or.inl rfl | exact Or.inr rfl)) pgs_nil))))
      (pss_cons (ps_for PassesOwn.never rfl (pi_seq (pv 7)) (pg_tup rfl (pgs_cons (pg_name (i := 9) sc__law_table.nd rfl (by first | exact Or.inl rfl | exact Or.inr rfl)) (pgs_cons (pg_name (i := 10) sc__law_table.nd rfl (by first | exact Or.inl rfl | exact Or.inr rfl)) pgs_nil))) (pss_one (ps_set (i := 8) sc__law_table.nd rfl (by first | exact Or.inl rfl | exact Or.inr rfl) (pe_lc (own := [("a", 11), ("b", 12)]) rfl sc__law_table.nd (RZ.pi_zipA (by rfl) T.b_zip (pa_cons (pv 8) (pa_cons (pv 10) pa_nil))) (blkOk_by (N := ["n", "columns", "by", "found", "spans", "number", "place", "heads", "left", "k", "head", "a", "b", "some", "one", "turn"]) (sc := defScope s__law_table) (by decide +kernel)) (fun _ _ _ _ _ => (pg_tup rfl (pgs_cons (pg_name (i := 11) sc__law_table.nd rfl (by first | exact Or.inl rfl | exact Or.inr rfl)) (pgs_cons (pg_name (i := 12) sc__law_table.nd rfl (by first | exact Or.inl rfl | exact Or.inr rfl)) pgs_nil)))) (fun _ _ _ _ _ => pts_nil) (fun _ _ _ _ _ => (pe_op op_mod (pe_callTy call_int1 (by rfl) T.b_int (by decide +kernel) (pa_cons (pe_op op_sub (pv 11) (pe_op op_mulZ (pe_ix ix_seq (pv 8) (pv 9) (fun _ _ => rfl)) (pv 12))) pa_nil)) (pv 2)))))))
      (pss_cons (ps_set (i := 13) sc__law_table.nd rfl (by first | exact Or.inl rfl | exact Or.inr rfl) (pe_lc (own := [("k", 9), ("one", 14)]) rfl sc__law_table.nd (pi_enumS (by rfl) T.b_enumerate (pa_cons (pv 8) pa_nil)) (blkOk_by (N := ["n", "columns", "by", "found", "spans", "number", "place", "heads", "left", "k", "head", "a", "b", "some", "one", "turn"]) (sc := defScope s__law_table) (by decide +kernel)) (fun _ _ _ _ _ => (pg_tup rfl (pgs_cons (pg_name (i := 9) sc__law_table.nd rfl (by first | exact Or.inl rfl | exact Or.inr rfl)) (pgs_cons (pg_name (i := 14) sc__law_table.nd rfl (by first | exact Or.inl rfl | exact Or.inr rfl)) pgs_nil)))) (fun _ _ _ _ _ => (pts_one (pt_cmpR (op_neZ hr.units) (pv 14) pe_int (nomark _)))) (fun _ _ _ _ _ => (pv 9))))
      (pss_cons (ps_if (pt_cmpR (op_neZ hr.units) (pv 13) (pe_lst pa_nil) (nomark _)) (pss_cons (ps_set (i := 15) sc__law_table.nd rfl (by first | exact Or.inl rfl | exact Or.inr rfl) (pe_ix ix_seq (pe_lc (own := [("one", 14)]) rfl sc__law_table.nd (pi_range1 (by rfl) T.b_range (pa_cons (pv 2) pa_nil)) (blkOk_by (N := ["n", "columns", "by", "found", "spans", "number", "place", "heads", "left", "k", "head", "a", "b", "some", "one", "turn"]) (sc := defScope s__law_table) (by decide +kernel)) (fun _ _ _ _ _ => (pg_name (i := 14) sc__law_table.nd rfl (by first | exact Or.inl rfl | exact Or.inr rfl))) (fun _ _ _ _ _ => (pts_one (pt_cmpR (op_eqZ hr.units) (pe_op op_mod (pe_callTy call_int1 (by rfl) T.b_int (by decide +kernel) (pa_cons (pe_op op_mulZ (pv 14) (pe_ix ix_seq (pv 8) (pe_ix ix_seq (pv 13) pe_int (fun _ _ => rfl)) (fun _ _ => rfl))) pa_nil)) (pv 2)) pe_int (nomark _)))) (fun _ _ _ _ _ => (pv 14))) pe_int (fun _ _ => rfl)))
      (pss_one (ps_set (i := 7) sc__law_table.nd rfl (by first | exact Or.inl rfl | exact Or.inr rfl) (pe_frz (pe_op op_catE (pv 7) (pe_lst (pa_cons (pe_tupF (pa_cons (pe_ix ix_seq (pv 13) pe_int (fun _ _ => rfl)) (pa_cons (pe_frz (pe_lc (own := [("one", 14)]) rfl sc__law_table.nd (pi_seq (pv 8)) (blkOk_by (N := ["n", "columns", "by", "found", "spans", "number", "place", "heads", "left", "k", "head", "a", "b", "some", "one", "turn"]) (sc := defScope s__law_table) (by decide +kernel)) (fun _ _ _ _ _ => (pg_name (i := 14) sc__law_table.nd rfl (by first | exact Or.inl rfl | exact Or.inr rfl))) (fun _ _ _ _ _ => pts_nil) (fun _ _ _ _ _ => (pe_op op_mod (pe_callTy call_int1 (by rfl) T.b_int (by decide +kernel) (pa_cons (pe_op op_mulZ (pv 15) (pv 14)) pa_nil)) (pv 2))))) pa_nil))) pa_nil))))))) pss_nil)
      (pss_cons (ps_expr (pe_bm PySem.F.plainAttrs_list PySem.F.slot_list_append PySem.F.type_list_append mt_append (pv 4) (pa_cons (pv 7) pa_nil)))
      (pss_one (ps_expr (pe_bm PySem.F.plainAttrs_list PySem.F.slot_list_append PySem.F.type_list_append mt_append (pv 3) (pa_cons (pe_callB call_len (by rfl) T.b_len PySem.boot_len (pa_cons (pv 7) pa_nil)) pa_nil)))))))))))
      (pss_one (ps_ret (pe_callTy call_tupF (by rfl) T.b_tuple (by decide +kernel) (pa_cons (pv 3) pa_nil)))))))
    (fun S => (ds_seq (ds_par 3 4 (da_cons (de_lst (da_cons de_int da_nil)) (da_cons (de_lst (da_cons (de_frz (de_lst da_nil)) da_nil)) da_nil)))
      (ds_seq (ds_for (Wg := [5]) (Wb := [6, 7, 8, 9, 10, 8, 13, 15, 7, 4, 3]) (F := [5, 6, 7, 8, 9, 10, 13, 15]) (di_rng2 (da_cons de_int (da_cons (de_op od_IC de_int (de_var 0)) da_nil))) (dg_name 5) (ds_seq (ds_asg 6 (de_opA oa_ixF (de_call (da_cons (de_var 0) (da_cons (de_var 5) da_nil))) (de_un ud_I de_int)))
      (ds_seq (ds_parG 7 8 (da_cons (de_solid (de_opA oa_ixF (de_var 4) (de_op od_I0 (de_var 5) (de_op od_IC de_int (de_var 6))))) (da_cons (de_cb cd_list (da_cons (de_opA oa_ixF (de_var 1) (de_var 6)) da_nil)) da_nil)))
      (ds_seq (ds_for (Wg := [9, 10]) (Wb := [8]) (F := [10]) (di_seqZ (de_var 7)) (dg_tup (dgs_cons (dg_name 9) (dgs_cons (dg_name 10) dgs_nil))) (ds_asg 8 (de_lc (di_zipF (da_cons (de_var 8) (da_cons (de_var 10) da_nil))) (dg_tup (dgs_cons (dg_name 11) (dgs_cons (dg_name 12) dgs_nil))) dt_yes (de_op od_IC (de_cb cd_int (da_cons (de_op od_I0 (de_var 11) (de_op od_mul (de_opA oa_ixF (de_var 8) (de_var 9)) (de_var 12))) da_nil)) (de_var 2)) (by decide))) (by decide))
      (ds_seq (ds_asg 13 (de_lc (di_enum (da_cons (de_var 8) da_nil)) (dg_tup (dgs_cons (dg_name 9) (dgs_cons (dg_name 14) dgs_nil))) (dt_val (de_op od_eq (de_var 14) de_int)) (de_solid (de_var 9)) (by decide)))
      (ds_seq (ds_if (dt_val (de_op od_eq (de_var 13) (de_lst da_nil))) (ds_seq (ds_asg 15 (de_opA oa_ixF (de_lc (di_rng1 (da_cons (de_var 2) da_nil)) (dg_name 14) (dt_val (de_op od_eq (de_op od_IC (de_cb cd_int (da_cons (de_op od_mul (de_var 14) (de_opA oa_ixF (de_var 8) (de_opA oa_ixF (de_var 13) de_int))) da_nil)) (de_var 2)) de_int)) (de_solid (de_var 14)) (by decide)) de_int))
      (ds_asg 7 (de_frz (de_op od_catE (de_solid (de_var 7)) (de_lst (da_cons (de_tup (da_cons (de_solid (de_opA oa_ixF (de_var 13) de_int)) (da_cons (de_frz (de_lc (di_seq (de_var 8)) (dg_name 14) dt_yes (de_op od_IC (de_cb cd_int (da_cons (de_op od_mul (de_var 15) (de_var 14)) da_nil)) (de_var 2)) (by decide))) da_nil))) da_nil)))))) ds_next)
      (ds_seq (ds_append 4 (de_solid (de_var 7)))
      (ds_append 3 (de_cb cd_lenF (da_cons (de_var 7) da_nil))))))))) (by decide))
      (ds_ret (de_cb cd_tuple (da_cons (de_var 3) da_nil)))))) h (fun S ds R hs => pl__law_table ds R hs)
def spec__law_code_table : List D → (D → Prop) → Prop := fun ds R => ∃ (n : Nat) (B : List (List Bool)), ds = [.tuple [natD n, .tuple (rowsD B)]] ∧ Len n B ∧ n ≤ 16 ∧ B.length ≤ 10000 ∧ R (.tuple ((List.range (2 ^ n)).map fun x => natD (rkP B (ptsN n x))))
theorem len__law_code_table : ∀ ds R, spec__law_code_table ds R → ds.length = 1 := by
  rintro ds R ⟨n, B, rfl, _⟩
  rfl
def m__law_code_table : DMS :=
  (sRet (dCall spec__law_table (dCons (dBin fIx (dVar 0) (dC (.int 0))) (dCons (dComp (dRng1 (dCons (dBin fIx (dVar 0) (dC (.int 0))) dNil)) (dgName 1) dYes (dComp (dItems (dBin fIx (dVar 0) (dC (.int 1)))) (dgName 2) dYes (dSolid (dBin fIx (dVar 2) (dVar 1))) [2]) [1]) (dCons (dC (.int 2)) dNil)))))
theorem pl__law_code_table : ∀ ds R, spec__law_code_table ds R → m__law_code_table (startE ["code", "place", "row"] ds) (retE R) := by
  rintro ds R ⟨n, B, rfl, hB, hn, hl, h⟩
  unfold m__law_code_table
  walk_at "y"
  rw [Int.toNat_natCast, rangeD_nats]
  refine ⟨⟨by omega, by omega⟩, by rw [List.length_map, List.length_range]; omega, compD_map (fun p => .list (bitsD (colB B p))) (fun p hp k k0 hk => ?_) (Or.inl ⟨n, B, rfl, hB, hn, hl, h⟩)⟩
  have hp2 := List.mem_range.mp hp
  walk_at "y"
  refine ⟨by rw [List.length_map]; omega, compD_map (fun r => .int (bI (gt r p))) (fun r hr k2 k20 hk2 => ?_) ?_⟩
  · walk_at "h"
    exact fIx_rowD (by rw [hB r hr]; exact hp2) ⟨solid_int _, hk2⟩
  · have e : bitsD (colB B p) = B.map fun r => .int (bI (gt r p)) := by simp [bitsD, colB, List.map_map, Function.comp_def]
    rw [e] at hk
    exact hk
theorem at__law_code_table (T : Tx K mg) : FnAt P w K mg base "_law_code_table" 3 1 (spD K spec__law_code_table) := by
  obtain ⟨f, fd, hm, F⟩ := T.f__law_code_table
  refine fnAt_of hm F rfl (F.binds (ps := ["code"]) fun _ _ _ _ _ _ us hl => match us, hl with | [_], _ => rfl) (fnG_of F sc__law_code_table (spD_len len__law_code_table) fun cdv A outer s H vs Q E hr hg h => ?_)
  exact body_of (m := fun _ => m__law_code_table) ["code", "place", "row"]
    ((pss_one (ps_ret (pe_callG (at__law_table T) (hr.mono (by decide)) hg (by rfl) (pa_cons (pe_ix ix_seq (pv 0) pe_int (fun _ _ => rfl)) (pa_cons (pe_lc (own := [("place", 1)]) rfl sc__law_code_table.nd (pi_range1 (by rfl) T.b_range (pa_cons (pe_ix ix_seq (pv 0) pe_int (fun _ _ => rfl)) pa_nil)) (blkOk_by (N := ["code", "place", "row"]) (sc := defScope s__law_code_table) (by decide +kernel)) (fun _ _ _ _ _ => (pg_name (i := 1) sc__law_code_table.nd rfl (by first | exact Or.inl rfl | exact Or.inr rfl))) (fun _ _ _ _ _ => pts_nil) (fun _ _ _ _ _ => (pe_lc (own := [("row", 2)]) rfl sc__law_code_table.nd (pi_seq (pe_ix ix_seq (pv 0) pe_int (fun _ _ => rfl))) (blkOk_by (by rfl)) (fun _ _ _ _ _ => (pg_name (i := 2) sc__law_code_table.nd rfl (by first | exact Or.inl rfl | exact Or.inr rfl))) (fun _ _ _ _ _ => pts_nil) (fun _ _ _ _ _ => (pe_ix ix_seq (pv 2) (pv 1) (fun _ _ => rfl)))))) (pa_cons pe_int pa_nil)))))))
    (fun S => (ds_ret (de_call (da_cons (de_opA oa_ix (de_var 0) de_int) (da_cons (de_lc (di_rng1 (da_cons (de_opA oa_ix (de_var 0) de_int) da_nil)) (dg_name 1) dt_yes (de_lc (di_seq (de_opA oa_ix (de_var 0) de_int)) (dg_name 2) dt_yes (de_solid (de_opA oa_ix (de_var 2) (de_var 1))) (by decide)) (by decide)) (da_cons de_int da_nil)))))) h (fun S ds R hs => pl__law_code_table ds R hs)
def spec__law_other_rows : List D → (D → Prop) → Prop := fun ds R => ∃ (n : Nat) (B S O : List (List Bool)), ds = [.int ((n : Nat) : Int), .tuple (rowsD B)] ∧ Len n B ∧ B.length ≤ 100 ∧ Rref n B S ∧ Rref n (freeRows n S) O ∧ n ≤ 12 ∧ ∀ L : List (List Bool), L.Perm (sums n O) → R (.list (rowsD L))
theorem len__law_other_rows : ∀ ds R, spec__law_other_rows ds R → ds.length = 2 := by
  rintro ds R ⟨n, B, S, O, rfl, _⟩
  rfl
def m__law_other_rows : DMS :=
  (sSeq (sAsg 2 (dLst (dCons (dTup dNil) dNil)))
  (sSeq (sFor (dRng1 (dCons (dVar 0) dNil)) (dgName 3) (sAsg 2 (dBin fAdd (dComp (dItems (dVar 2)) (dgName 4) dYes (dBin fAdd (dVar 4) (dTup (dCons (dC (.int 0)) dNil))) [4]) (dComp (dItems (dVar 2)) (dgName 4) dYes (dBin fAdd (dVar 4) (dTup (dCons (dC (.int 1)) dNil))) [4]))) [3, 2] [3])
  (sSeq (sAsg 5 (dLst dNil))
  (sSeq (sFor (dItems (dVar 2)) (dgName 4) (sIf (dTest (dBin (fEq false) (dComp (dItems (dVar 1)) (dgName 6) (dTest (dBin (fEq false) (dBin (f2IC (fun _ j => 0 < j) fun i j => .int (i % j)) (dCall fInt (dCons (dCall fLen (dCons (dComp (dRng1 (dCons (dVar 0) dNil)) (dgName 7) (dTest (dBin (fEq false) (dBin fAdd (dBin fIx (dVar 4) (dVar 7)) (dBin fIx (dVar 6) (dVar 7))) (dC (.int 2)))) (dSolid (dVar 7)) [7]) dNil)) dNil)) (dC (.int 2))) (dC (.int 1)))) (dSolid (dVar 6)) [6]) (dLst dNil))) (sAppend 5 (dSolid (dVar 4))) sNext) [4, 5] [])
  (sRetV 5)))))
theorem dot_count : ∀ {a b : List Bool}, a.length = b.length → ((((List.range a.length).filter fun p => gt a p && gt b p).length % 2) == 1) = dot a b
  | [], [], _ => rfl
  | x :: a, y :: b, h => by
    have ih := dot_count (a := a) (b := b) (by simpa using h)
    have e : ((List.range (x :: a).length).filter fun p => gt (x :: a) p && gt (y :: b) p).length = (if x && y then 1 else 0) + ((List.range a.length).filter fun p => gt a p && gt b p).length := by
      rw [List.length_cons, List.range_succ_eq_map, List.filter_cons, List.filter_map]
      have e2 : (fun p => gt (x :: a) p && gt (y :: b) p) ∘ Nat.succ = fun p => gt a p && gt b p := rfl
      have e3 : (gt (x :: a) 0 && gt (y :: b) 0) = (x && y) := rfl
      rw [e2, e3]
      cases x && y
      · simp
      · simp [Nat.add_comm]
    rw [e]
    show _ = ((x && y) ^^ dot a b)
    rw [← ih]
    generalize ((List.range a.length).filter fun p => gt a p && gt b p).length = z
    cases x && y
    · simp
    · simp only [if_true, Bool.true_xor]
      rw [Bool.eq_iff_iff, beq_iff_eq, Bool.not_eq_true', beq_eq_false_iff_ne]
      omega
theorem pl__law_other_rows : ∀ ds R, spec__law_other_rows ds R → m__law_other_rows (startE ["n", "base", "found", "place", "row", "late", "one", "p"] ds) (retE R) := by
  rintro ds R ⟨n, B, S, O, rfl, hB, lB, hS, hO, hn, h⟩
  unfold m__law_other_rows
  walk_at "h"
  walk_at "s"
  refine ⟨⟨by omega, by omega⟩, ?_⟩
  rw [Int.toNat_natCast]
  have pw : ∀ k, k ≤ n → (2 : Nat) ^ k ≤ 2 ^ 12 := fun k hk => Nat.pow_le_pow_right (by decide) (by omega)
  have p12 : (2 : Nat) ^ 12 = 4096 := by decide
  have la : ∀ k, (allR k).length = 2 ^ k := fun k => by
    induction k with
    | zero => rfl
    | succ k ih => rw [allR, List.length_append, List.length_map, List.length_map, ih, Nat.pow_succ]; omega
  have rd : ∀ (r : List Bool) (b : Bool), rowD (r ++ [b]) = .tuple ((rowI r).map .int ++ [.int (bI b)]) := fun r b => by
    show PyData.tuple ((rowI (r ++ [b])).map .int) = _
    unfold rowI
    simp
  refine forD_inv (fun m ρ => ρ = [.val (natD n), .val (.tuple (rowsD B)), .own (.list (rowsD (allR m))), .unk, .unk, .unk, .unk, .unk]) _ 0 _ rfl ?_ ?_
  · rintro m x ρ Nx hx rfl hN
    obtain ⟨hm, rfl⟩ := range_at hx
    rw [Nat.zero_add] at hN ⊢
    have p1 := pw m (by omega)
    have l1 := la m
    have lens := allR_len m
    walk_at "h"
    refine ⟨by rw [List.length_map]; omega, compD_map (fun r => rowD (r ++ [false])) (fun r hr k k0 hk => ?_) ?_⟩
    · rw [show rowD r = .tuple ((rowI r).map .int) from rfl]
      walk_at "h"
      refine ⟨by rw [List.length_map]; unfold rowI; rw [List.length_map, lens r hr]; omega, ?_⟩
      rw [rd r false] at hk
      exact hk
    refine ⟨by rw [List.length_map]; omega, compD_map (fun r => rowD (r ++ [true])) (fun r hr k k0 hk => ?_) ?_⟩
    · rw [show rowD r = .tuple ((rowI r).map .int) from rfl]
      walk_at "h"
      refine ⟨by rw [List.length_map]; unfold rowI; rw [List.length_map, lens r hr]; omega, ?_⟩
      rw [rd r true] at hk
      exact hk
    refine ⟨solids_of fun r _ => solid_rowD _, solids_of fun r _ => solid_rowD _, by rw [List.length_map, List.length_map]; omega, hN _ ?_⟩
    walk_at "h"
    have e1 : ((allR m).map fun r => rowD (r ++ [false])) ++ ((allR m).map fun r => rowD (r ++ [true])) = rowsD (allR (m + 1)) := by
      unfold rowsD
      rw [allR, List.map_append, List.map_map, List.map_map]
      rfl
    rw [e1]
  · rintro ρ rfl
    rw [Nat.zero_add, rangeD_len]
    walk_at "h"
    walk_at "s"
    walk_at "s"
    have lens := allR_len n
    obtain ⟨f, hf⟩ : ∃ f : List Bool → Bool, f = fun r => (B.filter fun b => dot r b).isEmpty := ⟨_, rfl⟩
    refine forD_inv (fun m ρ => ∃ s4, ρ = [.val (natD n), .val (.tuple (rowsD B)), .val (.list (rowsD (allR n))), .unk, s4, .own (.list (rowsD (((allR n).take m).filter f))), .unk, .unk]) _ 0 _ ⟨_, rfl⟩ ?_ ?_
    · rintro m x ρ Nx hx ⟨s4, rfl⟩ hN
      rw [Nat.zero_add] at hN ⊢
      obtain ⟨r, hr, er, rfl⟩ := map_at hx
      rw [List.take_succ, er, List.filter_append] at hN
      have lr := lens r hr
      have lt : (((allR n).take m).filter f).length ≤ 4096 := by
        have a1 := List.length_filter_le f ((allR n).take m)
        have a2 := List.length_take_le' m (allR n)
        have := la n
        have := pw n (Nat.le_refl _)
        omega
      walk_at "h"
      refine ⟨by rw [List.length_map]; omega, compD_filter rowD (fun b => dot r b) (fun b hb k k0 h1 h0 => ?_) ?_⟩
      · have lb := hB b hb
        walk_at "h"
        refine ⟨⟨by omega, by omega⟩, ?_⟩
        rw [Int.toNat_natCast, rangeD_nats]
        refine ⟨by rw [List.length_map, List.length_range]; omega, compD_filter natD (fun p => gt r p && gt b p) (fun p hp c c0 g1 g0 => ?_) ?_⟩
        · have hp := List.mem_range.mp hp
          walk_at "h"
          refine fIx_rowD (by omega) ?_
          refine fIx_rowD (by omega) ?_
          walk_at "h"
          refine fEq_int ?_
          simp only [Bool.false_eq_true, if_false]
          cases g2 : gt r p <;> cases g3 : gt b p <;> first | exact g0 (by rw [g2, g3]; rfl) | exact g1 (by rw [g2, g3]; rfl)
        · rw [List.length_map]
          refine ⟨by decide, fEq_int ?_⟩
          simp only [Bool.false_eq_true, if_false]
          have e1 : ((((((List.range n).filter fun p => gt r p && gt b p).length : Nat) : Int) % 2) == 1) = dot r b := by
            rw [← dot_count (by omega), lr]
            rw [Bool.eq_iff_iff, beq_iff_eq, beq_iff_eq]
            omega
          rw [e1]
          cases c : dot r b
          · exact h0 c
          · exact h1 c
      · refine fEq_rows_nil ?_
        simp only [Bool.false_eq_true, if_false]
        have ef : (B.filter fun b => dot r b).isEmpty = f r := by rw [hf]
        rw [ef]
        cases c : f r
        · rw [cond_false]
          refine hN _ ⟨.val (rowD r), ?_⟩
          walk_at "h"
          simp [c, rowsD]
        · rw [cond_true]
          refine ⟨by unfold rowsD; rw [List.length_map]; omega, hN _ ⟨.val (rowD r), ?_⟩⟩
          walk_at "h"
          simp [c, rowsD]
    · rintro ρ ⟨s4, rfl⟩
      rw [Nat.zero_add]
      have e0 : (allR n).take (rowsD (allR n)).length = allR n := by unfold rowsD; rw [List.length_map, List.take_length]
      rw [e0]
      walk_at "h"
      rw [Z.later_cons]
      walk_at "h"
      refine h _ ?_
      have mem : ∀ v, v ∈ (allR n).filter f ↔ v ∈ sums n O := fun v => by
        rw [List.mem_filter, sums_mem hO.red.len, hf]
        constructor
        · rintro ⟨h1, h2⟩
          have lv := lens v h1
          refine (other_even hS hO lv hB).mpr fun b hb => ?_
          have := List.filter_eq_nil_iff.mp (List.isEmpty_iff.mp h2) b hb
          rw [dot_comm]
          simpa using this
        · intro s
          have lv := s.len hO.red.len
          refine ⟨allR_mem n v lv, List.isEmpty_iff.mpr (List.filter_eq_nil_iff.mpr fun b hb => ?_)⟩
          rw [dot_comm, (other_even hS hO lv hB).mp s b hb]
          exact Bool.false_ne_true
      have nd1 : ((allR n).filter f).Nodup := List.filter_sublist.nodup (allR_nodup n)
      have nd2 := sums_nd hO.red.len (ind_rref hO)
      exact (perm_sub nd1 (fun x hx => (mem x).mp hx) (nodup_sub_len _ _ nd2 fun x hx => (mem x).mpr hx)).symm
theorem at__law_other_rows (T : Tx K mg) : FnAt P w K mg base "_law_other_rows" 1 2 (spD K spec__law_other_rows) := by
  obtain ⟨f, fd, hm, F⟩ := T.f__law_other_rows
  refine fnAt_of hm F rfl (F.binds (ps := ["n", "base"]) fun _ _ _ _ _ _ us hl => match us, hl with | [_, _], _ => rfl) (fnG_of F sc__law_other_rows (spD_len len__law_other_rows) fun cdv A outer s H vs Q E hr hg h => ?_)
  exact body_of (m := fun _ => m__law_other_rows) ["n", "base", "found", "place", "row", "late", "one", "p"]
    ((pss_cons (ps_set (i := 2) sc__law_other_rows.nd rfl (by first | exact Or.inl rfl | exact Or.inr rfl) (pe_lst (pa_cons (pe_tupF pa_nil) pa_nil)))
      (pss_cons (ps_for PassesOwn.never rfl (pi_range1 (by rfl) T.b_range (pa_cons (pv 0) pa_nil)) (pg_name (i := 3) sc__law_other_rows.nd rfl (by first | exact Or.inl rfl | exact Or.inr rfl)) (pss_one (ps_set (i := 2) sc__law_other_rows.nd rfl (by first | exact Or.inl rfl | exact Or.inr rfl) (pe_op op_addZ (pe_lc (own := [("row", 4)]) rfl sc__law_other_rows.nd (pi_seq (pv 2)) (blkOk_by (N := ["n", "base", "found", "place", "row", "late", "one", "p"]) (sc := defScope s__law_other_rows) (by decide +kernel)) (fun _ _ _ _ _ => (pg_name (i := 4) sc__law_other_rows.nd rfl (by first | exact Or.inl rfl | exact Or.inr rfl))) (fun _ _ _ _ _ => pts_nil) (fun _ _ _ _ _ => (pe_op op_addZ (pv 4) (pe_tupF (pa_cons pe_int pa_nil))))) (pe_lc (own := [("row", 4)]) rfl sc__law_other_rows.nd (pi_seq (pv 2)) (blkOk_by (N := ["n", "base", "found", "place", "row", "late", "one", "p"]) (sc := defScope s__law_other_rows) (by decide +kernel)) (fun _ _ _ _ _ => (pg_name (i := 4) sc__law_other_rows.nd rfl (by first | exact Or.inl rfl | exact Or.inr rfl))) (fun _ _ _ _ _ => pts_nil) (fun _ _ _ _ _ => (pe_op op_addZ (pv 4) (pe_tupF (pa_cons pe_int pa_nil)))))))))
      (pss_cons (ps_set (i := 5) sc__law_other_rows.nd rfl (by first | exact Or.inl rfl | exact Or.inr rfl) (pe_lst pa_nil))
      (pss_cons (ps_for PassesOwn.never rfl (pi_seq (pv 2)) (pg_name (i := 4) sc__law_other_rows.nd rfl (by first | exact Or.inl rfl | exact Or.inr rfl)) (pss_one (ps_if (pt_cmpR (op_eqZ hr.units) (pe_lc (own := [("one", 6)]) rfl sc__law_other_rows.nd (pi_seq (pv 1)) (blkOk_by (N := ["n", "base", "found", "place", "row", "late", "one", "p"]) (sc := defScope s__law_other_rows) (by decide +kernel)) (fun _ _ _ _ _ => (pg_name (i := 6) sc__law_other_rows.nd rfl (by first | exact Or.inl rfl | exact Or.inr rfl))) (fun _ _ _ _ _ => (pts_one (pt_cmpR (op_eqZ hr.units) (pe_op op_mod (pe_callTy call_int1 (by rfl) T.b_int (by decide +kernel) (pa_cons (pe_callB call_len (by rfl) T.b_len PySem.boot_len (pa_cons (pe_lc (own := [("p", 7)]) rfl sc__law_other_rows.nd (pi_range1 (by rfl) T.b_range (pa_cons (pv 0) pa_nil)) (blkOk_by (by rfl)) (fun _ _ _ _ _ => (pg_name (i := 7) sc__law_other_rows.nd rfl (by first | exact Or.inl rfl | exact Or.inr rfl))) (fun _ _ _ _ _ => (pts_one (pt_cmpR (op_eqZ hr.units) (pe_op op_addZ (pe_ix ix_seq (pv 4) (pv 7) (fun _ _ => rfl)) (pe_ix ix_seq (pv 6) (pv 7) (fun _ _ => rfl))) pe_int (nomark _)))) (fun _ _ _ _ _ => (pv 7))) pa_nil)) pa_nil)) pe_int) pe_int (nomark _)))) (fun _ _ _ _ _ => (pv 6))) (pe_lst pa_nil) (nomark _)) (pss_one (ps_expr (pe_bm PySem.F.plainAttrs_list PySem.F.slot_list_append PySem.F.type_list_append mt_append (pv 5) (pa_cons (pv 4) pa_nil)))) pss_nil)))
      (pss_one (ps_ret (pv 5))))))))
    (fun S => (ds_seq (ds_asg 2 (de_lst (da_cons (de_tup da_nil) da_nil)))
      (ds_seq (ds_for (Wg := [3]) (Wb := [2]) (F := [3]) (di_rng1 (da_cons (de_var 0) da_nil)) (dg_name 3) (ds_asg 2 (de_op od_add (de_lc (di_seq (de_var 2)) (dg_name 4) dt_yes (de_op od_add (de_var 4) (de_tup (da_cons de_int da_nil))) (by decide)) (de_lc (di_seq (de_var 2)) (dg_name 4) dt_yes (de_op od_add (de_var 4) (de_tup (da_cons de_int da_nil))) (by decide)))) (by decide))
      (ds_seq (ds_asg 5 (de_lst da_nil))
      (ds_seq (ds_for (Wg := [4]) (Wb := [5]) (F := []) (di_seq (de_var 2)) (dg_name 4) (ds_if (dt_val (de_op od_eq (de_lc (di_seq (de_var 1)) (dg_name 6) (dt_val (de_op od_eq (de_op od_IC (de_cb cd_int (da_cons (de_cb cd_len (da_cons (de_lc (di_rng1 (da_cons (de_var 0) da_nil)) (dg_name 7) (dt_val (de_op od_eq (de_op od_add (de_opA oa_ix (de_var 4) (de_var 7)) (de_opA oa_ix (de_var 6) (de_var 7))) de_int)) (de_solid (de_var 7)) (by decide)) da_nil)) da_nil)) de_int) de_int)) (de_solid (de_var 6)) (by decide)) (de_lst da_nil))) (ds_append 5 (de_solid (de_var 4))) ds_next) (by decide))
      (ds_retV 5)))))) h (fun S ds R hs => pl__law_other_rows ds R hs)
def spec__law_weights : List D → (D → Prop) → Prop := fun ds R => ∃ (n : Nat) (L : List (List Bool)), ds = [.int ((n : Nat) : Int), .list (rowsD L)] ∧ n ≤ 100 ∧ L.length ≤ 100000 ∧ (∀ r ∈ L, r.length ≤ 1000) ∧ R (.tuple ((List.range (n + 1)).map fun w => natD (weightW L w)))
theorem len__law_weights : ∀ ds R, spec__law_weights ds R → ds.length = 2 := by
  rintro ds R ⟨n, L, rfl, _⟩
  rfl
def m__law_weights : DMS :=
  (sSeq (sAsg 2 (dComp (dItems (dVar 1)) (dgName 3) dYes (dCall fSumA (dCons (dVar 3) dNil)) [3]))
  (sRet (dCall fTuple (dCons (dComp (dRng1 (dCons (dBin fAdd (dVar 0) (dC (.int 1))) dNil)) (dgName 4) dYes (dCall fLen (dCons (dComp (dItems (dVar 2)) (dgName 5) (dTest (dBin (fEq false) (dVar 5) (dVar 4))) (dSolid (dVar 5)) [5]) dNil)) [4]) dNil))))
theorem pl__law_weights : ∀ ds R, spec__law_weights ds R → m__law_weights (startE ["n", "rows", "weights", "row", "w", "one"] ds) (retE R) := by
  rintro ds R ⟨n, L, rfl, hn, lL, hr, h⟩
  unfold m__law_weights
  walk_at "h"
  refine ⟨by rw [List.length_map]; omega, compD_map (fun r => natD (wtN r)) (fun r hr' k k0 hk => ?_) ?_⟩
  · rw [show rowD r = .tuple ((rowI r).map .int) from rfl]
    walk_at "h"
    refine ⟨_, rfl, ?_⟩
    rw [ones_sum]
    exact hk
  walk_at "s"
  refine ⟨⟨by omega, by omega⟩, ?_⟩
  rw [show (((n : Nat) : Int) + 1).toNat = n + 1 by omega, rangeD_nats]
  refine ⟨by rw [List.length_map, List.length_range]; omega, compD_map (fun w => natD (weightW L w)) (fun w hw k k0 hk => ?_) ⟨solids_of fun w _ => solid_int _, h⟩⟩
  walk_at "h"
  refine ⟨by rw [List.length_map]; omega, compD_filter (fun r => natD (wtN r)) (fun r => wtN r == w) (fun r hr c c0 h1 h0 => ?_) ?_⟩
  · walk_at "h"
    refine fEq_int ?_
    simp only [Bool.false_eq_true, if_false]
    have e1 : (((wtN r : Nat) : Int) == ((w : Nat) : Int)) = (wtN r == w) := by
      rw [Bool.eq_iff_iff, beq_iff_eq, beq_iff_eq]
      omega
    rw [e1]
    cases g : wtN r == w
    · exact h0 g
    · exact h1 g
  · rw [List.length_map]
    exact hk
theorem at__law_weights (T : Tx K mg) : FnAt P w K mg base "_law_weights" 1 2 (spD K spec__law_weights) := by
  obtain ⟨f, fd, hm, F⟩ := T.f__law_weights
  refine fnAt_of hm F rfl (F.binds (ps := ["n", "rows"]) fun _ _ _ _ _ _ us hl => match us, hl with | [_, _], _ => rfl) (fnG_of F sc__law_weights (spD_len len__law_weights) fun cdv A outer s H vs Q E hr hg h => ?_)
  exact body_of (m := fun _ => m__law_weights) ["n", "rows", "weights", "row", "w", "one"]
    ((pss_cons (ps_set (i := 2) sc__law_weights.nd rfl (by first | exact Or.inl rfl | exact Or.inr rfl) (pe_lc (own := [("row", 3)]) rfl sc__law_weights.nd (pi_seq (pv 1)) (blkOk_by (N := ["n", "rows", "weights", "row", "w", "one"]) (sc := defScope s__law_weights) (by decide +kernel)) (fun _ _ _ _ _ => (pg_name (i := 3) sc__law_weights.nd rfl (by first | exact Or.inl rfl | exact Or.inr rfl))) (fun _ _ _ _ _ => pts_nil) (fun _ _ _ _ _ => (pe_callB (cr_sumA rfl) (by rfl) T.b_sum (by decide +kernel) (pa_cons (pv 3) pa_nil)))))
      (pss_one (ps_ret (pe_callTy call_tupF (by rfl) T.b_tuple (by decide +kernel) (pa_cons (pe_lc (own := [("w", 4)]) rfl sc__law_weights.nd (pi_range1 (by rfl) T.b_range (pa_cons (pe_op op_addZ (pv 0) pe_int) pa_nil)) (blkOk_by (N := ["n", "rows", "weights", "row", "w", "one"]) (sc := defScope s__law_weights) (by decide +kernel)) (fun _ _ _ _ _ => (pg_name (i := 4) sc__law_weights.nd rfl (by first | exact Or.inl rfl | exact Or.inr rfl))) (fun _ _ _ _ _ => pts_nil) (fun _ _ _ _ _ => (pe_callB call_len (by rfl) T.b_len PySem.boot_len (pa_cons (pe_lc (own := [("one", 5)]) rfl sc__law_weights.nd (pi_seq (pv 2)) (blkOk_by (by rfl)) (fun _ _ _ _ _ => (pg_name (i := 5) sc__law_weights.nd rfl (by first | exact Or.inl rfl | exact Or.inr rfl))) (fun _ _ _ _ _ => (pts_one (pt_cmpR (op_eqZ hr.units) (pv 5) (pv 4) (nomark _)))) (fun _ _ _ _ _ => (pv 5))) pa_nil)))) pa_nil))))))
    (fun S => (ds_seq (ds_asg 2 (de_lc (di_seq (de_var 1)) (dg_name 3) dt_yes (de_cb cd_sumA (da_cons (de_var 3) da_nil)) (by decide)))
      (ds_ret (de_cb cd_tuple (da_cons (de_lc (di_rng1 (da_cons (de_op od_add (de_var 0) de_int) da_nil)) (dg_name 4) dt_yes (de_cb cd_len (da_cons (de_lc (di_seq (de_var 2)) (dg_name 5) (dt_val (de_op od_eq (de_var 5) (de_var 4))) (de_solid (de_var 5)) (by decide)) da_nil)) (by decide)) da_nil))))) h (fun S ds R hs => pl__law_weights ds R hs)
def m_law : DMS :=
  (sSeq (sFor (dRng1 (dCons (dC (.int 3)) dNil)) (dgName 2) (sSeq (sAsg 3 (dCall spec__law_code (dCons (dVar 1) (dCons (dBin fAdd (dC (.int 1)) (dCall spec__law_pick (dCons (dVar 1) (dCons (dBin fIx (dLst (dCons (dC (.int 4)) (dCons (dC (.int 6)) (dCons (dC (.int 8)) dNil)))) (dVar 2)) dNil)))) (dCons (dC (.int 6)) dNil)))))
  (sSeq (sAsgG [] (dSolid (dTup (dCons (dBin fIx (dVar 3) (dC (.int 0))) (dCons (dCall fLen (dCons (dBin fIx (dVar 3) (dC (.int 1))) dNil)) (dCons (dCall spec__law_code_table (dCons (dVar 3) dNil)) dNil))))) (dgTup 3 (dgCons (dgName 4) (dgCons (dgName 5) (dgCons (dgName 6) dgNil)))))
  (sSeq (sAsg 7 (dLst dNil))
  (sSeq (sFor (dRng1 (dCons (dBin fAdd (dVar 4) (dC (.int 1))) dNil)) (dgName 8) (sSeq (sAsg 9 (dComp (dRng1 (dCons (dBin (f2IC CPow fun i j => .int (i * 2 ^ j.toNat)) (dC (.int 1)) (dVar 4)) dNil)) (dgName 10) (dTest (dBin (fEq false) (dCall fLen (dCons (dCall spec__law_lot_of (dCons (dVar 4) (dCons (dVar 10) dNil))) dNil)) (dVar 8))) (dSolid (dBin fIx (dVar 6) (dVar 10))) [10]))
  (sAppend 7 (dCall fTuple (dCons (dComp (dRng1 (dCons (dBin fAdd (dVar 8) (dC (.int 1))) dNil)) (dgName 11) dYes (dCall fLen (dCons (dComp (dItems (dVar 9)) (dgName 12) (dTest (dBin (fEq false) (dVar 12) (dVar 11))) (dSolid (dVar 12)) [12]) dNil)) [11]) dNil)))) [8, 9, 7] [8, 9])
  (sSeq (sPar 7 13 (dCons (dCall fTuple (dCons (dVar 7) dNil)) (dCons (dCall fRepr (dCons (dVar 3) dNil)) dNil)))
  (sSeq (sIf (dOr (dTest (dBin (fEq true) (dCall fRepr (dCons (dCall spec_rank_numbers (dCons (dVar 3) dNil)) dNil)) (dCall fRepr (dCons (dVar 7) dNil)))) (dTest (dBin (fEq true) (dCall fRepr (dCons (dVar 3) dNil)) (dVar 13)))) (sRet (dC (.bool false))) sNext)
  (sSeq (sAsg 14 (dLst (dCons (dCall spec__law_weights (dCons (dVar 4) (dCons (dCall spec__law_rows (dCons (dVar 4) (dCons (dBin fIx (dVar 3) (dC (.int 1))) dNil))) dNil))) (dCons (dCall spec__law_weights (dCons (dVar 4) (dCons (dCall spec__law_other_rows (dCons (dVar 4) (dCons (dBin fIx (dVar 3) (dC (.int 1))) dNil))) dNil))) dNil))))
  (sIf (dTest (dBin (fEq true) (dCall fRepr (dCons (dLst (dCons (dCall spec_weights_by_ranks (dCons (dVar 4) (dCons (dVar 5) (dCons (dVar 7) dNil)))) (dCons (dCall spec_other_weights_by_ranks (dCons (dVar 4) (dCons (dVar 5) (dCons (dVar 7) dNil)))) dNil))) dNil)) (dCall fRepr (dCons (dVar 14) dNil)))) (sRet (dC (.bool false))) sNext)))))))) [2, 3, 4, 5, 6, 7, 8, 9, 7, 7, 13, 14] [2, 3, 4, 5, 6, 7, 8, 9, 13, 14])
  (sSeq (sAsg 15 (dCall spec_rank_numbers (dCons (dTup (dCons (dC (.int 3)) (dCons (dTup (dCons (dTup (dCons (dC (.int 1)) (dCons (dC (.int 0)) (dCons (dC (.int 1)) dNil)))) (dCons (dTup (dCons (dC (.int 0)) (dCons (dC (.int 1)) (dCons (dC (.int 1)) dNil)))) dNil))) dNil))) dNil)))
  (sRet (dAndV (dBin (fEq false) (dVar 15) (dTup (dCons (dTup (dCons (dC (.int 1)) dNil)) (dCons (dTup (dCons (dC (.int 0)) (dCons (dC (.int 3)) dNil))) (dCons (dTup (dCons (dC (.int 0)) (dCons (dC (.int 0)) (dCons (dC (.int 3)) dNil)))) (dCons (dTup (dCons (dC (.int 0)) (dCons (dC (.int 0)) (dCons (dC (.int 1)) (dCons (dC (.int 0)) dNil))))) dNil)))))) (dBin (fEq false) (dCall spec_weights_by_ranks (dCons (dC (.int 3)) (dCons (dC (.int 2)) (dCons (dVar 15) dNil)))) (dTup (dCons (dC (.int 1)) (dCons (dC (.int 0)) (dCons (dC (.int 3)) (dCons (dC (.int 0)) dNil))))))))))
theorem size_at {i : Nat} (h : i < 3) : ∃ most : Nat, atI [(.int 4 : D), .int 6, .int 8] (i : Int) = some (.int (most : Nat)) ∧ 1 ≤ most ∧ most ≤ 8 := by
  match i, h with
  | 0, _ => exact ⟨4, rfl, by decide, by decide⟩
  | 1, _ => exact ⟨6, rfl, by decide, by decide⟩
  | 2, _ => exact ⟨8, rfl, by decide, by decide⟩
theorem fEq_yes {x y : D} {R : D → Prop} (h1 : x.plain = true) (h2 : y.plain = true) (h3 : min x.depth y.depth ≤ 60) (h4 : PyData.eqv x y = true) (h : R (.bool true)) : fEq false x y R := ⟨h1, h2, h3, by rw [if_neg Bool.false_ne_true, h4]; exact h⟩
theorem pl_law : m_law (startL 14) lawE := by
  unfold m_law
  walk_at "h"
  refine ⟨by omega, ?_⟩
  refine forD_nx (fun i ρ => ρ = [.unk, .val srcD, .unk, .unk, .unk, .unk, .unk, .unk, .unk, .unk, .unk, .unk, .unk, .unk, .unk, .unk]) _ 0 _ rfl ?_ ?_
  · rintro i x ρ E hx rfl hN
    obtain ⟨hi, rfl⟩ := range_at hx
    obtain ⟨most, em, m1, m2⟩ := size_at hi
    walk_at "h"
    refine ⟨_, em, most, rfl, by omega, fun a a0 a1 => ?_⟩
    obtain ⟨n, rfl⟩ : ∃ n : Nat, a = (n : Int) := ⟨a.toNat, by omega⟩
    have en : (1 : Int) + n = ((n + 1 : Nat) : Int) := by omega
    walk_at "h"
    rw [en]
    refine ⟨n, 6, rfl, by omega, by omega, fun B hB iB lB lB2 => ?_⟩
    obtain ⟨N, hNN⟩ : ∃ N, N = n + 1 := ⟨_, rfl⟩
    rw [← hNN] at hB iB lB2 ⊢
    have hN8 : N ≤ 8 := by omega
    walk_at "s"
    have pw : (2 : Nat) ^ N ≤ 2 ^ 8 := Nat.pow_le_pow_right (by decide) hN8
    have p8 : (2 : Nat) ^ 8 = 256 := by decide
    have e2 : (1 : Int) * 2 ^ ((N : Nat) : Int).toNat = ((2 ^ N : Nat) : Int) := by rw [Int.toNat_natCast, Int.one_mul]; norm_cast
    have z0 : (0 : Int) ≤ ((2 ^ N : Nat) : Int) := Int.natCast_nonneg _
    have z1 : ((2 ^ N : Nat) : Int) ≤ 256 := Int.ofNat_le.mpr (by omega)
    have rb : ∀ i j, rankC N B (2 ^ N) i j ≤ 256 := fun i j => by
      have := List.length_filter_le (fun x => (ptsN N x).length == i && rkP B (ptsN N x) == j) (List.range (2 ^ N))
      rw [List.length_range] at this
      unfold rankC
      omega
    have okn : Ok 10 50000 (rnkD N B) := by
      refine (Ok.tuple (k := 1) (w := 9 * 15 + 3) (n := 9) (fun d hd => ?_) (by unfold numbersN; simp; omega)).mono (by decide) (by decide)
      obtain ⟨L, hL, rfl⟩ := List.mem_map.mp hd
      obtain ⟨i, hi, rfl⟩ := List.mem_map.mp hL
      have hi := List.mem_range.mp hi
      refine ok_nats (fun k hk => ?_) (by rw [List.length_map, List.length_range]; omega)
      obtain ⟨j, _, rfl⟩ := List.mem_map.mp hk
      have := rb i j
      omega
    have okc : Ok 40 10000000 (.tuple [.int ((N : Nat) : Int), .tuple (rowsD B)]) := by
      refine (Ok.tuple (k := 10) (w := 5000) (n := 2) (fun d hd => ?_) (by simp)).mono (by decide) (by decide)
      rcases List.mem_cons.mp hd with rfl | hd
      · exact (Ok.int (by omega)).mono (by decide) (by decide)
      · rw [List.mem_singleton.mp hd]
        exact (ok_rowsD (n := 8) (m := 8) (fun r hr => by rw [hB r hr]; exact hN8) (by omega)).mono (by decide) (by decide)
    refine ⟨N, B, rfl, hB, by omega, by omega, ?_⟩
    refine ⟨by rw [solid_tup]; exact solids_of fun x _ => solid_int _, ?_⟩
    walk_at "s"
    walk_at "s"
    refine ⟨⟨by omega, by omega⟩, ?_⟩
    rw [show (((N : Nat) : Int) + 1).toNat = N + 1 by omega]
    refine forD_inv (fun m ρ => ρ = [.unk, .val srcD, .val (natD i), .val (.tuple [.int ((N : Nat) : Int), .tuple (rowsD B)]), .val (natD N), .val (natD B.length), .val (.tuple ((List.range (2 ^ N)).map fun x => natD (rkP B (ptsN N x)))), .own (.list ((List.range m).map fun i => lotD ((List.range (i + 1)).map fun j => rankC N B (2 ^ N) i j))), .unk, .unk, .unk, .unk, .unk, .unk, .unk, .unk]) _ 0 _ ?_ ?_ ?_
    · rw [show (rowsD B).length = B.length by unfold rowsD; rw [List.length_map]]
      rfl
    · rintro m x ρ Nx hx rfl hN2
      obtain ⟨hm, rfl⟩ := range_at hx
      rw [Nat.zero_add] at hN2 ⊢
      walk_at "h"
      rw [e2, Int.toNat_natCast, rangeD_nats]
      refine ⟨⟨by omega, by omega, by decide⟩, ⟨Int.le_trans (by decide) z0, Int.le_trans z1 (by decide)⟩, by rw [List.length_map, List.length_range]; omega, compD_filter (fun x => natD (rkP B (ptsN N x))) (fun x => (ptsN N x).length == m) (fun x hx k k0 h1 h0 => ?_) ?_⟩
      · have hx := List.mem_range.mp hx
        walk_at "h"
        refine ⟨N, x, rfl, by omega, ?_⟩
        walk_at "h"
        rw [List.length_map]
        refine fEq_int ?_
        simp only [Bool.false_eq_true, if_false]
        have e1 : ((((ptsN N x).length : Nat) : Int) == ((m : Nat) : Int)) = ((ptsN N x).length == m) := by
          rw [Bool.eq_iff_iff, beq_iff_eq, beq_iff_eq]
          omega
        rw [e1]
        cases c : (ptsN N x).length == m
        · exact h0 c
        · refine ⟨_, at_map (k := x) rfl (by rw [List.length_range]; exact hx), ?_⟩
          rw [List.getElem_range]
          exact ⟨solid_int _, h1 c⟩
      rw [show ((List.range (2 ^ N)).filter fun x => (ptsN N x).length == m) = sizedN N m from rfl]
      have ls : (sizedN N m).length ≤ 256 := by
        have := List.length_filter_le (fun x => (ptsN N x).length == m) (List.range (2 ^ N))
        rw [List.length_range] at this
        unfold sizedN
        omega
      walk_at "s"
      refine ⟨⟨by omega, by omega⟩, ?_⟩
      rw [show (((m : Nat) : Int) + 1).toNat = m + 1 by omega, rangeD_nats]
      refine ⟨by rw [List.length_map, List.length_range]; omega, compD_map (fun j => natD (rankC N B (2 ^ N) m j)) (fun j hj k k0 hk => ?_) ?_⟩
      · walk_at "h"
        refine ⟨by rw [List.length_map]; omega, compD_filter (fun x => natD (rkP B (ptsN N x))) (fun x => rkP B (ptsN N x) == j) (fun x hx c c0 h1 h0 => ?_) ?_⟩
        · walk_at "h"
          refine fEq_int ?_
          simp only [Bool.false_eq_true, if_false]
          have e1 : (((rkP B (ptsN N x) : Nat) : Int) == ((j : Nat) : Int)) = (rkP B (ptsN N x) == j) := by
            rw [Bool.eq_iff_iff, beq_iff_eq, beq_iff_eq]
            omega
          rw [e1]
          cases c : rkP B (ptsN N x) == j
          · exact h0 c
          · exact h1 c
        · rw [List.length_map, ← rankC_sized]
          exact hk
      · refine ⟨solids_of fun j _ => solid_int _, by rw [List.length_map, List.length_range]; omega, hN2 _ ?_⟩
        walk_at "h"
        rw [List.range_succ, List.map_append, List.map_append]
        have e1 : ([m].map fun i => lotD ((List.range (i + 1)).map fun j => rankC N B (2 ^ N) i j)) = [.tuple ((List.range (m + 1)).map fun j => natD (rankC N B (2 ^ N) m j))] := by
          show [lotD _] = _
          unfold lotD
          rw [List.map_map]
          rfl
        rw [e1, List.range_succ, List.map_append]
    · rintro ρ rfl
      rw [Nat.zero_add, rangeD_len]
      walk_at "h"
      walk_at "s"
      have en2 : ((List.range (N + 1)).map fun i => lotD ((List.range (i + 1)).map fun j => rankC N B (2 ^ N) i j)) = (numbersN N B).map lotD := by
        unfold numbersN
        rw [List.map_map]
        rfl
      rw [en2]
      refine ⟨solids_of fun L _ => by unfold lotD; rw [solid_tup]; exact solids_nats L, okc, ?_⟩
      rw [show PyData.tuple ((numbersN N B).map lotD) = rnkD N B from rfl]
      walk_at "s"
      refine ⟨N, B, rfl, hB, by omega, by omega, okn.mono (by decide) (by decide), okn.mono (by decide) (by decide), fEq_eq ?_⟩
      dsimp only
      rw [cond_false]
      refine ⟨okc, fEq_eq ?_⟩
      dsimp only
      rw [cond_false]
      subst hNN
      obtain ⟨S, hS, _⟩ := rref_ex hB
      obtain ⟨O, hO, _⟩ := rref_ex (free_len (n + 1) S)
      have pV : (sortR (sums (n + 1) B)).Perm (sums (n + 1) B) := List.mergeSort_perm _ _
      have cO : O.length + B.length = n + 1 := by
        have h5 := other_count hS hO
        have h6 := iB S hS
        omega
      have pows : ∀ k, k ≤ 8 → (2 : Nat) ^ k ≤ 256 := fun k hk => by
        have := Nat.pow_le_pow_right (n := 2) (by decide) hk
        omega
      have lV : (sortR (sums (n + 1) B)).length ≤ 256 := by
        rw [pV.length_eq, sums_count]
        exact pows _ (by omega)
      have vV : ∀ v ∈ sortR (sums (n + 1) B), v.length ≤ 1000 := fun v hv => by
        rw [((sums_mem hB).mp (pV.mem_iff.mp hv)).len hB]
        omega
      have okw : ∀ V : List (List Bool), V.length ≤ 256 → Ok 10 5000 (.tuple ((List.range (n + 1 + 1)).map fun w => natD (weightW V w))) := fun V hV => by
        have e1 : ((List.range (n + 1 + 1)).map fun w => natD (weightW V w)) = ((List.range (n + 1 + 1)).map fun w => weightW V w).map natD := by rw [List.map_map]; rfl
        rw [e1]
        refine (ok_nats (m := 9) (fun k hk => ?_) (by rw [List.length_map, List.length_range]; omega)).mono (by decide) (by decide)
        obtain ⟨w, _, rfl⟩ := List.mem_map.mp hk
        have := List.length_filter_le (fun v => wtN v == w) V
        unfold weightW
        omega
      walk_at "s"
      refine ⟨n, B, rfl, hB, by omega, by omega, n + 1, sortR (sums (n + 1) B), rfl, by omega, by omega, vV, ?_⟩
      refine ⟨n + 1, B, S, O, rfl, hB, by omega, hS, hO, by omega, fun L pL => ?_⟩
      have lL : L.length ≤ 256 := by
        rw [pL.length_eq, sums_count]
        exact pows _ (by omega)
      have vL : ∀ v ∈ L, v.length ≤ 1000 := fun v hv => by
        rw [((sums_mem hO.red.len).mp (pL.mem_iff.mp hv)).len hO.red.len]
        omega
      refine ⟨n + 1, L, rfl, by omega, by omega, vL, ?_⟩
      walk_at "s"
      rw [show (rowsD B).length = B.length by unfold rowsD; rw [List.length_map]]
      refine ⟨n + 1, B, sortR (sums (n + 1) B), rfl, hB, iB, by omega, pV, ?_⟩
      refine ⟨n + 1, _, B, S, O, L, rfl, hB, iB, hS, hO, by omega, pL, ?_⟩
      have ok2 : Ok 40 10000000 (.list [.tuple ((List.range (n + 1 + 1)).map fun w => natD (weightW (sortR (sums (n + 1) B)) w)), .tuple ((List.range (n + 1 + 1)).map fun w => natD (weightW L w))]) := by
        refine (Ok.list (k := 10) (w := 5000) (n := 2) (fun d hd => ?_) (by simp)).mono (by decide) (by decide)
        rcases List.mem_cons.mp hd with rfl | hd
        · exact okw _ lV
        · rw [List.mem_singleton.mp hd]
          exact okw _ lL
      refine ⟨ok2, ok2, fEq_eq ?_⟩
      dsimp only
      rw [cond_false]
      exact hN _ rfl
  · rintro ρ rfl
    walk_at "h"
    walk_at "s"
    refine ⟨3, [[true, false, true], [false, true, true]], rfl, fun r hr => ?_, by decide, by decide, ?_⟩
    · simp only [List.mem_cons, List.not_mem_nil, or_false] at hr
      rcases hr with rfl | rfl <;> rfl
    have hB : Len 3 [[true, false, true], [false, true, true]] := fun r hr => by
      simp only [List.mem_cons, List.not_mem_nil, or_false] at hr
      rcases hr with rfl | rfl <;> rfl
    have iB : Ind 3 [[true, false, true], [false, true, true]] := (ind_rk hB).mpr (by decide +kernel)
    have en : numbersN 3 [[true, false, true], [false, true, true]] = [[1], [0, 3], [0, 0, 3], [0, 0, 1, 0]] := by decide +kernel
    have ew : ((List.range (3 + 1)).map fun w => weightW (sums 3 [[true, false, true], [false, true, true]]) w) = [1, 0, 3, 0] := by decide +kernel
    have ew2 : ((List.range (3 + 1)).map fun w => natD (weightW (sums 3 [[true, false, true], [false, true, true]]) w)) = [.int 1, .int 0, .int 3, .int 0] := by
      have : ((List.range (3 + 1)).map fun w => natD (weightW (sums 3 [[true, false, true], [false, true, true]]) w)) = ((List.range (3 + 1)).map fun w => weightW (sums 3 [[true, false, true], [false, true, true]]) w).map natD := by rw [List.map_map]; rfl
      rw [this, ew]
      rfl
    have en2 : rnkD 3 [[true, false, true], [false, true, true]] = .tuple [.tuple [.int 1], .tuple [.int 0, .int 3], .tuple [.int 0, .int 0, .int 3], .tuple [.int 0, .int 0, .int 1, .int 0]] := by
      unfold rnkD
      rw [en]
      rfl
    walk_at "s"
    rw [en2]
    refine fEq_yes (by decide +kernel) (by decide +kernel) (by decide +kernel) (by decide +kernel) ?_
    dsimp only
    rw [cond_true, ← en2]
    refine ⟨3, [[true, false, true], [false, true, true]], sums 3 [[true, false, true], [false, true, true]], rfl, hB, iB, by decide, List.Perm.refl _, ?_⟩
    rw [ew2]
    exact fEq_yes (by decide +kernel) (by decide +kernel) (by decide +kernel) (by decide +kernel) rfl
set_option maxHeartbeats 0 in
theorem fn_law (T : Tx K mg) {f : Addr} {fd : FuncData} (F : Fun K "law" "law" s_law f fd) : FnG P w K mg base 6 f fd ["script"] (spLaw K) := by
  refine fnG_of F sc_law (fun vs H Q E h => by obtain ⟨a, ns, rfl, _⟩ := h; rfl) fun cdv A outer s H vs Q E hr hg h => ?_
  exact law_of (K := K) (m := m_law) ["script", "source", "lap", "code", "n", "r", "table", "numbers", "i", "ranks", "k", "j", "one", "kept", "due", "told"] rfl
    (pss_cons (ps_set (i := 1) sc_law.nd rfl (by first | exact Or.inl rfl | exact Or.inr rfl) (pe_callG (at__law_source T) (hr.mono (by decide)) hg (by rfl) (pa_cons (pv 0) pa_nil)))
      (pss_cons (ps_for PassesOwn.never rfl (pi_range1 (by rfl) T.b_range (pa_cons pe_int pa_nil)) (pg_name (i := 2) sc_law.nd rfl (by first | exact Or.inl rfl | exact Or.inr rfl)) (pss_cons (ps_set (i := 3) sc_law.nd rfl (by first | exact Or.inl rfl | exact Or.inr rfl) (pe_callG (at__law_code T) (hr.mono (by decide)) hg (by rfl) (pa_cons (pv 1) (pa_cons (pe_op op_addZ pe_int (pe_callG (at__law_pick T) (hr.mono (by decide)) hg (by rfl) (pa_cons (pv 1) (pa_cons (pe_ix ix_seq (pe_lst (pa_cons pe_int (pa_cons pe_int (pa_cons pe_int pa_nil)))) (pv 2) (fun _ _ => rfl)) pa_nil)))) (pa_cons pe_int pa_nil)))))
      (pss_cons (ps_asg (pe_tupF (pa_cons (pe_ix ix_seq (pv 3) pe_int (fun _ _ => rfl)) (pa_cons (pe_callB call_len (by rfl) T.b_len PySem.boot_len (pa_cons (pe_ix ix_seq (pv 3) pe_int (fun _ _ => rfl)) pa_nil)) (pa_cons (pe_callG (at__law_code_table T) (hr.mono (by decide)) hg (by rfl) (pa_cons (pv 3) pa_nil)) pa_nil)))) (pg_tup rfl (pgs_cons (pg_name (i := 4) sc_law.nd rfl (by first | exact Or.inl rfl | exact Or.inr rfl)) (pgs_cons (pg_name (i := 5) sc_law.nd rfl (by first | exact Or.inl rfl | exact Or.inr rfl)) (pgs_cons (pg_name (i := 6) sc_law.nd rfl (by first | exact Or.inl rfl | exact Or.inr rfl)) pgs_nil)))))
      (pss_cons (ps_set (i := 7) sc_law.nd rfl (by first | exact Or.inl rfl | exact Or.inr rfl) (pe_lst pa_nil))
      (pss_cons (ps_for PassesOwn.never rfl (pi_range1 (by rfl) T.b_range (pa_cons (pe_op op_addZ (pv 4) pe_int) pa_nil)) (pg_name (i := 8) sc_law.nd rfl (by first | exact Or.inl rfl | exact Or.inr rfl)) (pss_cons (ps_set (i := 9) sc_law.nd rfl (by first | exact Or.inl rfl | exact Or.inr rfl) (pe_lc (own := [("k", 10)]) rfl sc_law.nd (pi_range1 (by rfl) T.b_range (pa_cons (pe_op op_shl pe_int (pv 4)) pa_nil)) (blkOk_by (N := ["script", "source", "lap", "code", "n", "r", "table", "numbers", "i", "ranks", "k", "j", "one", "kept", "due", "told"]) (sc := defScope s_law) (by decide +kernel)) (fun _ _ _ _ _ => (pg_name (i := 10) sc_law.nd rfl (by first | exact Or.inl rfl | exact Or.inr rfl))) (fun _ _ _ _ _ => (pts_one (pt_cmpR (op_eqZ hr.units) (pe_callB call_len (by rfl) T.b_len PySem.boot_len (pa_cons (pe_callG (at__law_lot_of T) (hr.mono (by decide)) hg (by rfl) (pa_cons (pv 4) (pa_cons (pv 10) pa_nil))) pa_nil)) (pv 8) (nomark _)))) (fun _ _ _ _ _ => (pe_ix ix_seq (pv 6) (pv 10) (fun _ _ => rfl)))))
      (pss_one (ps_expr (pe_bm PySem.F.plainAttrs_list PySem.F.slot_list_append PySem.F.type_list_append mt_append (pv 7) (pa_cons (pe_callTy call_tupF (by rfl) T.b_tuple (by decide +kernel) (pa_cons (pe_lc (own := [("j", 11)]) rfl sc_law.nd (pi_range1 (by rfl) T.b_range (pa_cons (pe_op op_addZ (pv 8) pe_int) pa_nil)) (blkOk_by (N := ["script", "source", "lap", "code", "n", "r", "table", "numbers", "i", "ranks", "k", "j", "one", "kept", "due", "told"]) (sc := defScope s_law) (by decide +kernel)) (fun _ _ _ _ _ => (pg_name (i := 11) sc_law.nd rfl (by first | exact Or.inl rfl | exact Or.inr rfl))) (fun _ _ _ _ _ => pts_nil) (fun _ _ _ _ _ => (pe_callB call_len (by rfl) T.b_len PySem.boot_len (pa_cons (pe_lc (own := [("one", 12)]) rfl sc_law.nd (pi_seq (pv 9)) (blkOk_by (by rfl)) (fun _ _ _ _ _ => (pg_name (i := 12) sc_law.nd rfl (by first | exact Or.inl rfl | exact Or.inr rfl))) (fun _ _ _ _ _ => (pts_one (pt_cmpR (op_eqZ hr.units) (pv 12) (pv 11) (nomark _)))) (fun _ _ _ _ _ => (pv 12))) pa_nil)))) pa_nil)) pa_nil))))))
      (pss_cons (ps_par (i := 7) (j := 13) rfl sc_law.nd rfl rfl (by decide) rfl rfl (pa_cons (pe_callTy call_tupF (by rfl) T.b_tuple (by decide +kernel) (pa_cons (pv 7) pa_nil)) (pa_cons (pe_callB (cr_repr hg hr.units) (by rfl) T.b_repr (by decide +kernel) (pa_cons (pv 3) pa_nil)) pa_nil)) (by rfl))
      (pss_cons (ps_if (PW.pt (pw_or (pt_cmpR (op_neZ hr.units) (pe_callB (cr_repr hg hr.units) (by rfl) T.b_repr (by decide +kernel) (pa_cons (pe_callG (at_rank_numbers T) (hr.mono (by decide)) hg (by rfl) (pa_cons (pv 3) pa_nil)) pa_nil)) (pe_callB (cr_repr hg hr.units) (by rfl) T.b_repr (by decide +kernel) (pa_cons (pv 7) pa_nil)) (nomark _)) (pw_or1 (pt_cmpR (op_neZ hr.units) (pe_callB (cr_repr hg hr.units) (by rfl) T.b_repr (by decide +kernel) (pa_cons (pv 3) pa_nil)) (pv 13) (nomark _))))) (pss_one (ps_ret pe_bl)) pss_nil)
      (pss_cons (ps_set (i := 14) sc_law.nd rfl (by first | exact Or.inl rfl | exact Or.inr rfl) (pe_lst (pa_cons (pe_callG (at__law_weights T) (hr.mono (by decide)) hg (by rfl) (pa_cons (pv 4) (pa_cons (pe_callG (at__law_rows T) (hr.mono (by decide)) hg (by rfl) (pa_cons (pv 4) (pa_cons (pe_ix ix_seq (pv 3) pe_int (fun _ _ => rfl)) pa_nil))) pa_nil))) (pa_cons (pe_callG (at__law_weights T) (hr.mono (by decide)) hg (by rfl) (pa_cons (pv 4) (pa_cons (pe_callG (at__law_other_rows T) (hr.mono (by decide)) hg (by rfl) (pa_cons (pv 4) (pa_cons (pe_ix ix_seq (pv 3) pe_int (fun _ _ => rfl)) pa_nil))) pa_nil))) pa_nil))))
      (pss_one (ps_if (pt_cmpR (op_neZ hr.units) (pe_callB (cr_repr hg hr.units) (by rfl) T.b_repr (by decide +kernel) (pa_cons (pe_lst (pa_cons (pe_callG (at_weights_by_ranks T) (hr.mono (by decide)) hg (by rfl) (pa_cons (pv 4) (pa_cons (pv 5) (pa_cons (pv 7) pa_nil)))) (pa_cons (pe_callG (at_other_weights_by_ranks T) (hr.mono (by decide)) hg (by rfl) (pa_cons (pv 4) (pa_cons (pv 5) (pa_cons (pv 7) pa_nil)))) pa_nil))) pa_nil)) (pe_callB (cr_repr hg hr.units) (by rfl) T.b_repr (by decide +kernel) (pa_cons (pv 14) pa_nil)) (nomark _)) (pss_one (ps_ret pe_bl)) pss_nil))))))))))
      (pss_cons (ps_set (i := 15) sc_law.nd rfl (by first | exact Or.inl rfl | exact Or.inr rfl) (pe_callG (at_rank_numbers T) (hr.mono (by decide)) hg (by rfl) (pa_cons (pe_tupF (pa_cons pe_int (pa_cons (pe_tupF (pa_cons (pe_tupF (pa_cons pe_int (pa_cons pe_int (pa_cons pe_int pa_nil)))) (pa_cons (pe_tupF (pa_cons pe_int (pa_cons pe_int (pa_cons pe_int pa_nil)))) pa_nil))) pa_nil))) pa_nil)))
      (pss_one (ps_ret (pe_and (pe_cmpR (op_eqZ hr.units) (pv 15) (pe_tupF (pa_cons (pe_tupF (pa_cons pe_int pa_nil)) (pa_cons (pe_tupF (pa_cons pe_int (pa_cons pe_int pa_nil))) (pa_cons (pe_tupF (pa_cons pe_int (pa_cons pe_int (pa_cons pe_int pa_nil)))) (pa_cons (pe_tupF (pa_cons pe_int (pa_cons pe_int (pa_cons pe_int (pa_cons pe_int pa_nil))))) pa_nil))))) (nomark _)) (pe_one (pe_cmpR (op_eqZ hr.units) (pe_callG (at_weights_by_ranks T) (hr.mono (by decide)) hg (by rfl) (pa_cons pe_int (pa_cons pe_int (pa_cons (pv 15) pa_nil)))) (pe_tupF (pa_cons pe_int (pa_cons pe_int (pa_cons pe_int (pa_cons pe_int pa_nil))))) (nomark _)))))))))
    (fun S => (ds_seq (ds_for (Wg := [2]) (Wb := [3, 4, 5, 6, 7, 8, 9, 7, 7, 13, 14]) (F := [2, 3, 4, 5, 6, 7, 8, 9, 13, 14]) (di_rng1 (da_cons de_int da_nil)) (dg_name 2) (ds_seq (ds_asg 3 (de_call (da_cons (de_var 1) (da_cons (de_op od_add de_int (de_call (da_cons (de_var 1) (da_cons (de_opA oa_ix (de_lst (da_cons de_int (da_cons de_int (da_cons de_int da_nil)))) (de_var 2)) da_nil)))) (da_cons de_int da_nil)))))
      (ds_seq (ds_asgG (de_solid (de_tup (da_cons (de_opA oa_ix (de_var 3) de_int) (da_cons (de_cb cd_len (da_cons (de_opA oa_ix (de_var 3) de_int) da_nil)) (da_cons (de_call (da_cons (de_var 3) da_nil)) da_nil))))) (dg_tup (dgs_cons (dg_name 4) (dgs_cons (dg_name 5) (dgs_cons (dg_name 6) dgs_nil)))))
      (ds_seq (ds_asg 7 (de_lst da_nil))
      (ds_seq (ds_for (Wg := [8]) (Wb := [9, 7]) (F := [8, 9]) (di_rng1 (da_cons (de_op od_add (de_var 4) de_int) da_nil)) (dg_name 8) (ds_seq (ds_asg 9 (de_lc (di_rng1 (da_cons (de_op od_IC de_int (de_var 4)) da_nil)) (dg_name 10) (dt_val (de_op od_eq (de_cb cd_len (da_cons (de_call (da_cons (de_var 4) (da_cons (de_var 10) da_nil))) da_nil)) (de_var 8))) (de_solid (de_opA oa_ix (de_var 6) (de_var 10))) (by decide)))
      (ds_append 7 (de_cb cd_tuple (da_cons (de_lc (di_rng1 (da_cons (de_op od_add (de_var 8) de_int) da_nil)) (dg_name 11) dt_yes (de_cb cd_len (da_cons (de_lc (di_seq (de_var 9)) (dg_name 12) (dt_val (de_op od_eq (de_var 12) (de_var 11))) (de_solid (de_var 12)) (by decide)) da_nil)) (by decide)) da_nil)))) (by decide))
      (ds_seq (ds_par 7 13 (da_cons (de_cb cd_tuple (da_cons (de_var 7) da_nil)) (da_cons (de_cb cd_repr (da_cons (de_var 3) da_nil)) da_nil)))
      (ds_seq (ds_if (dt_or (dt_val (de_op od_eq (de_cb cd_repr (da_cons (de_call (da_cons (de_var 3) da_nil)) da_nil)) (de_cb cd_repr (da_cons (de_var 7) da_nil)))) (dt_val (de_op od_eq (de_cb cd_repr (da_cons (de_var 3) da_nil)) (de_var 13)))) (ds_ret de_bl) ds_next)
      (ds_seq (ds_asg 14 (de_lst (da_cons (de_call (da_cons (de_var 4) (da_cons (de_call (da_cons (de_var 4) (da_cons (de_opA oa_ix (de_var 3) de_int) da_nil))) da_nil))) (da_cons (de_call (da_cons (de_var 4) (da_cons (de_call (da_cons (de_var 4) (da_cons (de_opA oa_ix (de_var 3) de_int) da_nil))) da_nil))) da_nil))))
      (ds_if (dt_val (de_op od_eq (de_cb cd_repr (da_cons (de_lst (da_cons (de_call (da_cons (de_var 4) (da_cons (de_var 5) (da_cons (de_var 7) da_nil)))) (da_cons (de_call (da_cons (de_var 4) (da_cons (de_var 5) (da_cons (de_var 7) da_nil)))) da_nil))) da_nil)) (de_cb cd_repr (da_cons (de_var 14) da_nil)))) (ds_ret de_bl) ds_next)))))))) (by decide))
      (ds_seq (ds_asg 15 (de_call (da_cons (de_tup (da_cons de_int (da_cons (de_tup (da_cons (de_tup (da_cons de_int (da_cons de_int (da_cons de_int da_nil)))) (da_cons (de_tup (da_cons de_int (da_cons de_int (da_cons de_int da_nil)))) da_nil))) da_nil))) da_nil)))
      (ds_ret (de_andV (de_op od_eq (de_var 15) (de_tup (da_cons (de_tup (da_cons de_int da_nil)) (da_cons (de_tup (da_cons de_int (da_cons de_int da_nil))) (da_cons (de_tup (da_cons de_int (da_cons de_int (da_cons de_int da_nil)))) (da_cons (de_tup (da_cons de_int (da_cons de_int (da_cons de_int (da_cons de_int da_nil))))) da_nil)))))) (de_op od_eq (de_call (da_cons de_int (da_cons de_int (da_cons (de_var 15) da_nil)))) (de_tup (da_cons de_int (da_cons de_int (da_cons de_int (da_cons de_int da_nil))))))))))) pl_law h
end
/-! ### the end -/
theorem all_mk {l : PySem.W.OpenLaw} {w : World} {K : PySem.W.Frag} {h : Heap} {mg : Str → Option Value} {fa : Addr} (X : K.In h) (G : h.Ns mainGlobals mg) (hfa : mg "law" = some (.ref fa))
    {f0 : Addr} {od0 an0 : Option Addr} {sl0 : Array (Option Value)} {oc0 kV0 dc0 pm0 cd0 ct0 : Value}
    (a0 : PySem.W.nsIn K mainGlobals "added" = some (some (.ref f0))) (l0 : K.lookup f0 = some ⟨oc0, od0, .func (PySem.W.fnOf "added" "added" (defArgs s_added) (defBody s_added) (defScope s_added) .none kV0 dc0 pm0 an0 cd0 ct0), sl0⟩) (c0 : PySem.W.codeIn K cd0 "added" = true) (k0 : PySem.W.keepIn K (.ref f0) = true)
    {f1 : Addr} {od1 an1 : Option Addr} {sl1 : Array (Option Value)} {oc1 kV1 dc1 pm1 cd1 ct1 : Value}
    (a1 : PySem.W.nsIn K mainGlobals "stepped" = some (some (.ref f1))) (l1 : K.lookup f1 = some ⟨oc1, od1, .func (PySem.W.fnOf "stepped" "stepped" (defArgs s_stepped) (defBody s_stepped) (defScope s_stepped) .none kV1 dc1 pm1 an1 cd1 ct1), sl1⟩) (c1 : PySem.W.codeIn K cd1 "stepped" = true) (k1 : PySem.W.keepIn K (.ref f1) = true)
    {f2 : Addr} {od2 an2 : Option Addr} {sl2 : Array (Option Value)} {oc2 kV2 dc2 pm2 cd2 ct2 : Value}
    (a2 : PySem.W.nsIn K mainGlobals "rank_in" = some (some (.ref f2))) (l2 : K.lookup f2 = some ⟨oc2, od2, .func (PySem.W.fnOf "rank_in" "rank_in" (defArgs s_rank_in) (defBody s_rank_in) (defScope s_rank_in) .none kV2 dc2 pm2 an2 cd2 ct2), sl2⟩) (c2 : PySem.W.codeIn K cd2 "rank_in" = true) (k2 : PySem.W.keepIn K (.ref f2) = true)
    {f3 : Addr} {od3 an3 : Option Addr} {sl3 : Array (Option Value)} {oc3 kV3 dc3 pm3 cd3 ct3 : Value}
    (a3 : PySem.W.nsIn K mainGlobals "places_of" = some (some (.ref f3))) (l3 : K.lookup f3 = some ⟨oc3, od3, .func (PySem.W.fnOf "places_of" "places_of" (defArgs s_places_of) (defBody s_places_of) (defScope s_places_of) .none kV3 dc3 pm3 an3 cd3 ct3), sl3⟩) (c3 : PySem.W.codeIn K cd3 "places_of" = true) (k3 : PySem.W.keepIn K (.ref f3) = true)
    {f4 : Addr} {od4 an4 : Option Addr} {sl4 : Array (Option Value)} {oc4 kV4 dc4 pm4 cd4 ct4 : Value}
    (a4 : PySem.W.nsIn K mainGlobals "rank_table" = some (some (.ref f4))) (l4 : K.lookup f4 = some ⟨oc4, od4, .func (PySem.W.fnOf "rank_table" "rank_table" (defArgs s_rank_table) (defBody s_rank_table) (defScope s_rank_table) .none kV4 dc4 pm4 an4 cd4 ct4), sl4⟩) (c4 : PySem.W.codeIn K cd4 "rank_table" = true) (k4 : PySem.W.keepIn K (.ref f4) = true)
    {f5 : Addr} {od5 an5 : Option Addr} {sl5 : Array (Option Value)} {oc5 kV5 dc5 pm5 cd5 ct5 : Value}
    (a5 : PySem.W.nsIn K mainGlobals "rank_numbers" = some (some (.ref f5))) (l5 : K.lookup f5 = some ⟨oc5, od5, .func (PySem.W.fnOf "rank_numbers" "rank_numbers" (defArgs s_rank_numbers) (defBody s_rank_numbers) (defScope s_rank_numbers) .none kV5 dc5 pm5 an5 cd5 ct5), sl5⟩) (c5 : PySem.W.codeIn K cd5 "rank_numbers" = true) (k5 : PySem.W.keepIn K (.ref f5) = true)
    {f6 : Addr} {od6 an6 : Option Addr} {sl6 : Array (Option Value)} {oc6 kV6 dc6 pm6 cd6 ct6 : Value}
    (a6 : PySem.W.nsIn K mainGlobals "unfolded" = some (some (.ref f6))) (l6 : K.lookup f6 = some ⟨oc6, od6, .func (PySem.W.fnOf "unfolded" "unfolded" (defArgs s_unfolded) (defBody s_unfolded) (defScope s_unfolded) .none kV6 dc6 pm6 an6 cd6 ct6), sl6⟩) (c6 : PySem.W.codeIn K cd6 "unfolded" = true) (k6 : PySem.W.keepIn K (.ref f6) = true)
    {f7 : Addr} {od7 an7 : Option Addr} {sl7 : Array (Option Value)} {oc7 kV7 dc7 pm7 cd7 ct7 : Value}
    (a7 : PySem.W.nsIn K mainGlobals "weights_by_ranks" = some (some (.ref f7))) (l7 : K.lookup f7 = some ⟨oc7, od7, .func (PySem.W.fnOf "weights_by_ranks" "weights_by_ranks" (defArgs s_weights_by_ranks) (defBody s_weights_by_ranks) (defScope s_weights_by_ranks) .none kV7 dc7 pm7 an7 cd7 ct7), sl7⟩) (c7 : PySem.W.codeIn K cd7 "weights_by_ranks" = true) (k7 : PySem.W.keepIn K (.ref f7) = true)
    {f8 : Addr} {od8 an8 : Option Addr} {sl8 : Array (Option Value)} {oc8 kV8 dc8 pm8 cd8 ct8 : Value}
    (a8 : PySem.W.nsIn K mainGlobals "other_weights_by_ranks" = some (some (.ref f8))) (l8 : K.lookup f8 = some ⟨oc8, od8, .func (PySem.W.fnOf "other_weights_by_ranks" "other_weights_by_ranks" (defArgs s_other_weights_by_ranks) (defBody s_other_weights_by_ranks) (defScope s_other_weights_by_ranks) .none kV8 dc8 pm8 an8 cd8 ct8), sl8⟩) (c8 : PySem.W.codeIn K cd8 "other_weights_by_ranks" = true) (k8 : PySem.W.keepIn K (.ref f8) = true)
    {f9 : Addr} {od9 an9 : Option Addr} {sl9 : Array (Option Value)} {oc9 kV9 dc9 pm9 cd9 ct9 : Value}
    (a9 : PySem.W.nsIn K mainGlobals "_law_source" = some (some (.ref f9))) (l9 : K.lookup f9 = some ⟨oc9, od9, .func (PySem.W.fnOf "_law_source" "_law_source" (defArgs s__law_source) (defBody s__law_source) (defScope s__law_source) .none kV9 dc9 pm9 an9 cd9 ct9), sl9⟩) (c9 : PySem.W.codeIn K cd9 "_law_source" = true) (k9 : PySem.W.keepIn K (.ref f9) = true)
    {f10 : Addr} {od10 an10 : Option Addr} {sl10 : Array (Option Value)} {oc10 kV10 dc10 pm10 cd10 ct10 : Value}
    (a10 : PySem.W.nsIn K mainGlobals "_law_pick" = some (some (.ref f10))) (l10 : K.lookup f10 = some ⟨oc10, od10, .func (PySem.W.fnOf "_law_pick" "_law_pick" (defArgs s__law_pick) (defBody s__law_pick) (defScope s__law_pick) .none kV10 dc10 pm10 an10 cd10 ct10), sl10⟩) (c10 : PySem.W.codeIn K cd10 "_law_pick" = true) (k10 : PySem.W.keepIn K (.ref f10) = true)
    {f11 : Addr} {od11 an11 : Option Addr} {sl11 : Array (Option Value)} {oc11 kV11 dc11 pm11 cd11 ct11 : Value}
    (a11 : PySem.W.nsIn K mainGlobals "_law_sum" = some (some (.ref f11))) (l11 : K.lookup f11 = some ⟨oc11, od11, .func (PySem.W.fnOf "_law_sum" "_law_sum" (defArgs s__law_sum) (defBody s__law_sum) (defScope s__law_sum) .none kV11 dc11 pm11 an11 cd11 ct11), sl11⟩) (c11 : PySem.W.codeIn K cd11 "_law_sum" = true) (k11 : PySem.W.keepIn K (.ref f11) = true)
    {f12 : Addr} {od12 an12 : Option Addr} {sl12 : Array (Option Value)} {oc12 kV12 dc12 pm12 cd12 ct12 : Value}
    (a12 : PySem.W.nsIn K mainGlobals "_law_rows" = some (some (.ref f12))) (l12 : K.lookup f12 = some ⟨oc12, od12, .func (PySem.W.fnOf "_law_rows" "_law_rows" (defArgs s__law_rows) (defBody s__law_rows) (defScope s__law_rows) .none kV12 dc12 pm12 an12 cd12 ct12), sl12⟩) (c12 : PySem.W.codeIn K cd12 "_law_rows" = true) (k12 : PySem.W.keepIn K (.ref f12) = true)
    {f13 : Addr} {od13 an13 : Option Addr} {sl13 : Array (Option Value)} {oc13 kV13 dc13 pm13 cd13 ct13 : Value}
    (a13 : PySem.W.nsIn K mainGlobals "_law_code" = some (some (.ref f13))) (l13 : K.lookup f13 = some ⟨oc13, od13, .func (PySem.W.fnOf "_law_code" "_law_code" (defArgs s__law_code) (defBody s__law_code) (defScope s__law_code) .none kV13 dc13 pm13 an13 cd13 ct13), sl13⟩) (c13 : PySem.W.codeIn K cd13 "_law_code" = true) (k13 : PySem.W.keepIn K (.ref f13) = true)
    {f14 : Addr} {od14 an14 : Option Addr} {sl14 : Array (Option Value)} {oc14 kV14 dc14 pm14 cd14 ct14 : Value}
    (a14 : PySem.W.nsIn K mainGlobals "_law_lot_of" = some (some (.ref f14))) (l14 : K.lookup f14 = some ⟨oc14, od14, .func (PySem.W.fnOf "_law_lot_of" "_law_lot_of" (defArgs s__law_lot_of) (defBody s__law_lot_of) (defScope s__law_lot_of) .none kV14 dc14 pm14 an14 cd14 ct14), sl14⟩) (c14 : PySem.W.codeIn K cd14 "_law_lot_of" = true) (k14 : PySem.W.keepIn K (.ref f14) = true)
    {f15 : Addr} {od15 an15 : Option Addr} {sl15 : Array (Option Value)} {oc15 kV15 dc15 pm15 cd15 ct15 : Value}
    (a15 : PySem.W.nsIn K mainGlobals "_law_table" = some (some (.ref f15))) (l15 : K.lookup f15 = some ⟨oc15, od15, .func (PySem.W.fnOf "_law_table" "_law_table" (defArgs s__law_table) (defBody s__law_table) (defScope s__law_table) .none kV15 dc15 pm15 an15 cd15 ct15), sl15⟩) (c15 : PySem.W.codeIn K cd15 "_law_table" = true) (k15 : PySem.W.keepIn K (.ref f15) = true)
    {f16 : Addr} {od16 an16 : Option Addr} {sl16 : Array (Option Value)} {oc16 kV16 dc16 pm16 cd16 ct16 : Value}
    (a16 : PySem.W.nsIn K mainGlobals "_law_code_table" = some (some (.ref f16))) (l16 : K.lookup f16 = some ⟨oc16, od16, .func (PySem.W.fnOf "_law_code_table" "_law_code_table" (defArgs s__law_code_table) (defBody s__law_code_table) (defScope s__law_code_table) .none kV16 dc16 pm16 an16 cd16 ct16), sl16⟩) (c16 : PySem.W.codeIn K cd16 "_law_code_table" = true) (k16 : PySem.W.keepIn K (.ref f16) = true)
    {f17 : Addr} {od17 an17 : Option Addr} {sl17 : Array (Option Value)} {oc17 kV17 dc17 pm17 cd17 ct17 : Value}
    (a17 : PySem.W.nsIn K mainGlobals "_law_other_rows" = some (some (.ref f17))) (l17 : K.lookup f17 = some ⟨oc17, od17, .func (PySem.W.fnOf "_law_other_rows" "_law_other_rows" (defArgs s__law_other_rows) (defBody s__law_other_rows) (defScope s__law_other_rows) .none kV17 dc17 pm17 an17 cd17 ct17), sl17⟩) (c17 : PySem.W.codeIn K cd17 "_law_other_rows" = true) (k17 : PySem.W.keepIn K (.ref f17) = true)
    {f18 : Addr} {od18 an18 : Option Addr} {sl18 : Array (Option Value)} {oc18 kV18 dc18 pm18 cd18 ct18 : Value}
    (a18 : PySem.W.nsIn K mainGlobals "_law_weights" = some (some (.ref f18))) (l18 : K.lookup f18 = some ⟨oc18, od18, .func (PySem.W.fnOf "_law_weights" "_law_weights" (defArgs s__law_weights) (defBody s__law_weights) (defScope s__law_weights) .none kV18 dc18 pm18 an18 cd18 ct18), sl18⟩) (c18 : PySem.W.codeIn K cd18 "_law_weights" = true) (k18 : PySem.W.keepIn K (.ref f18) = true)
    {f19 : Addr} {od19 an19 : Option Addr} {sl19 : Array (Option Value)} {oc19 kV19 dc19 pm19 cd19 ct19 : Value}
    (a19 : PySem.W.nsIn K mainGlobals "law" = some (some (.ref f19))) (l19 : K.lookup f19 = some ⟨oc19, od19, .func (PySem.W.fnOf "law" "law" (defArgs s_law) (defBody s_law) (defScope s_law) .none kV19 dc19 pm19 an19 cd19 ct19), sl19⟩) (c19 : PySem.W.codeIn K cd19 "law" = true) (k19 : PySem.W.keepIn K (.ref f19) = true)
    (z_abs : PySem.W.nsIn K mainGlobals "abs" = some none)
    (z_enumerate : PySem.W.nsIn K mainGlobals "enumerate" = some none)
    (z_int : PySem.W.nsIn K mainGlobals "int" = some none)
    (z_len : PySem.W.nsIn K mainGlobals "len" = some none)
    (z_list : PySem.W.nsIn K mainGlobals "list" = some none)
    (z_max : PySem.W.nsIn K mainGlobals "max" = some none)
    (z_min : PySem.W.nsIn K mainGlobals "min" = some none)
    (z_range : PySem.W.nsIn K mainGlobals "range" = some none)
    (z_repr : PySem.W.nsIn K mainGlobals "repr" = some none)
    (z_sorted : PySem.W.nsIn K mainGlobals "sorted" = some none)
    (z_sum : PySem.W.nsIn K mainGlobals "sum" = some none)
    (z_tuple : PySem.W.nsIn K mainGlobals "tuple" = some none)
    (z_zip : PySem.W.nsIn K mainGlobals "zip" = some none)
    (y_comb : PySem.W.nsIn K mainGlobals "comb" = some (some (.builtin "math.comb")))
    : ∃ fd : FuncData, (∀ (s : Shared) (v : Value), BindsTo s fd ⟨[v], []⟩ [("script", v)]) ∧ ∀ base : Heap, K.In base → base.Ns mainGlobals mg → FnG l.prog w K mg base 6 fa fd ["script"] (spLaw K) := by
  have T : Tx K mg := ⟨PySem.W.mg_none_of X G z_abs, PySem.W.mg_none_of X G z_enumerate, PySem.W.mg_none_of X G z_int, PySem.W.mg_none_of X G z_len, PySem.W.mg_none_of X G z_list, PySem.W.mg_none_of X G z_max, PySem.W.mg_none_of X G z_min, PySem.W.mg_none_of X G z_range, PySem.W.mg_none_of X G z_repr, PySem.W.mg_none_of X G z_sorted, PySem.W.mg_none_of X G z_sum, PySem.W.mg_none_of X G z_tuple, PySem.W.mg_none_of X G z_zip, PySem.W.mg_of X G y_comb, ⟨_, _, PySem.W.mg_of X G a0, fun_mk l0 c0 k0⟩, ⟨_, _, PySem.W.mg_of X G a1, fun_mk l1 c1 k1⟩, ⟨_, _, PySem.W.mg_of X G a2, fun_mk l2 c2 k2⟩, ⟨_, _, PySem.W.mg_of X G a3, fun_mk l3 c3 k3⟩, ⟨_, _, PySem.W.mg_of X G a4, fun_mk l4 c4 k4⟩, ⟨_, _, PySem.W.mg_of X G a5, fun_mk l5 c5 k5⟩, ⟨_, _, PySem.W.mg_of X G a6, fun_mk l6 c6 k6⟩, ⟨_, _, PySem.W.mg_of X G a7, fun_mk l7 c7 k7⟩, ⟨_, _, PySem.W.mg_of X G a8, fun_mk l8 c8 k8⟩, ⟨_, _, PySem.W.mg_of X G a9, fun_mk l9 c9 k9⟩, ⟨_, _, PySem.W.mg_of X G a10, fun_mk l10 c10 k10⟩, ⟨_, _, PySem.W.mg_of X G a11, fun_mk l11 c11 k11⟩, ⟨_, _, PySem.W.mg_of X G a12, fun_mk l12 c12 k12⟩, ⟨_, _, PySem.W.mg_of X G a13, fun_mk l13 c13 k13⟩, ⟨_, _, PySem.W.mg_of X G a14, fun_mk l14 c14 k14⟩, ⟨_, _, PySem.W.mg_of X G a15, fun_mk l15 c15 k15⟩, ⟨_, _, PySem.W.mg_of X G a16, fun_mk l16 c16 k16⟩, ⟨_, _, PySem.W.mg_of X G a17, fun_mk l17 c17 k17⟩, ⟨_, _, PySem.W.mg_of X G a18, fun_mk l18 c18 k18⟩, ⟨_, _, PySem.W.mg_of X G a19, fun_mk l19 c19 k19⟩⟩
  have e := hfa.symm.trans (PySem.W.mg_of X G a19)
  cases e
  refine ⟨PySem.W.fnOf "law" "law" (defArgs s_law) (defBody s_law) (defScope s_law) .none kV19 dc19 pm19 an19 cd19 ct19, fun s v => .of_eq rfl, fun base _ _ => ?_⟩
  exact fn_law (P := l.prog) (w := w) (base := base) T (fun_mk l19 c19 k19)
end Z
open PySem PySem.W PyProof.Rows
set_option maxHeartbeats 0 in
theorem PySem.Challenge.cw_spancodes_k65_whole_weights_by_ranks_holds : PySem.Challenge.rw_spancodes_k65_whole_weights_by_ranks.Holds := by
  w_on; o_law; k_head; (case hw => w_witness2)
  k_fill
  refine Z.walkG (l := PySem.Challenge.rw_spancodes_k65_whole_weights_by_ranks) (n := 63) (k := 6) (x := "script") (sp := Z.spLaw) rfl (Z.lim_ok (by decide)) rfl ⟨rfl, by decide, by decide⟩ (fun w h Y => PySem.W.kIn_of Y) ?F (fun K H a ns hl _ hS => ⟨a, ns, rfl, hS, hl, fun _ => rfl⟩)
  case F =>
    intro w mg fa h KX G hmg
    refine' Z.all_mk KX G hmg ?a0 ?l0 ?c0 ?k0 ?a1 ?l1 ?c1 ?k1 ?a2 ?l2 ?c2 ?k2 ?a3 ?l3 ?c3 ?k3 ?a4 ?l4 ?c4 ?k4 ?a5 ?l5 ?c5 ?k5 ?a6 ?l6 ?c6 ?k6 ?a7 ?l7 ?c7 ?k7 ?a8 ?l8 ?c8 ?k8 ?a9 ?l9 ?c9 ?k9 ?a10 ?l10 ?c10 ?k10 ?a11 ?l11 ?c11 ?k11 ?a12 ?l12 ?c12 ?k12 ?a13 ?l13 ?c13 ?k13 ?a14 ?l14 ?c14 ?k14 ?a15 ?l15 ?c15 ?k15 ?a16 ?l16 ?c16 ?k16 ?a17 ?l17 ?c17 ?k17 ?a18 ?l18 ?c18 ?k18 ?a19 ?l19 ?c19 ?k19 ?z_abs ?z_enumerate ?z_int ?z_len ?z_list ?z_max ?z_min ?z_range ?z_repr ?z_sorted ?z_sum ?z_tuple ?z_zip ?y_comb
    (case a0 => k_is)
    (case l0 => k_is)
    (case c0 => k_is)
    (case k0 => k_is)
    (case a1 => k_is)
    (case l1 => k_is)
    (case c1 => k_is)
    (case k1 => k_is)
    (case a2 => k_is)
    (case l2 => k_is)
    (case c2 => k_is)
    (case k2 => k_is)
    (case a3 => k_is)
    (case l3 => k_is)
    (case c3 => k_is)
    (case k3 => k_is)
    (case a4 => k_is)
    (case l4 => k_is)
    (case c4 => k_is)
    (case k4 => k_is)
    (case a5 => k_is)
    (case l5 => k_is)
    (case c5 => k_is)
    (case k5 => k_is)
    (case a6 => k_is)
    (case l6 => k_is)
    (case c6 => k_is)
    (case k6 => k_is)
    (case a7 => k_is)
    (case l7 => k_is)
    (case c7 => k_is)
    (case k7 => k_is)
    (case a8 => k_is)
    (case l8 => k_is)
    (case c8 => k_is)
    (case k8 => k_is)
    (case a9 => k_is)
    (case l9 => k_is)
    (case c9 => k_is)
    (case k9 => k_is)
    (case a10 => k_is)
    (case l10 => k_is)
    (case c10 => k_is)
    (case k10 => k_is)
    (case a11 => k_is)
    (case l11 => k_is)
    (case c11 => k_is)
    (case k11 => k_is)
    (case a12 => k_is)
    (case l12 => k_is)
    (case c12 => k_is)
    (case k12 => k_is)
    (case a13 => k_is)
    (case l13 => k_is)
    (case c13 => k_is)
    (case k13 => k_is)
    (case a14 => k_is)
    (case l14 => k_is)
    (case c14 => k_is)
    (case k14 => k_is)
    (case a15 => k_is)
    (case l15 => k_is)
    (case c15 => k_is)
    (case k15 => k_is)
    (case a16 => k_is)
    (case l16 => k_is)
    (case c16 => k_is)
    (case k16 => k_is)
    (case a17 => k_is)
    (case l17 => k_is)
    (case c17 => k_is)
    (case k17 => k_is)
    (case a18 => k_is)
    (case l18 => k_is)
    (case c18 => k_is)
    (case k18 => k_is)
    (case a19 => k_is)
    (case l19 => k_is)
    (case c19 => k_is)
    (case k19 => k_is)
    (case z_abs => k_is)
    (case z_enumerate => k_is)
    (case z_int => k_is)
    (case z_len => k_is)
    (case z_list => k_is)
    (case z_max => k_is)
    (case z_min => k_is)
    (case z_range => k_is)
    (case z_repr => k_is)
    (case z_sorted => k_is)
    (case z_sum => k_is)
    (case z_tuple => k_is)
    (case z_zip => k_is)
    (case y_comb => k_is)
