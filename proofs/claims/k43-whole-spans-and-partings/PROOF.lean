import PyProof.Rows.All
import Wide.All
import OpenK.AllK
import Wide.FinOn
import HandS.ForMost
import HandS.Walk
import HandS.TupAny
import HandS.TupMul
import HandS.NoneIn
import HandS.Iter
import HandS.Ends
import HandS.Style
import HandS.Conv
import HandS.Deep
import HandS.SortKw
import HandS.Zip
import HandS.Star
import HandS.IsInst
import HandS.Dict
import HandS.Finally
import HandS.WideBits
import HandS.SetKeys
import HandS.Sort
import HandS.RepeatKit
import HandS.More
import HandS.Text
import HandS.TupSets
import KE.KeyNested
import KE.DataEq
import KE.DataCmp
import KE.GoesEnum
import KE.GoesMore
import KE.KIndexOf
import KE.SortData
import KE.GoesEnumKw
import KE.KTupSum
import KE.KDictKeyed
import KE.KDictSum
import KE.KDictCopyH
import KE.DataMinMax
import KE.KBits
import KE.KDictWalk
import PyProof.ReprRoads
import PyProof.ReprLen
import PyProof.Rows.RowBridgeK
import PyProof.Rows.SetFrom
import PySem.Challenge.RW_spancodes_k43_whole_spans_and_partings
set_option Elab.async false
set_option linter.all false
set_option maxRecDepth 100000
set_option maxHeartbeats 2000000
/-! Z0: data over the layer. A value stands for PyData with the addresses of its lists; an environment of such; readings of expressions and statements as predicates over environments of data. -/
namespace Z
open PySem L2
abbrev D := PyData
/-- the datum that stands for the law's source -/
def srcD : D := .dict [(.none, .none)]
def isSrc : List (D × D) → Bool
  | [(.none, .none)] => true
  | _ => false
/-- a list that never changes any more: its marked entries -/
def isFrz : List (D × D) → Bool
  | (.bool true, .none) :: _ => true
  | _ => false
def frzK (ds : List D) : List (D × D) := (.bool true, .none) :: ds.map fun d => (.bool true, d)
/-- the datum that stands for a list that never changes any more -/
def frzD (ds : List D) : D := .dict (frzK ds)
theorem frzK_is (ds : List D) : isSrc (frzK ds) = false ∧ isFrz (frzK ds) = true := ⟨by cases ds <;> rfl, rfl⟩
/-- a dict that never changes any more: a mark, then its keys and values -/
def isFrd : List (D × D) → Bool
  | (.bool false, .none) :: _ => true
  | _ => false
def frdK (kvs : List (D × D)) : List (D × D) := (.bool false, .none) :: kvs
def frdD (kvs : List (D × D)) : D := .dict (frdK kvs)
theorem frdK_is (kvs : List (D × D)) : isSrc (frdK kvs) = false ∧ isFrz (frdK kvs) = false ∧ isFrd (frdK kvs) = true := ⟨by cases kvs <;> rfl, rfl, rfl⟩
/-- the program's written part; the addresses of the source's dict and of its list of cells -/
structure Zc where
  K : PySem.W.Frag
  S : Option (Addr × Addr)
def Zc.has (c : Zc) (a : Addr) : Prop := ∃ p, c.S = some p ∧ (a = p.1 ∨ a = p.2)
/-- a key of a dict -/
def keyD : Key → D
  | .inl i => .int i
  | .inr x => .str x
/-! ### keys that are tuples -/
mutual
/-- what a key tells ==: whole numbers, None, tuples of such -/
def nkey : D → Option NestedKey
  | .none => some .none
  | .int i => some (.num i)
  | .tuple xs => (nkeys xs).map .tup
  | .bool _ => none
  | .str _ => none
  | .list _ => none
  | .dict _ => none
def nkeys : List D → Option (List NestedKey)
  | [] => some []
  | x :: xs => match nkey x, nkeys xs with
    | some k, some ks => some (k :: ks)
    | _, _ => none
end
mutual
/-- the hash of a key without texts -/
def hk : NestedKey → Int
  | .none => reduceHash 0xFCA86420
  | .num i => hashInt i
  | .text _ => 0
  | .tup ks => reduceHash (Builtin.Tuple.tupleHashOf (hks ks))
def hks : List NestedKey → List Int
  | [] => []
  | k :: ks => hk k :: hks ks
end
/-- a row of such a dict: the key, where its tuple stands, the value -/
abbrev Row := NestedKey × Addr × V
def RowIs (r : Row) (e : DictEntry) : Prop := e.hash = hk r.1 ∧ e.key = .ref r.2.1 ∧ RelV r.2.2 e.val
/-- a dict whose keys are tuples -/
def dX (a : Addr) (rows : List Row) : HO := .ext fun h => (a == sysModules) = false ∧ rows.length ≤ 10000000 ∧ ∃ o es ep, h.get? a = some o ∧ o.ExactDict ∧ o.data = .dict es ep ∧ Paired RowIs rows es.toList
/-- a dict's object, by its keys and values -/
def DictU (a : Addr) (ks : List D) (ys xs : List V) (u : HO) : Prop :=
  (∃ kk : List Key, ks = kk.map keyD ∧ kk.Nodup ∧ xs.length = kk.length ∧ u = .dK (kk.zip xs)) ∨
  ∃ rows : List Row, rows ≠ [] ∧ ks.map nkey = rows.map (fun r => some r.1) ∧ (∀ r ∈ rows, r.1.depth ≤ 8 ∧ ∃ l, r.1 = .tup l) ∧ ys = rows.map (fun r => .ref r.2.1) ∧ xs = rows.map (fun r => r.2.2) ∧ (rows.map (·.1)).Nodup ∧ u = dX a rows
theorem DictU.not_fix {a : Addr} {ks : List D} {ys xs : List V} {u : HO} (h : DictU a ks ys xs u) : Mut (some u) ∧ (∀ zs, u ≠ .tup zs) ∧ ∀ o z, u ≠ .frz o z := by
  rcases h with ⟨_, _, _, _, rfl⟩ | ⟨_, _, _, _, _, _, _, rfl⟩
  · exact ⟨trivial, fun _ => nofun, fun _ _ => nofun⟩
  · exact ⟨trivial, fun _ => nofun, fun _ _ => nofun⟩
/-- a tuple that has no dict of its own: it stands as a known object -/
def SqD (K : PySem.W.Frag) (H : Hp) (a : Addr) (xs : List V) : Prop :=
  (∃ o, H a = some (.frz o (.tup xs)) ∧ o.dict = none) ∨
    ∃ (o : Obj) (its : Array Value) (n : Nat), K.lookup a = some o ∧ o.cls = .type "tuple" ∧ o.dict = none ∧ o.data = .seq its n ∧ its.size ≤ sizeLine ∧ Vals xs its.toList
theorem SqD.t {K : PySem.W.Frag} {H : Hp} {a : Addr} {xs : List V} (h : SqD K H a xs) : SqT K H a xs := by
  rcases h with ⟨o, h, _⟩ | ⟨o, its, n, h1, h2, _, h4, h5, h6⟩
  · exact .inl (.inr ⟨o, h⟩)
  · exact .inr ⟨o, its, n, h1, h2, h4, h5, h6⟩
theorem SqD.new {K : PySem.W.Frag} {H : Hp} {a : Addr} {xs : List V} {o : Obj} (e : o.dict = none) : SqD K (upd H a (.frz o (.tup xs))) a xs := .inl ⟨o, upd_same, e⟩
/-! ### a value that stands for a datum; the addresses of its lists and dicts -/
mutual
def Rp (c : Zc) (H : Hp) : D → V → List Addr → Prop
  | .none, v, fp => v = .non ∧ fp = []
  | .bool b, v, fp => v = .bl b ∧ fp = []
  | .int i, v, fp => v = .int i ∧ fp = []
  | .str x, v, fp => v = .str x ∧ fp = []
  | .list ds, v, fp => ∃ a xs gp, v = .ref a ∧ fp = a :: gp ∧ H a = some (.lst xs) ∧ Rps c H ds xs gp
  | .tuple ds, v, fp => ∃ a xs, v = .ref a ∧ SqD c.K H a xs ∧ Rps c H ds xs fp
  | .dict kvs, v, fp => if isSrc kvs = true then ∃ p, c.S = some p ∧ v = .ref p.1 ∧ fp = []
      else if isFrz kvs = true then ∃ a y0 x0 ys xs, v = .ref a ∧ fp = [] ∧ (∃ o, H a = some (.frz o (.lst xs))) ∧ Rpk c H kvs (y0 :: ys) (x0 :: xs) []
      else if isFrd kvs = true then ∃ a y0 x0 ys xs, v = .ref a ∧ fp = [] ∧ (∃ o u, H a = some (.frz o u) ∧ DictU a (kvs.tail.map (·.1)) ys xs u) ∧ Rpk c H kvs (y0 :: ys) (x0 :: xs) []
      else ∃ a ys xs gp, v = .ref a ∧ fp = a :: gp ∧ Rpk c H kvs ys xs gp ∧ ∃ u, H a = some u ∧ DictU a (kvs.map (·.1)) ys xs u
def Rps (c : Zc) (H : Hp) : List D → List V → List Addr → Prop
  | [], xs, fp => xs = [] ∧ fp = []
  | d :: ds, xs, fp => ∃ x ys f1 f2, xs = x :: ys ∧ fp = f1 ++ f2 ∧ Rp c H d x f1 ∧ Rps c H ds ys f2
def Rpk (c : Zc) (H : Hp) : List (D × D) → List V → List V → List Addr → Prop
  | [], ys, xs, fp => ys = [] ∧ xs = [] ∧ fp = []
  | (k, d) :: r, ys, xs, fp => ∃ y ys' x xs' f1 f2, ys = y :: ys' ∧ xs = x :: xs' ∧ fp = f1 ++ f2 ∧ Rp c H k y [] ∧ Rp c H d x f1 ∧ Rpk c H r ys' xs' f2
end
mutual
/-- no list and no dict in it -/
def solid : D → Bool
  | .none | .bool _ | .int _ | .str _ => true
  | .list _ => false
  | .dict kvs => !isSrc kvs && (isFrz kvs || isFrd kvs)
  | .tuple xs => solids xs
def solids : List D → Bool
  | [] => true
  | x :: xs => solid x && solids xs
end
/-- what never changes -/
def Fix : HO → Prop
  | .tup _ => True
  | .frz _ _ => True
  | _ => False
def Tk (H H' : Hp) : Prop := ∀ a o, H a = some o → Fix o → H' a = some o
theorem Tk.sq {K : PySem.W.Frag} {H H' : Hp} {a : Addr} {xs : List V} (t : Tk H H') (h : SqT K H a xs) : SqT K H' a xs := by
  rcases h with (h | ⟨o, h⟩) | h
  · exact .inl (.inl (t _ _ h trivial))
  · exact .inl (.inr ⟨o, t _ _ h trivial⟩)
  · exact .inr h
theorem Tk.sqd {K : PySem.W.Frag} {H H' : Hp} {a : Addr} {xs : List V} (t : Tk H H') (h : SqD K H a xs) : SqD K H' a xs := by
  rcases h with ⟨o, h, e⟩ | h
  · exact .inl ⟨o, t _ _ h trivial, e⟩
  · exact .inr h
theorem Tk.refl (H : Hp) : Tk H H := fun _ _ h _ => h
theorem Tk.trans {H H1 H2 : Hp} (a : Tk H H1) (b : Tk H1 H2) : Tk H H2 := fun x o h f => b x o (a x o h f) f
section
variable {c : Zc} {H H' : Hp}
mutual
theorem Rp.mono (t : Tk H H') : ∀ (d : D) (v : V) (fp : List Addr), Rp c H d v fp → (∀ a ∈ fp, H' a = H a) → Rp c H' d v fp
  | .none, _, _, h, _ => by simp only [Rp] at h ⊢; exact h
  | .bool b, _, _, h, _ => by simp only [Rp] at h ⊢; exact h
  | .int i, _, _, h, _ => by simp only [Rp] at h ⊢; exact h
  | .str x, _, _, h, _ => by simp only [Rp] at h ⊢; exact h
  | .list ds, v, fp, h, k => by
    simp only [Rp] at h ⊢
    obtain ⟨a, xs, gp, rfl, rfl, h1, h2⟩ := h
    exact ⟨a, xs, gp, rfl, rfl, by rw [k a (List.mem_cons_self ..)]; exact h1, Rps.mono t ds xs gp h2 fun b hb => k b (List.mem_cons_of_mem _ hb)⟩
  | .tuple ds, v, fp, h, k => by
    simp only [Rp] at h ⊢
    obtain ⟨a, xs, rfl, h1, h2⟩ := h
    exact ⟨a, xs, rfl, t.sqd h1, Rps.mono t ds xs fp h2 k⟩
  | .dict kvs, v, fp, h, k => by
    simp only [Rp] at h ⊢
    split
    · rename_i hs
      rw [if_pos hs] at h
      exact h
    · rename_i hs
      rw [if_neg hs] at h
      split
      · rename_i hf
        rw [if_pos hf] at h
        obtain ⟨a, y0, x0, ys, xs, rfl, rfl, ⟨o, ho⟩, h1⟩ := h
        exact ⟨a, y0, x0, ys, xs, rfl, rfl, ⟨o, t a _ ho trivial⟩, Rpk.mono t kvs (y0 :: ys) (x0 :: xs) [] h1 k⟩
      rename_i hf
      rw [if_neg hf] at h
      split
      · rename_i hd
        rw [if_pos hd] at h
        obtain ⟨a, y0, x0, ys, xs, rfl, rfl, ⟨o, u, ho, hu⟩, h1⟩ := h
        exact ⟨a, y0, x0, ys, xs, rfl, rfl, ⟨o, u, t a _ ho trivial, hu⟩, Rpk.mono t kvs (y0 :: ys) (x0 :: xs) [] h1 k⟩
      rename_i hd
      rw [if_neg hd] at h
      obtain ⟨a, ys, xs, gp, rfl, rfl, h1, u, hu, hd⟩ := h
      exact ⟨a, ys, xs, gp, rfl, rfl, Rpk.mono t kvs ys xs gp h1 fun b hb => k b (List.mem_cons_of_mem _ hb), u, by rw [k a (List.mem_cons_self ..)]; exact hu, hd⟩
theorem Rps.mono (t : Tk H H') : ∀ (ds : List D) (xs : List V) (fp : List Addr), Rps c H ds xs fp → (∀ a ∈ fp, H' a = H a) → Rps c H' ds xs fp
  | [], _, _, h, _ => by simp only [Rps] at h ⊢; exact h
  | d :: ds, xs, fp, h, k => by
    simp only [Rps] at h ⊢
    obtain ⟨x, ys, f1, f2, rfl, rfl, h1, h2⟩ := h
    exact ⟨x, ys, f1, f2, rfl, rfl, Rp.mono t d x f1 h1 fun a ha => k a (List.mem_append_left _ ha), Rps.mono t ds ys f2 h2 fun a ha => k a (List.mem_append_right _ ha)⟩
theorem Rpk.mono (t : Tk H H') : ∀ (ds : List (D × D)) (ys xs : List V) (fp : List Addr), Rpk c H ds ys xs fp → (∀ a ∈ fp, H' a = H a) → Rpk c H' ds ys xs fp
  | [], _, _, _, h, _ => by simp only [Rpk] at h ⊢; exact h
  | (e, d) :: ds, ys, xs, fp, h, k => by
    simp only [Rpk] at h ⊢
    obtain ⟨y, ys', x, xs', f1, f2, rfl, rfl, rfl, h0, h1, h2⟩ := h
    exact ⟨y, ys', x, xs', f1, f2, rfl, rfl, rfl, Rp.mono t e y [] h0 (fun a ha => by cases ha), Rp.mono t d x f1 h1 fun a ha => k a (List.mem_append_left _ ha), Rpk.mono t ds ys' xs' f2 h2 fun a ha => k a (List.mem_append_right _ ha)⟩
end
mutual
theorem Rp.there : ∀ (d : D) (v : V) (fp : List Addr), Rp c H d v fp → ∀ a ∈ fp, ∃ o, H a = some o ∧ ¬ Fix o
  | .none, _, _, h => by simp only [Rp] at h; rw [h.2]; intro a ha; cases ha
  | .bool b, _, _, h => by simp only [Rp] at h; rw [h.2]; intro a ha; cases ha
  | .int i, _, _, h => by simp only [Rp] at h; rw [h.2]; intro a ha; cases ha
  | .str x, _, _, h => by simp only [Rp] at h; rw [h.2]; intro a ha; cases ha
  | .list ds, v, fp, h => by
    simp only [Rp] at h
    obtain ⟨a, xs, gp, rfl, rfl, h1, h2⟩ := h
    intro b hb
    rcases List.mem_cons.mp hb with rfl | hb
    · exact ⟨_, h1, id⟩
    · exact Rps.there ds xs gp h2 b hb
  | .tuple ds, v, fp, h => by
    simp only [Rp] at h
    obtain ⟨a, xs, rfl, h1, h2⟩ := h
    exact Rps.there ds xs fp h2
  | .dict kvs, v, fp, h => by
    simp only [Rp] at h
    split at h
    · obtain ⟨p, _, _, e⟩ := h
      rw [e]; intro a ha; cases ha
    split at h
    · obtain ⟨a, y0, x0, ys, xs, _, e, _⟩ := h
      rw [e]; intro a ha; cases ha
    split at h
    · obtain ⟨a, y0, x0, ys, xs, _, e, _⟩ := h
      rw [e]; intro a ha; cases ha
    · obtain ⟨a, ys, xs, gp, rfl, rfl, h1, u, e4, hu⟩ := h
      intro b hb
      rcases List.mem_cons.mp hb with rfl | hb
      · obtain ⟨_, n1, n2⟩ := hu.not_fix
        refine ⟨_, e4, fun hz => ?_⟩
        cases u with
        | tup zs => exact n1 zs rfl
        | frz o z => exact n2 o z rfl
        | _ => exact hz
      · exact Rpk.there kvs ys xs gp h1 b hb
theorem Rps.there : ∀ (ds : List D) (xs : List V) (fp : List Addr), Rps c H ds xs fp → ∀ a ∈ fp, ∃ o, H a = some o ∧ ¬ Fix o
  | [], _, _, h => by simp only [Rps] at h; rw [h.2]; intro a ha; cases ha
  | d :: ds, xs, fp, h => by
    simp only [Rps] at h
    obtain ⟨x, ys, f1, f2, rfl, rfl, h1, h2⟩ := h
    intro a ha
    rcases List.mem_append.mp ha with ha | ha
    · exact Rp.there d x f1 h1 a ha
    · exact Rps.there ds ys f2 h2 a ha
theorem Rpk.there : ∀ (ds : List (D × D)) (ys xs : List V) (fp : List Addr), Rpk c H ds ys xs fp → ∀ a ∈ fp, ∃ o, H a = some o ∧ ¬ Fix o
  | [], _, _, _, h => by simp only [Rpk] at h; rw [h.2.2]; intro a ha; cases ha
  | (_, d) :: ds, ys, xs, fp, h => by
    simp only [Rpk] at h
    obtain ⟨y, ys', x, xs', f1, f2, rfl, rfl, rfl, h0, h1, h2⟩ := h
    intro a ha
    rcases List.mem_append.mp ha with ha | ha
    · exact Rp.there d x f1 h1 a ha
    · exact Rpk.there ds ys' xs' f2 h2 a ha
end
mutual
theorem Rp.solid : ∀ (d : D) (v : V) (fp : List Addr), Rp c H d v fp → solid d = true → fp = []
  | .none, _, _, h, _ => by simp only [Rp] at h; exact h.2
  | .bool b, _, _, h, _ => by simp only [Rp] at h; exact h.2
  | .int i, _, _, h, _ => by simp only [Rp] at h; exact h.2
  | .str x, _, _, h, _ => by simp only [Rp] at h; exact h.2
  | .list ds, v, fp, h, s => by simp [Z.solid] at s
  | .tuple ds, v, fp, h, s => by
    simp only [Rp] at h
    simp only [Z.solid] at s
    obtain ⟨a, xs, rfl, h1, h2⟩ := h
    exact Rps.solid ds xs fp h2 s
  | .dict kvs, v, fp, h, s => by
    simp only [Z.solid, Bool.and_eq_true, Bool.not_eq_true', Bool.or_eq_true] at s
    simp only [Rp] at h
    rw [if_neg (by rw [s.1]; simp)] at h
    split at h
    · obtain ⟨a, y0, x0, ys, xs, _, e, _⟩ := h
      exact e
    · rename_i hf
      rw [if_pos (s.2.resolve_left hf)] at h
      obtain ⟨a, y0, x0, ys, xs, _, e, _⟩ := h
      exact e
theorem Rps.solid : ∀ (ds : List D) (xs : List V) (fp : List Addr), Rps c H ds xs fp → solids ds = true → fp = []
  | [], _, _, h, _ => by simp only [Rps] at h; exact h.2
  | d :: ds, xs, fp, h, s => by
    simp only [Rps] at h
    simp only [Z.solids, Bool.and_eq_true] at s
    obtain ⟨x, ys, f1, f2, rfl, rfl, h1, h2⟩ := h
    rw [Rp.solid d x f1 h1 s.1, Rps.solid ds ys f2 h2 s.2]
    rfl
end
theorem Rps.len : ∀ {ds : List D} {xs : List V} {fp : List Addr}, Rps c H ds xs fp → xs.length = ds.length
  | [], _, _, h => by simp only [Rps] at h; rw [h.1]; rfl
  | d :: ds, xs, fp, h => by
    simp only [Rps] at h
    obtain ⟨x, ys, f1, f2, rfl, rfl, h1, h2⟩ := h
    rw [List.length_cons, List.length_cons, Rps.len h2]
/-- the i-th one -/
theorem Rps.at : ∀ {ds : List D} {xs : List V} {fp : List Addr} {i : Nat} {d : D}, Rps c H ds xs fp → ds[i]? = some d → ∃ x gp, xs[i]? = some x ∧ Rp c H d x gp ∧ (∀ a ∈ gp, a ∈ fp) ∧ (fp.Nodup → gp.Nodup)
  | [], _, _, _, _, _, e => by simp at e
  | d :: ds, xs, fp, 0, d', h, e => by
    simp only [Rps] at h
    obtain ⟨x, ys, f1, f2, rfl, rfl, h1, h2⟩ := h
    simp only [List.getElem?_cons_zero, Option.some.injEq] at e
    subst e
    exact ⟨x, f1, rfl, h1, fun a ha => List.mem_append_left _ ha, fun n => (List.nodup_append.mp n).1⟩
  | d :: ds, xs, fp, i + 1, d', h, e => by
    simp only [Rps] at h
    obtain ⟨x, ys, f1, f2, rfl, rfl, h1, h2⟩ := h
    obtain ⟨y, gp, e1, e2, e3, e4⟩ := Rps.at (i := i) h2 (by simpa using e)
    exact ⟨y, gp, by simpa using e1, e2, fun a ha => List.mem_append_right _ (e3 a ha), fun n => e4 (List.nodup_append.mp n).2.1⟩
theorem Rps.app : ∀ {ds es : List D} {xs ys : List V} {fp gp : List Addr}, Rps c H ds xs fp → Rps c H es ys gp → Rps c H (ds ++ es) (xs ++ ys) (fp ++ gp)
  | [], es, xs, ys, fp, gp, h, k => by
    simp only [Rps] at h
    rw [h.1, h.2]
    exact k
  | d :: ds, es, xs, ys, fp, gp, h, k => by
    simp only [Rps] at h
    obtain ⟨x, zs, f1, f2, rfl, rfl, h1, h2⟩ := h
    simp only [List.cons_append, List.append_assoc]
    simp only [Rps]
    exact ⟨x, zs ++ ys, f1, f2 ++ gp, rfl, rfl, h1, Rps.app h2 k⟩
theorem Rps.nil : Rps c H [] [] [] := by simp [Rps]
theorem rpk_frz {k : D} : ∀ {ds : List D} {ys xs : List V} {fp : List Addr}, Rpk c H (ds.map fun d => (k, d)) ys xs fp → Rps c H ds xs fp
  | [], ys, xs, fp, h => by
    simp only [List.map_nil, Rpk] at h
    simp only [Rps]
    exact h.2
  | d :: ds, ys, xs, fp, h => by
    simp only [List.map_cons, Rps, Rpk] at h ⊢
    obtain ⟨y, ys', x, xs', f1, f2, rfl, rfl, rfl, h0, h1, h2⟩ := h
    exact ⟨x, xs', f1, f2, rfl, rfl, h1, rpk_frz h2⟩
theorem frz_rpk {k : D} {y : V} (hk : Rp c H k y []) : ∀ {ds : List D} {xs : List V} {fp : List Addr}, Rps c H ds xs fp → Rpk c H (ds.map fun d => (k, d)) (ds.map fun _ => y) xs fp
  | [], xs, fp, h => by
    simp only [Rps] at h
    simp only [List.map_nil, Rpk]
    exact ⟨trivial, h⟩
  | d :: ds, xs, fp, h => by
    simp only [List.map_cons, Rps, Rpk] at h ⊢
    obtain ⟨x, xs', f1, f2, rfl, rfl, h1, h2⟩ := h
    exact ⟨y, _, x, xs', f1, f2, rfl, rfl, rfl, hk, h1, frz_rpk hk h2⟩
theorem rp_frz {ds : List D} {v : V} {fp : List Addr} : Rp c H (frzD ds) v fp ↔ ∃ a xs, v = .ref a ∧ fp = [] ∧ (∃ o, H a = some (.frz o (.lst xs))) ∧ Rps c H ds xs [] := by
  unfold frzD
  simp only [Rp]
  rw [if_neg (by rw [(frzK_is ds).1]; simp), if_pos (frzK_is ds).2]
  constructor
  · rintro ⟨a, y0, x0, ys, xs, rfl, rfl, ho, h⟩
    simp only [frzK, Rpk, Rp] at h
    obtain ⟨y, ys', x, xs', f1, f2, e0, e1, e2, h0, ⟨rfl, rfl⟩, h2⟩ := h
    obtain ⟨rfl, rfl⟩ := List.cons.inj e1
    obtain rfl : f2 = [] := by simpa using e2.symm
    exact ⟨a, _, rfl, rfl, ho, rpk_frz h2⟩
  · rintro ⟨a, xs, rfl, rfl, ho, h⟩
    refine ⟨a, .bl true, .non, ds.map fun _ => .bl true, xs, rfl, rfl, ho, ?_⟩
    simp only [frzK, Rpk]
    exact ⟨_, _, _, _, [], [], rfl, rfl, rfl, by simp [Rp], by simp [Rp], frz_rpk (by simp [Rp]) h⟩
/-- a dict that never changes any more -/
theorem rp_frd {kvs : List (D × D)} {v : V} {fp : List Addr} : Rp c H (frdD kvs) v fp ↔ ∃ a ys xs, v = .ref a ∧ fp = [] ∧ (∃ o u, H a = some (.frz o u) ∧ DictU a (kvs.map (·.1)) ys xs u) ∧ Rpk c H kvs ys xs [] := by
  unfold frdD
  simp only [Rp]
  rw [if_neg (by rw [(frdK_is kvs).1]; simp), if_neg (by rw [(frdK_is kvs).2.1]; simp), if_pos (frdK_is kvs).2.2]
  constructor
  · rintro ⟨a, y0, x0, ys, xs, rfl, rfl, ho, h⟩
    simp only [frdK, Rpk, Rp] at h
    obtain ⟨y, ys', x, xs', f1, f2, e0, e1, e2, h0, ⟨rfl, rfl⟩, h2⟩ := h
    obtain ⟨rfl, rfl⟩ := List.cons.inj e1
    obtain ⟨rfl, rfl⟩ := List.cons.inj e0
    obtain rfl : f2 = [] := by simpa using e2.symm
    exact ⟨a, _, _, rfl, rfl, ho, h2⟩
  · rintro ⟨a, ys, xs, rfl, rfl, ho, h⟩
    refine ⟨a, .bl false, .non, ys, xs, rfl, rfl, ho, ?_⟩
    simp only [frdK, Rpk]
    exact ⟨_, _, _, _, [], [], rfl, rfl, rfl, by simp [Rp], by simp [Rp], h⟩
theorem solid_frd (kvs : List (D × D)) : Z.solid (frdD kvs) = true := by
  unfold frdD
  simp only [Z.solid, (frdK_is kvs).1, (frdK_is kvs).2.2]
  simp
theorem solid_frz (ds : List D) : Z.solid (frzD ds) = true := by
  unfold frzD
  simp only [Z.solid, (frzK_is ds).1, (frzK_is ds).2]
  simp
theorem Rps.cons {d : D} {ds : List D} {x : V} {xs : List V} {fp gp : List Addr} (h : Rp c H d x fp) (k : Rps c H ds xs gp) : Rps c H (d :: ds) (x :: xs) (fp ++ gp) := by
  simp only [Rps]; exact ⟨x, xs, fp, gp, rfl, rfl, h, k⟩
theorem Rps.one {d : D} {x : V} {fp : List Addr} (h : Rp c H d x fp) : Rps c H [d] [x] fp := by
  have := Rps.cons h (Rps.nil (c := c) (H := H))
  rwa [List.append_nil] at this
end
/-! ### the source -/
/-- the source's own objects -/
def SrcAt (c : Zc) (H : Hp) : Prop := ∀ p, c.S = some p → p.1 ≠ p.2 ∧ ∃ (ns : List Int) (l m t : Int), ns.length ≤ 63 ∧ (∀ n ∈ ns, 0 ≤ n) ∧ 0 ≤ l ∧ 0 ≤ m ∧ m < 2147483648 ∧ 0 ≤ t ∧
  H p.1 = some (.dK [(Sum.inr "cells", .ref p.2), (Sum.inr "left", .int l), (Sum.inr "mixed", .int m), (Sum.inr "turn", .int t)]) ∧ H p.2 = some (.lst (ns.map V.int))
/-- all that was tracked is as it was, but the source -/
def Ext (c : Zc) (H H' : Hp) : Prop := ∀ a o, H a = some o → ¬ c.has a → H' a = some o
theorem Ext.refl (c : Zc) (H : Hp) : Ext c H H := fun _ _ h _ => h
theorem Ext.trans {c : Zc} {H H1 H2 : Hp} (a : Ext c H H1) (b : Ext c H1 H2) : Ext c H H2 := fun x o h n => b x o (a x o h n) n
theorem Ext.new {c : Zc} {H : Hp} {p : Addr} {o : HO} (h : H p = none) : Ext c H (upd H p o) := fun a u e _ => by
  rw [upd_ne (ne_of_none e h)]
  exact e
theorem Ext.free {c : Zc} {H H' : Hp} (e : Ext c H H') {p : Addr} (h : H' p = none) (n : ¬ c.has p) : H p = none := by
  cases q : H p with
  | none => rfl
  | some o =>
    rw [e p o q n] at h
    cases h
theorem SrcAt.not_fix {c : Zc} {H : Hp} (s : SrcAt c H) {a : Addr} {o : HO} (h : H a = some o) (f : Fix o) : ¬ c.has a := by
  rintro ⟨p, hp, e⟩
  obtain ⟨_, ns, l, m, t, _, _, _, _, _, _, h1, h2⟩ := s p hp
  rcases e with rfl | rfl
  · rw [h1] at h; cases h; exact f
  · rw [h2] at h; cases h; exact f
theorem Ext.tk {c : Zc} {H H' : Hp} (e : Ext c H H') (s : SrcAt c H) : Tk H H' := fun a o h f => e a o h (s.not_fix h f)
theorem SrcAt.there {c : Zc} {H : Hp} (s : SrcAt c H) {a : Addr} (h : c.has a) : ∃ o, H a = some o := by
  obtain ⟨p, hp, e⟩ := h
  obtain ⟨_, ns, l, m, t, _, _, _, _, _, _, h1, h2⟩ := s p hp
  rcases e with rfl | rfl
  · exact ⟨_, h1⟩
  · exact ⟨_, h2⟩
theorem SrcAt.fresh {c : Zc} {H : Hp} (s : SrcAt c H) {a : Addr} (h : H a = none) : ¬ c.has a := fun k => by
  obtain ⟨o, e⟩ := s.there k
  rw [h] at e; cases e
theorem SrcAt.new {c : Zc} {H : Hp} (s : SrcAt c H) {a : Addr} {o : HO} (h : H a = none) : SrcAt c (upd H a o) := fun p hp => by
  obtain ⟨n, ns, l, m, t, a1, a2, a3, a4, a5, a6, h1, h2⟩ := s p hp
  exact ⟨n, ns, l, m, t, a1, a2, a3, a4, a5, a6, by rw [upd_ne (ne_of_none h1 h)]; exact h1, by rw [upd_ne (ne_of_none h2 h)]; exact h2⟩
/-- an own list or dict is changed -/
theorem SrcAt.own {c : Zc} {H : Hp} (s : SrcAt c H) {a : Addr} {o : HO} (h : ¬ c.has a) : SrcAt c (upd H a o) := fun p hp => by
  obtain ⟨n, ns, l, m, t, a1, a2, a3, a4, a5, a6, h1, h2⟩ := s p hp
  exact ⟨n, ns, l, m, t, a1, a2, a3, a4, a5, a6, by rw [upd_ne (fun z => h ⟨p, hp, .inl z.symm⟩)]; exact h1, by rw [upd_ne (fun z => h ⟨p, hp, .inr z.symm⟩)]; exact h2⟩
/-- no address of the source's -/
def NoS (c : Zc) (fp : List Addr) : Prop := ∀ a ∈ fp, ¬ c.has a
theorem Rp.ext {c : Zc} {H H' : Hp} {d : D} {v : V} {fp : List Addr} (h : Rp c H d v fp) (n : NoS c fp) (e : Ext c H H') (s : SrcAt c H) : Rp c H' d v fp :=
  h.mono (e.tk s) _ _ _ fun a ha => by
    obtain ⟨o, ho, _⟩ := h.there _ _ _ a ha
    rw [ho]
    exact e a o ho (n a ha)
theorem Rps.ext {c : Zc} {H H' : Hp} {d : List D} {v : List V} {fp : List Addr} (h : Rps c H d v fp) (n : NoS c fp) (e : Ext c H H') (s : SrcAt c H) : Rps c H' d v fp :=
  h.mono (e.tk s) _ _ _ fun a ha => by
    obtain ⟨o, ho, _⟩ := h.there _ _ _ a ha
    rw [ho]
    exact e a o ho (n a ha)
/-! ### environments -/
inductive Sl where
  | unk | val (d : D) | own (d : D)
abbrev En := List Sl
def SlotOk (c : Zc) (G H : Hp) : Sl → Option (Option V) → List Addr → Prop
  | .unk, _, fp => fp = []
  | .val d, o, fp => ∃ v, o = some (some v) ∧ Rp c H d v fp ∧ NoS c fp
  | .own d, o, fp => ∃ v, o = some (some v) ∧ Rp c H d v fp ∧ NoS c fp ∧ fp.Nodup ∧ ∀ a ∈ fp, G a = none
def isOwn : Option Sl → Prop
  | some (.own _) => True
  | _ => False
structure EnvAt (c : Zc) (G H : Hp) (ρ : En) (σ : L2.St) (fps : Nat → List Addr) : Prop where
  len : σ.length = ρ.length
  ext : Ext c G H
  src : SrcAt c H
  ok : ∀ i s, ρ[i]? = some s → SlotOk c G H s σ[i]? (fps i)
  sep : ∀ i j, i ≠ j → i < ρ.length → j < ρ.length → isOwn ρ[i]? → ∀ a ∈ fps i, a ∉ fps j
theorem SlotOk.there {c : Zc} {G H : Hp} {s : Sl} {o : Option (Option V)} {fp : List Addr} (h : SlotOk c G H s o fp) : ∀ a ∈ fp, ∃ u, H a = some u ∧ ¬ Fix u := by
  cases s with
  | unk =>
    have e : fp = [] := h
    rw [e]; intro a ha; cases ha
  | val d => obtain ⟨v, _, h1, _⟩ := h; exact h1.there
  | own d => obtain ⟨v, _, h1, _⟩ := h; exact h1.there
theorem SlotOk.noS {c : Zc} {G H : Hp} {s : Sl} {o : Option (Option V)} {fp : List Addr} (h : SlotOk c G H s o fp) : NoS c fp := by
  cases s with
  | unk =>
    have e : fp = [] := h
    rw [e]; intro a ha; cases ha
  | val d => obtain ⟨v, _, _, h1⟩ := h; exact h1
  | own d => obtain ⟨v, _, _, h1, _⟩ := h; exact h1
theorem SlotOk.ext {c : Zc} {G H H' : Hp} {s : Sl} {o : Option (Option V)} {fp : List Addr} (h : SlotOk c G H s o fp) (e : Ext c H H') (sr : SrcAt c H) : SlotOk c G H' s o fp := by
  cases s with
  | unk => exact h
  | val d => obtain ⟨v, h0, h1, h2⟩ := h; exact ⟨v, h0, h1.ext h2 e sr, h2⟩
  | own d => obtain ⟨v, h0, h1, h2, h3⟩ := h; exact ⟨v, h0, h1.ext h2 e sr, h2, h3⟩
theorem EnvAt.step {c : Zc} {G H H' : Hp} {ρ : En} {σ : St} {fps : Nat → List Addr} (E : EnvAt c G H ρ σ fps) (e : Ext c H H') (s : SrcAt c H') : EnvAt c G H' ρ σ fps :=
  ⟨E.len, E.ext.trans e, s, fun i sl h => (E.ok i sl h).ext e E.src, E.sep⟩
theorem EnvAt.thereAt {c : Zc} {G H : Hp} {ρ : En} {σ : St} {fps : Nat → List Addr} (E : EnvAt c G H ρ σ fps) {i : Nat} (hi : i < ρ.length) : ∀ a ∈ fps i, ∃ u, H a = some u ∧ ¬ Fix u :=
  (E.ok i ρ[i] (List.getElem?_eq_getElem hi)).there
theorem EnvAt.noS {c : Zc} {G H : Hp} {ρ : En} {σ : St} {fps : Nat → List Addr} (E : EnvAt c G H ρ σ fps) {i : Nat} (hi : i < ρ.length) : NoS c (fps i) :=
  (E.ok i ρ[i] (List.getElem?_eq_getElem hi)).noS
/-! ### judgements -/
/-- the addresses come out of new objects, or out of the slots U -/
def From (H : Hp) (fps : Nat → List Addr) (n : Nat) (U : List Nat) (fp : List Addr) : Prop := (∀ a ∈ fp, H a = none ∨ ∃ u ∈ U, u < n ∧ a ∈ fps u) ∧ (U = [] → fp.Nodup)
abbrev DM := En → (D → Prop) → Prop
/-- the reading te gives a datum as m says -/
def DE (K : PySem.W.Frag) (S : Option (Addr × Addr)) (te : TE) (m : DM) (U : List Nat) : Prop :=
  ∀ (G H : Hp) (ρ : En) (σ : L2.St) (fps : Nat → List Addr), EnvAt ⟨K, S⟩ G H ρ σ fps → ∀ R : D → Prop, m ρ R → ∀ Q : VK,
    (∀ d v H' fp, R d → Ext ⟨K, S⟩ H H' → SrcAt ⟨K, S⟩ H' → Rp ⟨K, S⟩ H' d v fp → NoS ⟨K, S⟩ fp → From H fps ρ.length U fp → Q v H') → te σ H Q
abbrev DMs := En → (List D → Prop) → Prop
def DA (K : PySem.W.Frag) (S : Option (Addr × Addr)) (ta : TA) (m : DMs) (U : List Nat) : Prop :=
  ∀ (G H : Hp) (ρ : En) (σ : L2.St) (fps : Nat → List Addr), EnvAt ⟨K, S⟩ G H ρ σ fps → ∀ R : List D → Prop, m ρ R → ∀ Q : List V → Hp → Prop,
    (∀ ds vs H' fp, R ds → Ext ⟨K, S⟩ H H' → SrcAt ⟨K, S⟩ H' → Rps ⟨K, S⟩ H' ds vs fp → NoS ⟨K, S⟩ fp → From H fps ρ.length U fp → Q vs H') → ta σ H Q
abbrev DMt := En → (Bool → Prop) → Prop
def DT (K : PySem.W.Frag) (S : Option (Addr × Addr)) (tt : TT) (m : DMt) : Prop :=
  ∀ (G H : Hp) (ρ : En) (σ : L2.St) (fps : Nat → List Addr), EnvAt ⟨K, S⟩ G H ρ σ fps → ∀ R : Bool → Prop, m ρ R → ∀ Q : Bool → Hp → Prop,
    (∀ b H', R b → Ext ⟨K, S⟩ H H' → SrcAt ⟨K, S⟩ H' → Q b H') → tt σ H Q
structure DEnds where
  nx : En → Prop
  rt : D → Prop
  bk : En → Prop := fun _ => False
  ct : En → Prop := fun _ => False
/-- all slots but those of W as they were -/
structure Off (W : List Nat) (σ σ' : L2.St) : Prop where
  len : σ'.length = σ.length
  off : ∀ j, j ∉ W → σ'[j]? = σ[j]?
structure EndsOk (K : PySem.W.Frag) (S : Option (Addr × Addr)) (G : Hp) (W : List Nat) (σ : L2.St) (R : DEnds) (D : Ends) : Prop where
  nx : ∀ ρ' σ' H' fps', R.nx ρ' → EnvAt ⟨K, S⟩ G H' ρ' σ' fps' → Off W σ σ' → D.nx σ' H'
  bk : ∀ ρ' σ' H' fps', R.bk ρ' → EnvAt ⟨K, S⟩ G H' ρ' σ' fps' → Off W σ σ' → D.bk σ' H'
  ct : ∀ ρ' σ' H' fps', R.ct ρ' → EnvAt ⟨K, S⟩ G H' ρ' σ' fps' → Off W σ σ' → D.ct σ' H'
  rt : ∀ d v H' fp, R.rt d → Ext ⟨K, S⟩ G H' → SrcAt ⟨K, S⟩ H' → Rp ⟨K, S⟩ H' d v fp → NoS ⟨K, S⟩ fp → fp.Nodup → (∀ a ∈ fp, G a = none) → D.rt v H'
abbrev DMS := En → DEnds → Prop
/-- the statement's reading, as m says; W: the slots that it stores or whose objects it changes -/
def DS (K : PySem.W.Frag) (S : Option (Addr × Addr)) (ts : TS) (m : DMS) (W : List Nat) : Prop :=
  ∀ (G H : Hp) (ρ : En) (σ : L2.St) (fps : Nat → List Addr), EnvAt ⟨K, S⟩ G H ρ σ fps → ∀ R : DEnds, m ρ R → ∀ D : Ends, EndsOk K S G W σ R D → ts D σ H
end Z
set_option Elab.async false
set_option linter.all false
set_option maxRecDepth 100000
set_option maxHeartbeats 2000000
/-! Z1: expressions, arguments, tests. -/
namespace Z
open PySem L2
section
variable {K : PySem.W.Frag} {S : Option (Addr × Addr)} {fps : Nat → List Addr} {n : Nat}
/-! ### where addresses come from -/
theorem From.nil {H : Hp} {U : List Nat} : From H fps n U [] := ⟨fun a h => (by cases h), fun _ => List.nodup_nil⟩
theorem From.fresh {H : Hp} {U : List Nat} {fp : List Addr} (h : ∀ a ∈ fp, H a = none) (d : fp.Nodup) : From H fps n U fp := ⟨fun a ha => .inl (h a ha), fun _ => d⟩
theorem From.new {H : Hp} {U : List Nat} {a : Addr} (h : H a = none) : From H fps n U [a] := .fresh (fun b hb => by rw [List.mem_singleton.mp hb]; exact h) (List.pairwise_singleton _ _)
theorem From.back {c : Zc} {H H1 : Hp} {U : List Nat} {fp : List Addr} (f : From H1 fps n U fp) (e : Ext c H H1) (ns : NoS c fp) : From H fps n U fp :=
  ⟨fun a ha => (f.1 a ha).imp (fun z => e.free z (ns a ha)) id, f.2⟩
theorem From.sub {H : Hp} {U V : List Nat} {fp : List Addr} (f : From H fps n U fp) (h : ∀ u ∈ U, u ∈ V) (hne : V = [] → U = []) : From H fps n V fp :=
  ⟨fun a ha => (f.1 a ha).imp id fun ⟨u, hu, e⟩ => ⟨u, h u hu, e⟩, fun z => f.2 (hne z)⟩
theorem From.part {H : Hp} {U : List Nat} {fp gp : List Addr} (f : From H fps n U fp) (h : ∀ a ∈ gp, a ∈ fp) (hn : fp.Nodup → gp.Nodup) : From H fps n U gp :=
  ⟨fun a ha => f.1 a (h a ha), fun z => hn (f.2 z)⟩
theorem From.off {H : Hp} {fp : List Addr} (f : From H fps n [] fp) : ∀ a ∈ fp, H a = none := fun a ha => by
  rcases f.1 a ha with z | ⟨u, hu, _⟩
  · exact z
  · cases hu
/-- one after the other -/
theorem From.app {c : Zc} {H H1 : Hp} {U V : List Nat} {fp gp : List Addr} (f : From H fps n U fp) (g : From H1 fps n V gp) (e : Ext c H H1) (ns : NoS c gp) (th : ∀ a ∈ fp, ∃ o, H1 a = some o) : From H fps n (U ++ V) (fp ++ gp) := by
  have g' := g.back e ns
  refine ⟨fun a ha => ?_, fun z => ?_⟩
  · rcases List.mem_append.mp ha with ha | ha
    · exact (f.1 a ha).imp id fun ⟨u, hu, q⟩ => ⟨u, List.mem_append_left _ hu, q⟩
    · exact (g'.1 a ha).imp id fun ⟨u, hu, q⟩ => ⟨u, List.mem_append_right _ hu, q⟩
  · obtain ⟨z1, z2⟩ := List.append_eq_nil_iff.mp z
    subst z1 z2
    refine List.nodup_append.mpr ⟨f.2 rfl, g.2 rfl, fun a ha b hb q => ?_⟩
    subst q
    obtain ⟨o, ho⟩ := th a ha
    rw [g.off a hb] at ho
    cases ho
theorem NoS.app {c : Zc} {fp gp : List Addr} (h : NoS c fp) (k : NoS c gp) : NoS c (fp ++ gp) := fun a ha => (List.mem_append.mp ha).elim (h a) (k a)
theorem NoS.nil {c : Zc} : NoS c [] := fun a h => by cases h
/-! ### names, constants -/
def look (s : Option Sl) (R : D → Prop) : Prop := match s with
  | some (.val d) => R d
  | some (.own d) => R d
  | _ => False
def dVar (i : Nat) : DM := fun ρ R => look ρ[i]? R
theorem de_var (i : Nat) : DE K S (tVar i) (dVar i) [i] := fun G H ρ σ fps E R hm Q q => by
  unfold dVar look at hm
  have key : ∀ d sl, ρ[i]? = some sl → (sl = .val d ∨ sl = .own d) → R d → tVar i σ H Q := fun d sl e hs hR => by
    have hi : i < ρ.length := (List.getElem?_eq_some_iff.mp e).1
    have ok := E.ok i sl e
    have th := E.thereAt hi
    rcases hs with rfl | rfl
    · obtain ⟨v, e1, h1, h2⟩ := ok
      exact ⟨v, e1, q d v H _ hR (Ext.refl _ _) E.src h1 h2 ⟨fun a ha => .inr ⟨i, List.mem_singleton.mpr rfl, hi, ha⟩, fun z => by cases z⟩⟩
    · obtain ⟨v, e1, h1, h2, _⟩ := ok
      exact ⟨v, e1, q d v H _ hR (Ext.refl _ _) E.src h1 h2 ⟨fun a ha => .inr ⟨i, List.mem_singleton.mpr rfl, hi, ha⟩, fun z => by cases z⟩⟩
  split at hm
  · rename_i d e; exact key d _ e (.inl rfl) hm
  · rename_i d e; exact key d _ e (.inr rfl) hm
  · exact hm.elim
def dC (d : D) : DM := fun _ R => R d
theorem de_c {d : D} {v : V} (h : ∀ H : Hp, Rp ⟨K, S⟩ H d v []) : DE K S (tC v) (dC d) [] := fun G H ρ σ fps E R hm Q q => q d v H [] hm (Ext.refl _ _) E.src (h H) .nil .nil
theorem de_int {i : Int} : DE K S (tC (.int i)) (dC (.int i)) [] := de_c fun H => by simp [Rp]
theorem de_bl {b : Bool} : DE K S (tC (.bl b)) (dC (.bool b)) [] := de_c fun H => by simp [Rp]
theorem de_non : DE K S (tC .non) (dC .none) [] := de_c fun H => by simp [Rp]
/-- nothing in it can change -/
def dSolid (m : DM) : DM := fun ρ R => m ρ fun d => solid d = true ∧ R d
theorem de_solid {te : TE} {m : DM} {U : List Nat} (h : DE K S te m U) : DE K S te (dSolid m) [] := fun G H ρ σ fps E R hm Q q =>
  h G H ρ σ fps E _ hm Q fun d v H' fp hR e s r ns f => by
    have z := r.solid _ _ _ hR.1
    subst z
    exact q d v H' [] hR.2 e s r ns .nil
theorem DE.up {te : TE} {m : DM} {U V : List Nat} (h : DE K S te m U) (hs : ∀ u ∈ U, u ∈ V) (hne : V = [] → U = []) : DE K S te m V := fun G H ρ σ fps E R hm Q q =>
  h G H ρ σ fps E R hm Q fun d v H' fp hR e s r ns f => q d v H' fp hR e s r ns (f.sub hs hne)
/-! ### argument lists -/
def dNil : DMs := fun _ R => R []
def dCons (m : DM) (ms : DMs) : DMs := fun ρ R => m ρ fun d => ms ρ fun ds => R (d :: ds)
theorem da_nil : DA K S tNil dNil [] := fun G H ρ σ fps E R hm Q q => q [] [] H [] hm (Ext.refl _ _) E.src .nil .nil .nil
theorem da_cons {te : TE} {t : TA} {m : DM} {ms : DMs} {U V : List Nat} (h1 : DE K S te m U) (h2 : DA K S t ms V) : DA K S (tCons te t) (dCons m ms) (U ++ V) := fun G H ρ σ fps E R hm Q q =>
  h1 G H ρ σ fps E _ hm _ fun d v H1 fp hR e1 s1 r1 n1 f1 =>
    h2 G H1 ρ σ fps (E.step e1 s1) _ hR _ fun ds vs H2 gp hR2 e2 s2 r2 n2 f2 =>
      q (d :: ds) (v :: vs) H2 (fp ++ gp) hR2 (e1.trans e2) s2 (.cons (r1.ext n1 e2 s1) r2) (n1.app n2) (f1.app f2 e1 n2 fun a ha => let ⟨o, ho, _⟩ := r1.there _ _ _ a ha; ⟨o, ho⟩)
/-! ### operations on values -/
/-- of two data, a new datum -/
def OpD (K : PySem.W.Frag) (S : Option (Addr × Addr)) (r : R2) (f : D → D → (D → Prop) → Prop) : Prop :=
  ∀ (H : Hp) (x y : V) (d e : D) (f1 f2 : List Addr), SrcAt ⟨K, S⟩ H → Rp ⟨K, S⟩ H d x f1 → NoS ⟨K, S⟩ f1 → Rp ⟨K, S⟩ H e y f2 → NoS ⟨K, S⟩ f2 → ∀ R, f d e R → ∀ Q : VK,
    (∀ z v H' fp, R z → Ext ⟨K, S⟩ H H' → SrcAt ⟨K, S⟩ H' → Rp ⟨K, S⟩ H' z v fp → NoS ⟨K, S⟩ fp → fp.Nodup → (∀ a ∈ fp, H a = none) → Q v H') → r x y H Q
/-- of a list of data, a new datum -/
def CallD (K : PySem.W.Frag) (S : Option (Addr × Addr)) (r : List V → Hp → VK → Prop) (f : List D → (D → Prop) → Prop) : Prop :=
  ∀ (H : Hp) (xs : List V) (ds : List D) (fp0 : List Addr), SrcAt ⟨K, S⟩ H → Rps ⟨K, S⟩ H ds xs fp0 → NoS ⟨K, S⟩ fp0 → ∀ R, f ds R → ∀ Q : VK,
    (∀ z v H' fp, R z → Ext ⟨K, S⟩ H H' → SrcAt ⟨K, S⟩ H' → Rp ⟨K, S⟩ H' z v fp → NoS ⟨K, S⟩ fp → fp.Nodup → (∀ a ∈ fp, H a = none) → Q v H') → r xs H Q
def UnD (K : PySem.W.Frag) (S : Option (Addr × Addr)) (r : V → Hp → VK → Prop) (f : D → (D → Prop) → Prop) : Prop :=
  ∀ (H : Hp) (x : V) (d : D) (fp0 : List Addr), SrcAt ⟨K, S⟩ H → Rp ⟨K, S⟩ H d x fp0 → NoS ⟨K, S⟩ fp0 → ∀ R, f d R → ∀ Q : VK,
    (∀ z v H' fp, R z → Ext ⟨K, S⟩ H H' → SrcAt ⟨K, S⟩ H' → Rp ⟨K, S⟩ H' z v fp → NoS ⟨K, S⟩ fp → fp.Nodup → (∀ a ∈ fp, H a = none) → Q v H') → r x H Q
/-- .. whose lists are the first operand's -/
def OpA (K : PySem.W.Frag) (S : Option (Addr × Addr)) (r : R2) (f : D → D → (D → Prop) → Prop) : Prop :=
  ∀ (H : Hp) (x y : V) (d e : D) (f1 f2 : List Addr), SrcAt ⟨K, S⟩ H → Rp ⟨K, S⟩ H d x f1 → NoS ⟨K, S⟩ f1 → Rp ⟨K, S⟩ H e y f2 → NoS ⟨K, S⟩ f2 → ∀ R, f d e R → ∀ Q : VK,
    (∀ z v fp, R z → Rp ⟨K, S⟩ H z v fp → (∀ a ∈ fp, a ∈ f1) → (f1.Nodup → fp.Nodup) → Q v H) → r x y H Q
def dBin (f : D → D → (D → Prop) → Prop) (ma mb : DM) : DM := fun ρ R => ma ρ fun x => mb ρ fun y => f x y R
def dUn (f : D → (D → Prop) → Prop) (ma : DM) : DM := fun ρ R => ma ρ fun x => f x R
/-- a mark whose type names R: simp leaves R as it is -/
inductive Hold {α : Type} (R : α) : Type
  | mk : Hold R
/-- what is made of an answer, held back until the answer's form is known -/
def kont (R : D → Prop) (_ : Hold R) : D → Prop := R
section
variable {R : D → Prop} {t : Hold R}
theorem kont_none : kont R t .none = R .none := rfl
theorem kont_bool {b : Bool} : kont R t (.bool b) = R (.bool b) := rfl
theorem kont_int {i : Int} : kont R t (.int i) = R (.int i) := rfl
theorem kont_str {x : Str} : kont R t (.str x) = R (.str x) := rfl
theorem kont_list {xs : List D} : kont R t (.list xs) = R (.list xs) := rfl
theorem kont_tuple {xs : List D} : kont R t (.tuple xs) = R (.tuple xs) := rfl
end
def dCall (f : List D → (D → Prop) → Prop) (ms : DMs) : DM := fun ρ R => ms ρ fun ds => f ds R
theorem de_op {r : R2} {f : D → D → (D → Prop) → Prop} {ta tb : TE} {ma mb : DM} {U V : List Nat} (h : OpD K S r f) (h1 : DE K S ta ma U) (h2 : DE K S tb mb V) : DE K S (tOp r ta tb) (dBin f ma mb) [] := fun G H ρ σ fps E R hm Q q =>
  h1 G H ρ σ fps E _ hm _ fun d v H1 fp hR e1 s1 r1 n1 f1 =>
    h2 G H1 ρ σ fps (E.step e1 s1) _ hR _ fun e w H2 gp hR2 e2 s2 r2 n2 f2 =>
      h H2 v w d e fp gp s2 (r1.ext n1 e2 s1) n1 r2 n2 _ hR2 _ fun z u H3 kp hz e3 s3 r3 n3 nd fr =>
        q z u H3 kp hz ((e1.trans e2).trans e3) s3 r3 n3 (.fresh (fun a ha => (e1.trans e2).free (fr a ha) (n3 a ha)) nd)
theorem de_opA {r : R2} {f : D → D → (D → Prop) → Prop} {ta tb : TE} {ma mb : DM} {U V : List Nat} (h : OpA K S r f) (h1 : DE K S ta ma U) (h2 : DE K S tb mb V) : DE K S (tOp r ta tb) (dBin f ma mb) U := fun G H ρ σ fps E R hm Q q =>
  h1 G H ρ σ fps E _ hm _ fun d v H1 fp hR e1 s1 r1 n1 f1 =>
    h2 G H1 ρ σ fps (E.step e1 s1) _ hR _ fun e w H2 gp hR2 e2 s2 r2 n2 f2 =>
      h H2 v w d e fp gp s2 (r1.ext n1 e2 s1) n1 r2 n2 _ hR2 _ fun z u kp hz r3 sub nd =>
        q z u H2 kp hz (e1.trans e2) s2 r3 (fun a ha => n1 a (sub a ha)) (f1.part sub nd)
theorem de_un {r : V → Hp → VK → Prop} {f : D → (D → Prop) → Prop} {ta : TE} {ma : DM} {U : List Nat} (h : UnD K S r f) (h1 : DE K S ta ma U) : DE K S (tUn r ta) (dUn f ma) [] := fun G H ρ σ fps E R hm Q q =>
  h1 G H ρ σ fps E _ hm _ fun d v H1 fp hR e1 s1 r1 n1 f1 =>
    h H1 v d fp s1 r1 n1 _ hR _ fun z u H3 kp hz e3 s3 r3 n3 nd fr =>
      q z u H3 kp hz (e1.trans e3) s3 r3 n3 (.fresh (fun a ha => e1.free (fr a ha) (n3 a ha)) nd)
theorem de_cb {r : List V → Hp → VK → Prop} {f : List D → (D → Prop) → Prop} {t : TA} {ms : DMs} {U : List Nat} (h : CallD K S r f) (h1 : DA K S t ms U) : DE K S (tCB r t) (dCall f ms) [] := fun G H ρ σ fps E R hm Q q =>
  h1 G H ρ σ fps E _ hm _ fun d v H1 fp hR e1 s1 r1 n1 f1 =>
    h H1 v d fp s1 r1 n1 _ hR _ fun z u H3 kp hz e3 s3 r3 n3 nd fr =>
      q z u H3 kp hz (e1.trans e3) s3 r3 n3 (.fresh (fun a ha => e1.free (fr a ha) (n3 a ha)) nd)
/-- answers without objects -/
theorem OpD.pure {r : R2} {f : D → D → (D → Prop) → Prop} (h : ∀ (H : Hp) (x y : V) (d e : D) (f1 f2 : List Addr), Rp ⟨K, S⟩ H d x f1 → Rp ⟨K, S⟩ H e y f2 → ∀ R, f d e R → ∀ Q : VK, (∀ z v, R z → (∀ H, Rp ⟨K, S⟩ H z v []) → Q v H) → r x y H Q) : OpD K S r f :=
  fun H x y d e f1 f2 s r1 n1 r2 n2 R hf Q q => h H x y d e f1 f2 r1 r2 R hf Q fun z v hz rz => q z v H [] hz (Ext.refl _ _) s (rz H) .nil List.nodup_nil fun a ha => by cases ha
theorem CallD.pure {r : List V → Hp → VK → Prop} {f : List D → (D → Prop) → Prop} (h : ∀ (H : Hp) (xs : List V) (ds : List D) (fp : List Addr), Rps ⟨K, S⟩ H ds xs fp → ∀ R, f ds R → ∀ Q : VK, (∀ z v, R z → (∀ H, Rp ⟨K, S⟩ H z v []) → Q v H) → r xs H Q) : CallD K S r f :=
  fun H xs ds fp s r1 n1 R hf Q q => h H xs ds fp r1 R hf Q fun z v hz rz => q z v H [] hz (Ext.refl _ _) s (rz H) .nil List.nodup_nil fun a ha => by cases ha
theorem UnD.pure {r : V → Hp → VK → Prop} {f : D → (D → Prop) → Prop} (h : ∀ (H : Hp) (x : V) (d : D) (fp : List Addr), Rp ⟨K, S⟩ H d x fp → ∀ R, f d R → ∀ Q : VK, (∀ z v, R z → (∀ H, Rp ⟨K, S⟩ H z v []) → Q v H) → r x H Q) : UnD K S r f :=
  fun H x d fp s r1 n1 R hf Q q => h H x d fp r1 R hf Q fun z v hz rz => q z v H [] hz (Ext.refl _ _) s (rz H) .nil List.nodup_nil fun a ha => by cases ha
/-! ### ints -/
def asI (d : D) (k : Int → Prop) : Prop := match d with
  | .int i => k i
  | _ => False
theorem asI_ok {d : D} {k : Int → Prop} (h : asI d k) : ∃ i, d = .int i ∧ k i := by
  unfold asI at h
  split at h
  · exact ⟨_, rfl, h⟩
  · exact h.elim
theorem rp_int {c : Zc} {H : Hp} {i : Int} {v : V} {fp : List Addr} (h : Rp c H (.int i) v fp) : v = .int i := by simp only [Rp] at h; exact h.1
theorem int_rp {c : Zc} {i : Int} (H : Hp) : Rp c H (.int i) (.int i) [] := by simp [Rp]
theorem bl_rp {c : Zc} {b : Bool} (H : Hp) : Rp c H (.bool b) (.bl b) [] := by simp [Rp]
theorem str_rp {c : Zc} {x : Str} (H : Hp) : Rp c H (.str x) (.str x) [] := by simp [Rp]
theorem non_rp {c : Zc} (H : Hp) : Rp c H .none .non [] := by simp [Rp]
def f2I (g : Int → Int → D) : D → D → (D → Prop) → Prop := fun x y R => asI x fun i => asI y fun j => R (g i j)
def f2IC (C : Int → Int → Prop) (g : Int → Int → D) : D → D → (D → Prop) → Prop := fun x y R => asI x fun i => asI y fun j => C i j ∧ R (g i j)
theorem od_I0 {g : Int → Int → Int} : OpD K S (rI0 fun i j => .int (g i j)) (f2I fun i j => .int (g i j)) := .pure fun H x y d e f1 f2 r1 r2 R hf Q q => by
  obtain ⟨i, rfl, h1⟩ := asI_ok hf
  obtain ⟨j, rfl, h2⟩ := asI_ok h1
  exact ⟨i, j, rp_int r1, rp_int r2, q _ _ h2 int_rp⟩
theorem od_B0 {g : Int → Int → Bool} : OpD K S (rI0 fun i j => .bl (g i j)) (f2I fun i j => .bool (g i j)) := .pure fun H x y d e f1 f2 r1 r2 R hf Q q => by
  obtain ⟨i, rfl, h1⟩ := asI_ok hf
  obtain ⟨j, rfl, h2⟩ := asI_ok h1
  exact ⟨i, j, rp_int r1, rp_int r2, q _ _ h2 bl_rp⟩
theorem od_IC {C : Int → Int → Prop} {g : Int → Int → Int} : OpD K S (rI C fun i j => .int (g i j)) (f2IC C fun i j => .int (g i j)) := .pure fun H x y d e f1 f2 r1 r2 R hf Q q => by
  obtain ⟨i, rfl, h1⟩ := asI_ok hf
  obtain ⟨j, rfl, hc, h2⟩ := asI_ok h1
  exact ⟨i, j, rp_int r1, rp_int r2, hc, q _ _ h2 int_rp⟩
def f1I (g : Int → D) : D → (D → Prop) → Prop := fun x R => asI x fun i => R (g i)
theorem ud_I {g : Int → Int} : UnD K S (rU fun i => .int (g i)) (f1I fun i => .int (g i)) := .pure fun H x d fp r1 R hf Q q => by
  obtain ⟨i, rfl, hf⟩ := asI_ok hf
  exact ⟨i, rp_int r1, q _ _ hf int_rp⟩
/-! ### tests -/
def asB (d : D) (k : Bool → Prop) : Prop := match d with
  | .bool b => k b
  | _ => False
theorem asB_ok {d : D} {k : Bool → Prop} (h : asB d k) : ∃ i, d = .bool i ∧ k i := by
  unfold asB at h
  split at h
  · exact ⟨_, rfl, h⟩
  · exact h.elim
theorem rp_bl {c : Zc} {H : Hp} {i : Bool} {v : V} {fp : List Addr} (h : Rp c H (.bool i) v fp) : v = .bl i := by simp only [Rp] at h; exact h.1
def dTest (m : DM) : DMt := fun ρ R => m ρ fun d => asB d R
theorem dt_val {te : TE} {m : DM} {U : List Nat} (h : DE K S te m U) : DT K S (tTest te) (dTest m) := fun G H ρ σ fps E R hm Q q =>
  h G H ρ σ fps E _ hm _ fun d v H' fp hR e s r ns f => by
    obtain ⟨b, rfl, hb⟩ := asB_ok hR
    exact ⟨b, rp_bl r, q b H' hb e s⟩
def dAnd (m1 m2 : DMt) : DMt := fun ρ R => m1 ρ fun b => cond b (m2 ρ R) (R false)
def dOr (m1 m2 : DMt) : DMt := fun ρ R => m1 ρ fun b => cond b (R true) (m2 ρ R)
def dNot (m : DMt) : DMt := fun ρ R => m ρ fun b => R (!b)
theorem dt_and {t u : TT} {m1 m2 : DMt} (h1 : DT K S t m1) (h2 : DT K S u m2) : DT K S (tAnd t u) (dAnd m1 m2) := fun G H ρ σ fps E R hm Q q =>
  h1 G H ρ σ fps E _ hm _ fun b H1 hR e1 s1 => by
    cases b with
    | true => exact iteT (h2 G H1 ρ σ fps (E.step e1 s1) R hR Q fun b H' hb e s => q b H' hb (e1.trans e) s)
    | false => exact iteF (q false H1 hR e1 s1)
theorem dt_or {t u : TT} {m1 m2 : DMt} (h1 : DT K S t m1) (h2 : DT K S u m2) : DT K S (tOr t u) (dOr m1 m2) := fun G H ρ σ fps E R hm Q q =>
  h1 G H ρ σ fps E _ hm _ fun b H1 hR e1 s1 => by
    cases b with
    | false => exact iteF (h2 G H1 ρ σ fps (E.step e1 s1) R hR Q fun b H' hb e s => q b H' hb (e1.trans e) s)
    | true => exact iteT (q true H1 hR e1 s1)
def dYes : DMt := fun _ R => R true
theorem dt_yes : DT K S tYes dYes := fun G H ρ σ fps E R hm Q q => q true H hm (Ext.refl _ _) E.src
/-- and, or, not as values -/
def dAndV (m1 m2 : DM) : DM := fun ρ R => m1 ρ fun d => asB d fun b => cond b (m2 ρ R) (R (.bool false))
def dOrV (m1 m2 : DM) : DM := fun ρ R => m1 ρ fun d => asB d fun b => cond b (R (.bool true)) (m2 ρ R)
def dNotV (m : DM) : DM := fun ρ R => m ρ fun d => asB d fun b => R (.bool (!b))
theorem de_andV {ta tb : TE} {ma mb : DM} {U V : List Nat} (h1 : DE K S ta ma U) (h2 : DE K S tb mb V) : DE K S (tAndV ta tb) (dAndV ma mb) V := fun G H ρ σ fps E R hm Q q =>
  h1 G H ρ σ fps E _ hm _ fun d v H1 fp hR e1 s1 r1 n1 f1 => by
    obtain ⟨b, rfl, hb⟩ := asB_ok hR
    refine ⟨b, rp_bl r1, ?_⟩
    cases b with
    | true => exact iteT (h2 G H1 ρ σ fps (E.step e1 s1) R hb Q fun d v H' fp hd e s r ns f => q d v H' fp hd (e1.trans e) s r ns (f.back e1 ns))
    | false => exact iteF (q _ _ H1 [] hb e1 s1 (bl_rp H1) .nil .nil)
def dIf (c : DMt) (m1 m2 : DM) : DM := fun ρ R => c ρ fun b => cond b (m1 ρ R) (m2 ρ R)
theorem de_if {t : TT} {ta tb : TE} {mc : DMt} {ma mb : DM} {U V : List Nat} (hc : DT K S t mc) (h1 : DE K S ta ma U) (h2 : DE K S tb mb V) : DE K S (tIf t ta tb) (dIf mc ma mb) (U ++ V) := fun G H ρ σ fps E R hm Q q =>
  hc G H ρ σ fps E _ hm _ fun b H1 hR e1 s1 => by
    cases b with
    | true => exact iteT (h1 G H1 ρ σ fps (E.step e1 s1) R hR Q fun d v H' fp hd e s r ns f => q d v H' fp hd (e1.trans e) s r ns ((f.back e1 ns).sub (fun u hu => List.mem_append_left _ hu) fun z => (List.append_eq_nil_iff.mp z).1))
    | false => exact iteF (h2 G H1 ρ σ fps (E.step e1 s1) R hR Q fun d v H' fp hd e s r ns f => q d v H' fp hd (e1.trans e) s r ns ((f.back e1 ns).sub (fun u hu => List.mem_append_right _ hu) fun z => (List.append_eq_nil_iff.mp z).2))
/-! ### displays -/
theorem lim_ok {n : Nat} (h : n ≤ 10000000) : n ≤ sizeLine := Nat.le_trans h (by rw [sizeLine_eq]; decide)
/-- a tuple's display: a known object -/
def tTupF (t : TA) : TE := fun σ H Q => t σ H fun xs H1 => xs.length ≤ sizeLine ∧ ∀ p o, H1 p = none → o.dict = none → Q (.ref p) (upd H1 p (.frz o (.tup xs)))
theorem pe_tupF {X : Cx} {es : List Expr} {t : TA} {pos : Pos} {x1 : Nat} (h : PA X es t) : PE X (.Tuple es x1 pos) (tTupF t) := ⟨fun pins s σ H Q I hq =>
  wpAny_Tuple_spliced (thn (h.run pos pins s σ H _ I hq) fun us s1 w => by
    obtain ⟨xs, H1, I1, r, z, q⟩ := w
    have e := Heap.get?_push_size s1.heap (o := { cls := .type "tuple", data := .seq us.toArray }) rfl
    refine ⟨by rw [← r.length]; exact z, .ref s1.heap.objs.size, _, I1.laid (t' := s1.toks) (o := .frz { cls := .type "tuple", data := .seq us.toArray } (.tup xs)) (fun b u k => Heap.get?_push_of_some _ k) (Nat.le_refl _) ⟨e, z, us, r, ⟨_, e, rfl, _, rfl⟩⟩, rfl, q _ _ (I1.hok.fresh (Nat.le_refl _)) rfl⟩)⟩
def dTup (ms : DMs) : DM := fun ρ R => ms ρ fun ds => ds.length ≤ 10000000 ∧ R (.tuple ds)
theorem de_tup {t : TA} {ms : DMs} {U : List Nat} (h : DA K S t ms U) : DE K S (tTupF t) (dTup ms) U := fun G H ρ σ fps E R hm Q q =>
  h G H ρ σ fps E _ hm _ fun ds vs H1 fp hR e1 s1 r1 n1 f1 => ⟨by rw [r1.len]; exact lim_ok hR.1, fun p o hp ho => by
    have e2 : Ext ⟨K, S⟩ H1 (upd H1 p (.frz o (.tup vs))) := Ext.new hp
    refine q (.tuple ds) (.ref p) _ fp hR.2 (e1.trans e2) (s1.new hp) ?_ n1 f1
    simp only [Rp]
    exact ⟨p, vs, rfl, .new ho, r1.ext n1 e2 s1⟩⟩
def dLst (ms : DMs) : DM := fun ρ R => ms ρ fun ds => ds.length ≤ 10000000 ∧ R (.list ds)
theorem de_lst {t : TA} {ms : DMs} {U : List Nat} (h : DA K S t ms U) : DE K S (tLst t) (dLst ms) U := fun G H ρ σ fps E R hm Q q =>
  h G H ρ σ fps E _ hm _ fun ds vs H1 fp hR e1 s1 r1 n1 f1 => ⟨by rw [r1.len]; exact lim_ok hR.1, fun p hp => by
    have e2 : Ext ⟨K, S⟩ H1 (upd H1 p (.lst vs)) := Ext.new hp
    have hpn := s1.fresh hp
    refine q (.list ds) (.ref p) _ (p :: fp) hR.2 (e1.trans e2) (s1.new hp) ?_ ?_ ⟨fun a ha => ?_, fun z => ?_⟩
    · simp only [Rp]
      exact ⟨p, vs, fp, rfl, rfl, upd_same, r1.ext n1 e2 s1⟩
    · intro a ha
      rcases List.mem_cons.mp ha with rfl | ha
      · exact hpn
      · exact n1 a ha
    · rcases List.mem_cons.mp ha with rfl | ha
      · exact .inl (e1.free hp hpn)
      · exact f1.1 a ha
    · refine List.nodup_cons.mpr ⟨fun hm => ?_, f1.2 z⟩
      obtain ⟨o, ho, _⟩ := r1.there _ _ _ p hm
      rw [hp] at ho
      cases ho⟩
end
end Z
set_option Elab.async false
set_option linter.all false
set_option maxRecDepth 100000
set_option maxHeartbeats 2000000
/-! Z2: what is walked; targets; comprehensions. -/
namespace Z
open PySem L2
section
variable {K : PySem.W.Frag} {S : Option (Addr × Addr)}
/-! ### what is walked -/
/-- a value that stands for a datum; w: a tuple whose object may have a dict, too -/
def RpW (w : Bool) (c : Zc) (H : Hp) (d : D) (v : V) (fp : List Addr) : Prop := Rp c H d v fp ∨ (w = true ∧ ∃ ds a xs, d = .tuple ds ∧ v = .ref a ∧ SqT c.K H a xs ∧ Rps c H ds xs fp)
theorem RpW.strong {c : Zc} {H : Hp} {d : D} {v : V} {fp : List Addr} (h : RpW false c H d v fp) : Rp c H d v fp := h.resolve_right fun z => by cases z.1
theorem RpW.tup {w : Bool} {c : Zc} {H : Hp} {ds : List D} {v : V} {fp : List Addr} (h : RpW w c H (.tuple ds) v fp) : ∃ a xs, v = .ref a ∧ SqT c.K H a xs ∧ Rps c H ds xs fp := by
  rcases h with h | ⟨_, es, a, xs, e, h1, h2, h3⟩
  · simp only [Rp] at h
    obtain ⟨a, xs, h1, h2, h3⟩ := h
    exact ⟨a, xs, h1, h2.t, h3⟩
  · cases e
    exact ⟨a, xs, h1, h2, h3⟩
/-- J gives ds, one by one, while the objects at FP stay -/
def IterOk (w : Bool) (c : Zc) (J : It) (H1 : Hp) (ds : List D) (FP : List Addr) : Prop :=
  Walk J ds.length (fun H' => Tk H1 H' ∧ (∀ a ∈ FP, H' a = H1 a) ∧ SrcAt c H') (fun i H' x H'' => Ext c H' H'' ∧ SrcAt c H'' ∧ ∃ d fp, ds[i]? = some d ∧ RpW w c H'' d x fp ∧ ∀ a ∈ fp, a ∈ FP)
def DI (w : Bool) (K : PySem.W.Frag) (S : Option (Addr × Addr)) (wi : TI) (m : DMs) (U : List Nat) : Prop :=
  ∀ (G H : Hp) (ρ : En) (σ : L2.St) (fps : Nat → List Addr), EnvAt ⟨K, S⟩ G H ρ σ fps → ∀ R : List D → Prop, m ρ R → ∀ Q : It → Hp → Prop,
    (∀ ds J H1 FP, R ds → Ext ⟨K, S⟩ H H1 → SrcAt ⟨K, S⟩ H1 → IterOk w ⟨K, S⟩ J H1 ds FP → NoS ⟨K, S⟩ FP → (∀ a ∈ FP, ∃ o, H1 a = some o) → From H fps ρ.length U FP → Q J H1) → wi σ H Q
theorem Rps.atV {c : Zc} {H : Hp} : ∀ {ds : List D} {xs : List V} {fp : List Addr} {i : Nat} {x : V}, Rps c H ds xs fp → xs[i]? = some x → ∃ d gp, ds[i]? = some d ∧ Rp c H d x gp ∧ (∀ a ∈ gp, a ∈ fp)
  | [], xs, fp, i, x, h, e => by
    simp only [Rps] at h
    rw [h.1] at e
    simp at e
  | d :: ds, xs, fp, i, x, h, e => by
    have hl := h.len
    have hi : i < (d :: ds).length := by rw [← hl]; exact (List.getElem?_eq_some_iff.mp e).1
    obtain ⟨y, gp, e1, h1, h2, _⟩ := h.at (List.getElem?_eq_getElem hi)
    rw [e] at e1
    cases e1
    exact ⟨_, gp, List.getElem?_eq_getElem hi, h1, h2⟩
/-- a list, a tuple, a text: its items -/
def items : D → Option (List D)
  | .list ds => some ds
  | .tuple ds => some ds
  | .str z => some (z.cps.toList.map fun c => .str ⟨#[c]⟩)
  | _ => none
def asItems (d : D) (k : List D → Prop) : Prop := match items d with
  | some ds => k ds
  | none => False
def iSeq (K : PySem.W.Frag) (tl : TE) : TI := fun σ H R => tl σ H fun x H1 =>
  (∃ a xs, x = .ref a ∧ SqL K H1 a xs ∧ R (Itl K a) H1) ∨ (∃ a xs, x = .ref a ∧ SqT K H1 a xs ∧ R (Itt K a) H1) ∨ (∃ z, x = .str z ∧ R (Its z) H1)
theorem pi_seq {X : Cx} {tg l : Expr} {tl : TE} (hl : PE X l tl) : PI X tg l (iSeq X.K tl) := ⟨fun pins s σ H R I h => by
  refine thn (hl.run pins s σ H _ I h) fun v s1 ⟨x, H1, I1, r1, q1⟩ => ?_
  have hf : ∀ b ∈ [s1.heap.objs.size], FpOk X pins H1 b := fun b hb => by
    rw [List.mem_singleton.mp hb]
    exact I1.fpOk (Nat.le_refl _) (I1.hok.fresh (Nat.le_refl _))
  rcases q1 with ⟨a, xs, rfl, hq, q⟩ | ⟨a, xs, rfl, hq, q⟩ | ⟨z, rfl, q⟩
  · cases r1
    obtain ⟨its, rv, pl, _⟩ := I1.list hq
    exact wpAny_pyIter_list pl.isList ⟨_, [_], _, _, H1, rfl, I1.kept (t' := s1.toks) fun b o e => Heap.get?_push_of_some _ e, turn_list a _, ⟨_, Heap.get?_push_size _ rfl, rfl, rfl⟩, hf, q⟩
  · cases r1
    obtain ⟨its, rv, pl, _⟩ := I1.tuple hq
    exact wpAny_pyIter_tuple (show s1.heap.IsTuple a its.toArray from pl) ⟨_, [_], _, _, H1, rfl, I1.kept (t' := s1.toks) fun b o e => Heap.get?_push_of_some _ e, turn_tuple a _, ⟨_, Heap.get?_push_size _ rfl, rfl, rfl⟩, hf, q⟩
  · obtain ⟨t, rfl⟩ := r1
    cases hw : z.cps.all (· < 128) with
    | false => exact PySem.wpAny_pyIter_wide hw (pi_one (tk := s1.toks) I1 _ (turn_str _ z t "str_iterator" (.inr rfl)) ⟨_, Heap.get?_push_size _ rfl, rfl, rfl⟩ q)
    | true => exact PySem.wpAny_pyIter_ascii hw (pi_one (tk := s1.toks) I1 _ (turn_str _ z t "str_ascii_iterator" (.inl rfl)) ⟨_, Heap.get?_push_size _ rfl, rfl, rfl⟩ q)⟩
def dItems (m : DM) : DMs := fun ρ R => m ρ fun d => asItems d R
theorem asItems_ok {d : D} {k : List D → Prop} (h : asItems d k) : ∃ ds, items d = some ds ∧ k ds := by
  unfold asItems at h
  split at h
  · exact ⟨_, by assumption, h⟩
  · exact h.elim
theorem iter_list {c : Zc} {H1 : Hp} {a : Addr} {xs : List V} {ds : List D} {gp FP : List Addr} (h : SqL c.K H1 a xs) (hk : ∀ H', Tk H1 H' → (∀ b ∈ FP, H' b = H1 b) → SqL c.K H' a xs) (r : Rps c H1 ds xs gp) (sub : ∀ b ∈ gp, b ∈ FP) : IterOk false c (Itl c.K a) H1 ds FP := by
  have w := walk_list (K := c.K) (a := a) (xs := xs)
  rw [r.len] at w
  refine w.mono (fun H' g => hk H' g.1 g.2.1) fun i H' x H'' hi g y => ?_
  obtain ⟨rfl, e⟩ := y
  obtain ⟨d, fp, e1, e2, e3⟩ := (r.mono g.1 _ _ _ fun b hb => g.2.1 b (sub b hb)).atV e
  exact ⟨Ext.refl _ _, g.2.2, d, fp, e1, .inl e2, fun b hb => sub b (e3 b hb)⟩
theorem iter_tup {c : Zc} {H1 : Hp} {a : Addr} {xs : List V} {ds : List D} {FP : List Addr} (h : SqT c.K H1 a xs) (r : Rps c H1 ds xs FP) : IterOk false c (Itt c.K a) H1 ds FP := by
  have w := walk_tup (K := c.K) (a := a) (xs := xs)
  rw [r.len] at w
  refine w.mono (fun H' g => g.1.sq h) fun i H' x H'' hi g y => ?_
  obtain ⟨rfl, e⟩ := y
  obtain ⟨d, fp, e1, e2, e3⟩ := (r.mono g.1 _ _ _ g.2.1).atV e
  exact ⟨Ext.refl _ _, g.2.2, d, fp, e1, .inl e2, e3⟩
theorem di_seq {te : TE} {m : DM} {U : List Nat} (h : DE K S te m U) : DI false K S (iSeq K te) (dItems m) U := fun G H ρ σ fps E R hm Q q =>
  h G H ρ σ fps E _ hm _ fun d v H1 fp hR e1 s1 r1 n1 f1 => by
    obtain ⟨ds, hi, hR⟩ := asItems_ok hR
    have th : ∀ a ∈ fp, ∃ o, H1 a = some o := fun a ha => let ⟨o, ho, _⟩ := r1.there _ _ _ a ha; ⟨o, ho⟩
    cases d with
    | list es =>
      cases hi
      simp only [Rp] at r1
      obtain ⟨a, xs, gp, rfl, rfl, h1, h2⟩ := r1
      exact .inl ⟨a, xs, rfl, .of h1, q ds _ H1 _ hR e1 s1 (iter_list (c := ⟨K, S⟩) (.of h1) (fun H' _ k => .of (by rw [k a (List.mem_cons_self ..)]; exact h1)) h2 fun b hb => List.mem_cons_of_mem _ hb) n1 th f1⟩
    | tuple es =>
      cases hi
      simp only [Rp] at r1
      obtain ⟨a, xs, rfl, h1, h2⟩ := r1
      exact .inr (.inl ⟨a, xs, rfl, h1.t, q ds _ H1 _ hR e1 s1 (iter_tup (c := ⟨K, S⟩) h1.t h2) n1 th f1⟩)
    | str z =>
      cases hi
      simp only [Rp] at r1
      obtain ⟨rfl, rfl⟩ := r1
      refine .inr (.inr ⟨z, rfl, q _ _ H1 [] hR e1 s1 ?_ n1 th f1⟩)
      have w := walk_str (z := z)
      rw [show z.cps.size = (z.cps.toList.map fun c => (.str ⟨#[c]⟩ : D)).length by simp] at w
      refine w.mono (fun _ _ => trivial) fun i H' x H'' hi g y => ?_
      obtain ⟨rfl, c, e1, rfl⟩ := y
      exact ⟨Ext.refl _ _, g.2.2, .str ⟨#[c]⟩, [], by simp [e1], .inl (str_rp _), fun a ha => ha⟩
    | none => cases hi
    | bool b => cases hi
    | int i => cases hi
    | dict kvs => cases hi
/-- range -/
def rangeD (lo : Int) (n : Nat) (c : Int) : List D := (List.range n).map fun i => .int (lo + (i : Nat) * c)
def dRng1 (ms : DMs) : DMs := fun ρ R => ms ρ fun ds => match ds with
  | [.int j] => (-1000000000 ≤ j ∧ j ≤ 1000000000) ∧ R (rangeD 0 j.toNat 1)
  | _ => False
def dRng2 (ms : DMs) : DMs := fun ρ R => ms ρ fun ds => match ds with
  | [.int i, .int j] => (-1000000000 ≤ i ∧ i ≤ 1000000000 ∧ -1000000000 ≤ j ∧ j ≤ 1000000000) ∧ R (rangeD i (j - i).toNat 1)
  | _ => False
theorem iter_range {c : Zc} {H1 : Hp} {lo : Int} {n : Nat} : IterOk false c (Itr lo n) H1 (rangeD lo n 1) [] := by
  have w := walk_range (lo := lo) (n := n)
  have e : (rangeD lo n 1).length = n := by simp [rangeD]
  unfold IterOk
  rw [e]
  refine w.mono (fun _ _ => trivial) fun i H' x H'' hi g y => ?_
  obtain ⟨rfl, rfl⟩ := y
  exact ⟨Ext.refl _ _, g.2.2, .int (lo + i), [], by simp [rangeD, hi], .inl (int_rp _), fun a ha => ha⟩
theorem di_rng1 {t : TA} {ms : DMs} {U : List Nat} (h : DA K S t ms U) : DI false K S (iRng1 t) (dRng1 ms) [] := fun G H ρ σ fps E R hm Q q =>
  h G H ρ σ fps E _ hm _ fun ds vs H1 fp hR e1 s1 r1 n1 f1 => by
    split at hR
    · rename_i j
      simp only [Rps] at r1
      obtain ⟨x, ys, g1, g2, rfl, rfl, h1, rfl, rfl⟩ := r1
      exact ⟨j, by rw [rp_int h1], by omega, by omega, q _ _ H1 [] hR.2 e1 s1 iter_range .nil (fun a ha => by cases ha) .nil⟩
    · exact hR.elim
theorem di_rng2 {t : TA} {ms : DMs} {U : List Nat} (h : DA K S t ms U) : DI false K S (iRng2 t) (dRng2 ms) [] := fun G H ρ σ fps E R hm Q q =>
  h G H ρ σ fps E _ hm _ fun ds vs H1 fp hR e1 s1 r1 n1 f1 => by
    split at hR
    · rename_i i j
      simp only [Rps] at r1
      obtain ⟨x, ys, g1, g2, rfl, rfl, h1, y, zs, g3, g4, rfl, rfl, h2, rfl, rfl⟩ := r1
      exact ⟨i, j, by rw [rp_int h1, rp_int h2], by omega, q _ _ H1 [] hR.2 e1 s1 iter_range .nil (fun a ha => by cases ha) .nil⟩
    · exact hR.elim
/-! ### targets -/
/-- only the slots of W are stored: they hold what lies in fp -/
structure GOk (W : List Nat) (fp : List Addr) (ρ : En) (σ : L2.St) (fps : Nat → List Addr) (ρ' : En) (σ' : L2.St) (fps' : Nat → List Addr) : Prop where
  len : ρ'.length = ρ.length
  off : ∀ j, j ∉ W → σ'[j]? = σ[j]? ∧ ρ'[j]? = ρ[j]? ∧ fps' j = fps j
  on : ∀ j, j ∈ W → j < ρ.length → (∀ a ∈ fps' j, a ∈ fp) ∧ ¬ isOwn ρ'[j]?
abbrev DMg := D → En → (En → Prop) → Prop
/-- the target g takes a datum that shares no list with an own one -/
def DG (w : Bool) (K : PySem.W.Frag) (S : Option (Addr × Addr)) (g : TG) (m : DMg) (W : List Nat) : Prop :=
  ∀ (G H : Hp) (ρ : En) (σ : L2.St) (fps : Nat → List Addr), EnvAt ⟨K, S⟩ G H ρ σ fps → ∀ (d : D) (v : V) (fp : List Addr), RpW w ⟨K, S⟩ H d v fp → NoS ⟨K, S⟩ fp → (∀ i, i < ρ.length → isOwn ρ[i]? → ∀ a ∈ fps i, a ∉ fp) →
    ∀ R : En → Prop, m d ρ R → ∀ Nn : L2.St → Hp → Prop, (∀ ρ' σ' fps', R ρ' → EnvAt ⟨K, S⟩ G H ρ' σ' fps' → GOk W fp ρ σ fps ρ' σ' fps' → Nn σ' H) → g v σ H Nn
theorem EnvAt.setVal {c : Zc} {G H : Hp} {ρ : En} {σ : L2.St} {fps : Nat → List Addr} (E : EnvAt c G H ρ σ fps) {d : D} {v : V} {fp : List Addr} (r : Rp c H d v fp) (ns : NoS c fp) (sep : ∀ i, i < ρ.length → isOwn ρ[i]? → ∀ a ∈ fps i, a ∉ fp) (i : Nat) :
    EnvAt c G H (ρ.set i (.val d)) (σ.set i (some v)) (fun j => if j = i then fp else fps j) := by
  refine ⟨by simp [E.len], E.ext, E.src, fun j sl h => ?_, fun j k hne hj hk ho a ha hb => ?_⟩
  · by_cases hji : j = i
    · subst hji
      have hl : j < ρ.length := by
        have := (List.getElem?_eq_some_iff.mp h).1
        simpa using this
      rw [List.getElem?_set_self hl] at h
      cases h
      have hl2 : j < σ.length := by rw [E.len]; exact hl
      rw [List.getElem?_set_self hl2]
      simp only [if_true]
      exact ⟨v, rfl, r, ns⟩
    · rw [List.getElem?_set_ne (Ne.symm hji)] at h ⊢
      simp only [if_neg hji]
      exact E.ok j sl h
  · have hj' : j < ρ.length := by simpa using hj
    have hk' : k < ρ.length := by simpa using hk
    by_cases hji : j = i
    · subst hji
      rw [List.getElem?_set_self hj'] at ho
      exact ho
    · rw [List.getElem?_set_ne (Ne.symm hji)] at ho
      simp only [if_neg hji] at ha
      by_cases hki : k = i
      · simp only [if_pos hki] at hb
        exact sep j hj' ho a ha hb
      · simp only [if_neg hki] at hb
        exact E.sep j k hne hj' hk' ho a ha hb
def dgName (i : Nat) : DMg := fun d ρ R => R (ρ.set i (.val d))
theorem dg_name (i : Nat) : DG false K S (gName i) (dgName i) [i] := fun G H ρ σ fps E d v fp r ns sep R hm Nn q => by
  refine q _ _ _ hm (E.setVal r.strong ns sep i) ⟨by simp, fun j hj => ?_, fun j hj hl => ?_⟩
  · have hji : j ≠ i := fun e => hj (List.mem_singleton.mpr e)
    refine ⟨List.getElem?_set_ne (Ne.symm hji), List.getElem?_set_ne (Ne.symm hji), if_neg hji⟩
  · have e := List.mem_singleton.mp hj
    subst e
    refine ⟨fun a ha => by simpa using ha, ?_⟩
    rw [List.getElem?_set_self hl]
    exact id
/-- several targets -/
abbrev DMgs := List D → En → (En → Prop) → Prop
def DGs (K : PySem.W.Frag) (S : Option (Addr × Addr)) (g : TGs) (m : DMgs) (W : List Nat) : Prop :=
  ∀ (G H : Hp) (ρ : En) (σ : L2.St) (fps : Nat → List Addr), EnvAt ⟨K, S⟩ G H ρ σ fps → ∀ (ds : List D) (vs : List V) (fp : List Addr), Rps ⟨K, S⟩ H ds vs fp → NoS ⟨K, S⟩ fp → (∀ i, i < ρ.length → isOwn ρ[i]? → ∀ a ∈ fps i, a ∉ fp) →
    ∀ R : En → Prop, m ds ρ R → ∀ Nn : L2.St → Hp → Prop, (∀ ρ' σ' fps', R ρ' → EnvAt ⟨K, S⟩ G H ρ' σ' fps' → GOk W fp ρ σ fps ρ' σ' fps' → Nn σ' H) → g vs σ H Nn
def dgNil : DMgs := fun ds ρ R => ds = [] ∧ R ρ
def dgCons (m : DMg) (ms : DMgs) : DMgs := fun ds ρ R => match ds with
  | d :: r => m d ρ fun ρ' => ms r ρ' R
  | [] => False
theorem dgs_nil : DGs K S gNil dgNil [] := fun G H ρ σ fps E ds vs fp r ns sep R hm Nn q => by
  obtain ⟨rfl, hm⟩ := hm
  simp only [Rps] at r
  exact ⟨r.1, q ρ σ fps hm E ⟨rfl, fun j _ => ⟨rfl, rfl, rfl⟩, fun j hj => by cases hj⟩⟩
theorem dgs_cons {g : TG} {gs : TGs} {m : DMg} {ms : DMgs} {W1 W2 : List Nat} (h1 : DG false K S g m W1) (h2 : DGs K S gs ms W2) : DGs K S (gCons g gs) (dgCons m ms) (W1 ++ W2) := fun G H ρ σ fps E ds vs fp r ns sep R hm Nn q => by
  cases ds with
  | nil => exact hm.elim
  | cons d ds =>
    simp only [Rps] at r
    obtain ⟨x, ys, f1, f2, rfl, rfl, r1, r2⟩ := r
    refine ⟨x, ys, rfl, h1 G H ρ σ fps E d x f1 (.inl r1) (fun a ha => ns a (List.mem_append_left _ ha)) (fun i hi ho a ha hb => sep i hi ho a ha (List.mem_append_left _ hb)) _ hm _ fun ρ1 σ1 fps1 hR E1 g1 => ?_⟩
    refine h2 G H ρ1 σ1 fps1 E1 ds ys f2 r2 (fun a ha => ns a (List.mem_append_right _ ha)) (fun i hi ho a ha hb => ?_) _ hR _ fun ρ2 σ2 fps2 hR2 E2 g2 => q ρ2 σ2 fps2 hR2 E2 ⟨g2.len.trans g1.len, fun j hj => ?_, fun j hj hl => ?_⟩
    · rw [g1.len] at hi
      by_cases hw : i ∈ W1
      · exact (g1.on i hw hi).2 ho
      · obtain ⟨e1, e2, e3⟩ := g1.off i hw
        rw [e2] at ho
        rw [e3] at ha
        exact sep i hi ho a ha (List.mem_append_right _ hb)
    · have n1 : j ∉ W1 := fun z => hj (List.mem_append_left _ z)
      have n2 : j ∉ W2 := fun z => hj (List.mem_append_right _ z)
      obtain ⟨a1, a2, a3⟩ := g1.off j n1
      obtain ⟨b1, b2, b3⟩ := g2.off j n2
      exact ⟨b1.trans a1, b2.trans a2, b3.trans a3⟩
    · by_cases hw : j ∈ W2
      · have := g2.on j hw (by rw [g1.len]; exact hl)
        exact ⟨fun a ha => List.mem_append_right _ (this.1 a ha), this.2⟩
      · have hw1 : j ∈ W1 := (List.mem_append.mp hj).resolve_right hw
        obtain ⟨b1, b2, b3⟩ := g2.off j hw
        rw [b2, b3]
        exact ⟨fun a ha => List.mem_append_left _ ((g1.on j hw1 hl).1 a ha), (g1.on j hw1 hl).2⟩
def asT (d : D) (k : List D → Prop) : Prop := match d with
  | .tuple ds => k ds
  | _ => False
def dgTup (n : Nat) (ms : DMgs) : DMg := fun d ρ R => asT d fun ds => ds.length = n ∧ ms ds ρ R
theorem dg_tup {w : Bool} {n : Nat} {gs : TGs} {ms : DMgs} {W : List Nat} (h : DGs K S gs ms W) : DG w K S (gTup K n gs) (dgTup n ms) W := fun G H ρ σ fps E d v fp r ns sep R hm Nn q => by
  cases d with
  | tuple ds =>
    obtain ⟨a, xs, rfl, h1, h2⟩ := r.tup
    obtain ⟨hl, hm⟩ := hm
    exact ⟨a, xs, rfl, h1, by rw [h2.len]; exact hl, h G H ρ σ fps E ds xs fp h2 ns sep R hm Nn q⟩
  | _ => exact hm.elim
/-! ### comprehensions -/
/-- inside a comprehension: its own names empty, nothing is changed -/
def demote : En → En := List.map fun s => match s with
  | .own d => .val d
  | s => s
def hide : List Nat → En → En
  | [], ρ => ρ
  | i :: vs, ρ => (hide vs ρ).set i .unk
theorem hide_length (ρ : En) : ∀ vs : List Nat, (hide vs ρ).length = ρ.length
  | [] => rfl
  | v :: vs => by unfold hide; rw [List.length_set, hide_length ρ vs]
theorem hide_out {ρ : En} {i : Nat} : ∀ {vs : List Nat}, i ∉ vs → (hide vs ρ)[i]? = ρ[i]?
  | [], _ => rfl
  | v :: vs, h => by
    unfold hide
    rw [List.getElem?_set_ne fun e => h (by rw [e]; exact List.mem_cons_self)]
    exact hide_out fun m => h (List.mem_cons_of_mem _ m)
theorem hide_in {ρ : En} {i : Nat} : ∀ {vs : List Nat} {s : Sl}, i ∈ vs → (hide vs ρ)[i]? = some s → s = .unk
  | [], s, h, e => by cases h
  | v :: vs, s, h, e => by
    unfold hide at e
    by_cases hv : v = i
    · subst hv
      have hl : v < (hide vs ρ).length := by
        have := (List.getElem?_eq_some_iff.mp e).1
        simpa using this
      rw [List.getElem?_set_self hl] at e
      exact (Option.some.inj e).symm
    · rw [List.getElem?_set_ne hv] at e
      exact hide_in ((List.mem_cons.mp h).resolve_left (Ne.symm hv)) e
theorem demote_length (ρ : En) : (demote ρ).length = ρ.length := by simp [demote]
theorem demote_own {ρ : En} {i : Nat} : ¬ isOwn (demote ρ)[i]? := by
  unfold demote
  rw [List.getElem?_map]
  cases ρ[i]? with
  | none => exact id
  | some s => cases s <;> exact id
theorem EnvAt.inner {c : Zc} {G H : Hp} {ρ : En} {σ : L2.St} {fps : Nat → List Addr} (E : EnvAt c G H ρ σ fps) (vs : List Nat) :
    EnvAt c (fun _ => none) H (hide vs (demote ρ)) (wipe σ vs) (fun j => if j ∈ vs then [] else fps j) := by
  refine ⟨by rw [wipe_length, hide_length, demote_length]; exact E.len, fun a o h _ => (by cases h), E.src, fun j sl h => ?_, fun j k _ _ _ ho => ?_⟩
  · by_cases hj : j ∈ vs
    · rw [hide_in hj h]
      simp only [if_pos hj]
      rfl
    · rw [hide_out hj] at h
      rw [wipe_out hj]
      simp only [if_neg hj]
      unfold demote at h
      rw [List.getElem?_map] at h
      cases hs : ρ[j]? with
      | none => rw [hs] at h; cases h
      | some s =>
        rw [hs] at h
        have ok := E.ok j s hs
        cases s with
        | unk => cases h; exact ok
        | val d => cases h; exact ok
        | own d => cases h; obtain ⟨v, a1, a2, a3, _⟩ := ok; exact ⟨v, a1, a2, a3⟩
  · by_cases hj : j ∈ vs
    · exfalso
      cases hs : (hide vs (demote ρ))[j]? with
      | none => rw [hs] at ho; exact ho
      | some s =>
        have := hide_in hj hs
        rw [hs, this] at ho
        exact ho
    · rw [hide_out hj] at ho
      exact (demote_own ho).elim
def compD (tg : DMg) (mt : DMt) (me : DM) (ρ : En) (R : List D → Prop) : List D → List D → Prop
  | [], acc => R acc
  | x :: xs, acc => tg x ρ fun ρ' => mt ρ' fun b => cond b (me ρ' fun y => compD tg mt me ρ R xs (acc ++ [y])) (compD tg mt me ρ R xs acc)
def dComp (mi : DMs) (tg : DMg) (mt : DMt) (me : DM) (vs : List Nat) : DM := fun ρ R => mi ρ fun xs => xs.length ≤ 10000000 ∧ compD tg mt me (hide vs (demote ρ)) (fun ys => R (.list ys)) xs []
def compU (vs Ue Ui : List Nat) : List Nat := if Ue = [] then [] else 1000 :: (Ue ++ Ui)
theorem wipe_same {σ σ2 : L2.St} : ∀ {vs : List Nat}, σ2.length = σ.length → (∀ j, j ∉ vs → σ2[j]? = σ[j]?) → wipe σ2 vs = wipe σ vs := fun {vs} hl h => by
  apply List.ext_getElem?
  intro i
  by_cases hi : i ∈ vs
  · have both : ∀ τ : L2.St, τ.length = σ.length → (wipe τ vs)[i]? = if i < σ.length then some none else none := fun τ hτ => by
      cases e : (wipe τ vs)[i]? with
      | none =>
        have := List.getElem?_eq_none_iff.mp e
        rw [wipe_length, hτ] at this
        rw [if_neg (by omega)]
      | some o =>
        have hlt := (List.getElem?_eq_some_iff.mp e).1
        rw [wipe_length, hτ] at hlt
        rw [if_pos hlt]
        cases o with
        | none => rfl
        | some x => exact absurd hi (wipe_some e).2
    rw [both σ2 hl, both σ rfl]
  · rw [wipe_out hi, wipe_out hi]
    exact h i hi
theorem wipe_wipe {σ : L2.St} {vs : List Nat} : wipe (wipe σ vs) vs = wipe σ vs := wipe_same (wipe_length σ vs) fun j hj => wipe_out hj
theorem de_lc {wi : TI} {g : TG} {tt : TT} {te : TE} {vs : List Nat} {mi : DMs} {mg : DMg} {mt : DMt} {me : DM} {Ui Ue W : List Nat} {w : Bool} (hi : DI w K S wi mi Ui) (hg : DG w K S g mg W) (ht : DT K S tt mt) (he : DE K S te me Ue) (hW : W.all (fun j => vs.contains j) = true) :
    DE K S (tLc wi g tt te vs) (dComp mi mg mt me vs) (compU vs Ue Ui) := fun G H ρ σ fps E R hm Q q =>
  hi G H ρ σ fps E _ hm _ fun ds J H1 FP hR e1 s1 J1 nF tF fF Dd hD => by
    obtain ⟨hlen, hc⟩ := hR
    have hWv : ∀ j, j ∈ W → j ∈ vs := fun j hj => by
      have := List.all_eq_true.mp hW j hj
      simpa using this
    have hDn := s1.fresh hD
    -- what holds ahead of turn i
    let Pv : Nat → Hp → Prop := fun i Hi => Ext ⟨K, S⟩ H1 Hi ∧ SrcAt ⟨K, S⟩ Hi ∧ ∃ (acc : List D) (av : List V) (fa : List Addr), Hi Dd = some (.lst av) ∧ Rps ⟨K, S⟩ Hi acc av fa ∧ NoS ⟨K, S⟩ fa ∧ Dd ∉ fa ∧ From H fps ρ.length (compU vs Ue Ui) fa ∧ acc.length ≤ i ∧
      compD mg mt me (hide vs (demote ρ)) (fun ys => R (.list ys)) (ds.drop i) acc
    refine lc_it J1 (D := Dd) Pv ?_ (fun i Hi hle p => ?_) (fun i x Hi Hi' hlt p y => ?_) fun Hn p => ?_
    · exact ⟨Ext.new hD, s1.new hD, [], [], [], upd_same, .nil, .nil, (by intro z; cases z), .nil, Nat.le_refl _, hc⟩
    · exact ⟨p.1.tk s1, fun a ha => by
        obtain ⟨o, ho⟩ := tF a ha
        rw [ho]
        exact p.1 a o ho (nF a ha), p.2.1⟩
    · obtain ⟨x1, sx, acc, av, fa, hDi, ra, na, da, frm, hal, hcc⟩ := p
      obtain ⟨y1, sy, d, fp, hd, rd, subd⟩ := y
      have E2 := ((E.step (e1.trans (x1.trans y1)) sy).inner vs)
      have hdrop : ds.drop i = d :: ds.drop (i + 1) := by
        obtain ⟨hlt', hd'⟩ := List.getElem?_eq_some_iff.mp hd
        rw [← hd']
        exact List.drop_eq_getElem_cons hlt'
      rw [hdrop] at hcc
      have nfp : NoS ⟨K, S⟩ fp := fun a ha => nF a (subd a ha)
      refine hg _ Hi' _ _ _ E2 d x fp rd nfp (fun j _ ho => ?_) _ hcc _ fun ρ2 σ2 fps2 hR2 E3 g3 => ?_
      · exfalso
        by_cases hj : j ∈ vs
        · cases hs : (hide vs (demote ρ))[j]? with
          | none => rw [hs] at ho; exact ho
          | some s =>
            have := hide_in hj hs
            rw [hs, this] at ho
            exact ho
        · rw [hide_out hj] at ho
          exact demote_own ho
      have hl2 : ρ2.length = ρ.length := by rw [g3.len, hide_length, demote_length]
      have hs2 : σ2.length = (wipe σ vs).length := by rw [E3.len, hl2, wipe_length, E.len]
      refine ⟨(wipe_same hs2 fun j hj => (g3.off j fun z => hj (hWv j z)).1).trans wipe_wipe, ?_⟩
      -- what the slots hold within, told by those outside
      have hin : ∀ u a, u < ρ2.length → a ∈ fps2 u → a ∈ FP ∨ (u < ρ.length ∧ a ∈ fps u) := fun u a hu ha => by
        rw [hl2] at hu
        by_cases hw : u ∈ W
        · exact .inl (subd a ((g3.on u hw (by rw [hide_length, demote_length]; exact hu)).1 a ha))
        · rw [(g3.off u hw).2.2] at ha
          by_cases hv : u ∈ vs
          · simp only [if_pos hv] at ha
            cases ha
          · simp only [if_neg hv] at ha
            exact .inr ⟨hu, ha⟩
      refine ht _ Hi' ρ2 σ2 fps2 E3 _ hR2 _ fun b H3 hb x3 s3 => ?_
      have E4 := E3.step x3 s3
      cases b with
      | false =>
        refine iteF ⟨x1.trans (y1.trans x3), s3, acc, av, fa, x3 _ _ (y1 _ _ hDi hDn) hDn, (ra.ext na y1 sx).ext na x3 sy, na, da, frm, Nat.le_succ_of_le hal, hb⟩
      | true =>
        refine iteT (he _ H3 ρ2 σ2 fps2 E4 _ hb _ fun y v H4 gp hc4 x4 s4 r4 n4 f4 => ?_)
        have xx : Ext ⟨K, S⟩ Hi H4 := y1.trans (x3.trans x4)
        have hD4 : H4 Dd = some (.lst av) := xx _ _ hDi hDn
        have hDg : Dd ∉ gp := fun hm => by
          rcases f4.1 Dd hm with z | ⟨u, hu, hul, z⟩
          · rw [x3 _ _ (y1 _ _ hDi hDn) hDn] at z
            cases z
          · rcases hin u Dd hul z with z | ⟨z1, z⟩
            · obtain ⟨o, ho⟩ := tF Dd z
              rw [hD] at ho
              cases ho
            · obtain ⟨o, ho, _⟩ := E.thereAt z1 Dd z
              rw [e1 _ _ ho hDn] at hD
              cases hD
        have hk : ∀ b : Addr, b ∈ fa ++ gp → upd H4 Dd (.lst (av ++ [v])) b = H4 b := fun b hb' => upd_ne fun z => by
          rcases List.mem_append.mp hb' with z' | z'
          · exact da (z ▸ z')
          · exact hDg (z ▸ z')
        have tk : Tk H4 (upd H4 Dd (.lst (av ++ [v]))) := fun b o ho hf => by
          rw [upd_ne fun z => by rw [z, hD4] at ho; cases ho; exact hf]
          exact ho
        refine ⟨av, hD4, ?_, fun b o ho hnb => ?_, s4.own hDn, acc ++ [y], av ++ [v], fa ++ gp, upd_same, ?_, na.app n4, ?_, ?_, ?_, hc4⟩
        · have h1 := ra.len
          have h2 : i < ds.length := hlt
          exact Nat.lt_of_lt_of_le (by omega : av.length < 10000000) (lim_ok (Nat.le_refl _))
        · rw [upd_ne fun z => by rw [z, hD] at ho; cases ho]
          exact (x1.trans xx) b o ho hnb
        · exact (ra.ext na xx sx).app (.one r4) |>.mono tk _ _ _ hk
        · intro hm
          rcases List.mem_append.mp hm with z | z
          · exact da z
          · exact hDg z
        · have hne : ∀ a ∈ gp, H a = none ∨ ∃ u ∈ compU vs Ue Ui, u < ρ.length ∧ a ∈ fps u := fun a ha => by
            rcases f4.1 a ha with z | ⟨u, hu, hul, z⟩
            · exact .inl ((e1.trans (x1.trans (y1.trans x3))).free z (n4 a ha))
            · have hUe : Ue ≠ [] := fun z => by rw [z] at hu; cases hu
              unfold compU
              rw [if_neg hUe]
              rcases hin u a hul z with z | ⟨z1, z⟩
              · exact (fF.1 a z).imp id fun ⟨u', hu', q'⟩ => ⟨u', List.mem_cons_of_mem _ (List.mem_append_right _ hu'), q'⟩
              · exact .inr ⟨u, List.mem_cons_of_mem _ (List.mem_append_left _ hu), z1, z⟩
          refine ⟨fun a ha => (List.mem_append.mp ha).elim (frm.1 a) (hne a), fun z => ?_⟩
          have hUe : Ue = [] := by
            unfold compU at z
            split at z
            · assumption
            · cases z
          subst hUe
          refine List.nodup_append.mpr ⟨frm.2 z, f4.2 rfl, fun a ha b hb' q' => ?_⟩
          subst q'
          have h1 := f4.off a hb'
          obtain ⟨o, ho, _⟩ := ra.there _ _ _ a ha
          rw [x3 _ _ (y1 _ _ ho (na a ha)) (na a ha)] at h1
          cases h1
        · rw [List.length_append]
          exact Nat.succ_le_succ hal
    · obtain ⟨x1, sx, acc, av, fa, hDi, ra, na, da, frm, hal, hcc⟩ := p
      rw [List.drop_eq_nil_of_le (Nat.le_refl _)] at hcc
      refine q (.list acc) (.ref Dd) Hn (Dd :: fa) hcc (e1.trans x1) sx ?_ ?_ ⟨fun a ha => ?_, fun z => ?_⟩
      · simp only [Rp]
        exact ⟨Dd, av, fa, rfl, rfl, hDi, ra⟩
      · intro a ha
        rcases List.mem_cons.mp ha with rfl | ha
        · exact hDn
        · exact na a ha
      · rcases List.mem_cons.mp ha with rfl | ha
        · exact .inl (e1.free hD hDn)
        · exact frm.1 a ha
      · exact List.nodup_cons.mpr ⟨da, frm.2 z⟩
end
end Z
set_option Elab.async false
set_option linter.all false
set_option maxRecDepth 100000
set_option maxHeartbeats 2000000
/-! Z3: statements, defs. -/
namespace Z
open PySem L2
section
variable {K : PySem.W.Frag} {S : Option (Addr × Addr)}
theorem Off.refl (W : List Nat) (σ : L2.St) : Off W σ σ := ⟨rfl, fun _ _ => rfl⟩
theorem Off.trans {V W : List Nat} {σ σ1 σ2 : L2.St} (a : Off V σ σ1) (b : Off W σ1 σ2) : Off (V ++ W) σ σ2 := ⟨b.len.trans a.len, fun j hj =>
  (b.off j fun z => hj (List.mem_append_right _ z)).trans (a.off j fun z => hj (List.mem_append_left _ z))⟩
theorem Off.up {V W : List Nat} {σ σ1 : L2.St} (a : Off V σ σ1) (h : ∀ j ∈ V, j ∈ W) : Off W σ σ1 := ⟨a.len, fun j hj => a.off j fun z => hj (h j z)⟩
theorem Off.join {W : List Nat} {σ σ1 σ2 : L2.St} (a : Off W σ σ1) (b : Off W σ1 σ2) : Off W σ σ2 := ⟨b.len.trans a.len, fun j hj => (b.off j hj).trans (a.off j hj)⟩
/-! ### small statements -/
def sNext : DMS := fun ρ R => R.nx ρ
theorem ds_next : DS K S tNext sNext [] := fun G H ρ σ fps E R hm D d => d.nx ρ σ H fps hm E (.refl _ _)
def sBreak : DMS := fun ρ R => R.bk ρ
def sCont : DMS := fun ρ R => R.ct ρ
/-- what comes next, held back until its environment is known -/
def later (b : DMS) (R : DEnds) (_ : Hold R) : En → Prop := fun ρ' => b ρ' R
theorem later_cons (b : DMS) (R : DEnds) (t : Hold R) (s : Sl) (ρ : En) : later b R t (s :: ρ) = b (s :: ρ) R := rfl
def sSeq (a b : DMS) : DMS := fun ρ R => a ρ { R with nx := later b R .mk }
theorem EndsOk.up {G : Hp} {V W : List Nat} {σ : L2.St} {R : DEnds} {D : Ends} (d : EndsOk K S G W σ R D) (h : ∀ j ∈ V, j ∈ W) : EndsOk K S G V σ R D :=
  ⟨fun ρ' σ' H' f a b o => d.nx ρ' σ' H' f a b (o.up h), fun ρ' σ' H' f a b o => d.bk ρ' σ' H' f a b (o.up h), fun ρ' σ' H' f a b o => d.ct ρ' σ' H' f a b (o.up h), d.rt⟩
theorem EndsOk.after {G : Hp} {W : List Nat} {σ σ1 : L2.St} {R : DEnds} {D : Ends} (d : EndsOk K S G W σ R D) (o : Off W σ σ1) : EndsOk K S G W σ1 R D :=
  ⟨fun ρ' σ' H' f a b o' => d.nx ρ' σ' H' f a b (o.join o'), fun ρ' σ' H' f a b o' => d.bk ρ' σ' H' f a b (o.join o'), fun ρ' σ' H' f a b o' => d.ct ρ' σ' H' f a b (o.join o'), d.rt⟩
theorem ds_seq {t u : TS} {m1 m2 : DMS} {V W : List Nat} (h1 : DS K S t m1 V) (h2 : DS K S u m2 W) : DS K S (tSeq t u) (sSeq m1 m2) (V ++ W) := fun G H ρ σ fps E R hm D d => by
  have l : ∀ j ∈ V, j ∈ V ++ W := fun j h => List.mem_append_left _ h
  have r : ∀ j ∈ W, j ∈ V ++ W := fun j h => List.mem_append_right _ h
  exact h1 G H ρ σ fps E _ hm _ ⟨fun ρ1 σ1 H1 f1 hR E1 o1 => h2 G H1 ρ1 σ1 f1 E1 R hR D ((d.after (o1.up l)).up r), (d.up l).bk, (d.up l).ct, d.rt⟩
def sIf (c : DMt) (a b : DMS) : DMS := fun ρ R => c ρ fun k => cond k (a ρ R) (b ρ R)
theorem ds_if {c : TT} {t u : TS} {mc : DMt} {m1 m2 : DMS} {V W : List Nat} (hc : DT K S c mc) (h1 : DS K S t m1 V) (h2 : DS K S u m2 W) : DS K S (tIfS c t u) (sIf mc m1 m2) (V ++ W) := fun G H ρ σ fps E R hm D d =>
  hc G H ρ σ fps E _ hm _ fun b H1 hR e1 s1 => by
    cases b with
    | true => exact iteT (h1 G H1 ρ σ fps (E.step e1 s1) R hR D (d.up fun j h => List.mem_append_left _ h))
    | false => exact iteF (h2 G H1 ρ σ fps (E.step e1 s1) R hR D (d.up fun j h => List.mem_append_right _ h))
def sDrop (m : DM) : DMS := fun ρ R => m ρ fun _ => R.nx ρ
theorem back_none {c : Zc} {G H : Hp} (e : Ext c G H) {a : Addr} (h : H a = none) (n : ¬ c.has a) : G a = none := e.free h n
def sRet (m : DM) : DMS := fun ρ R => m ρ R.rt
theorem ds_ret {te : TE} {m : DM} (h : DE K S te m []) : DS K S (tRet te) (sRet m) [] := fun G H ρ σ fps E R hm D d =>
  h G H ρ σ fps E _ hm _ fun x v H1 fp hR e1 s1 r n f => d.rt x v H1 fp hR (E.ext.trans e1) s1 r n (f.2 rfl) fun a ha => back_none E.ext (f.off a ha) (n a ha)
def sRetV (i : Nat) : DMS := fun ρ R => match ρ[i]? with
  | some (.own d) => R.rt d
  | _ => False
/-- return x, x an own list -/
theorem ds_retV (i : Nat) : DS K S (tRet (tVar i)) (sRetV i) [] := fun G H ρ σ fps E R hm D d => by
  unfold sRetV at hm
  split at hm
  · rename_i x e
    obtain ⟨v, e1, r, n, nd, g⟩ := E.ok i _ e
    exact ⟨v, e1, d.rt x v H _ hm E.ext E.src r n nd g⟩
  · exact hm.elim
def sRetN : DMS := fun ρ R => R.rt .none
/-! ### stores -/
theorem EnvAt.setOwn {c : Zc} {G H : Hp} {ρ : En} {σ : L2.St} {fps : Nat → List Addr} (E : EnvAt c G H ρ σ fps) {d : D} {v : V} {fp : List Addr} (r : Rp c H d v fp) (ns : NoS c fp) (nd : fp.Nodup) (g : ∀ a ∈ fp, G a = none) (i : Nat)
    (sep : ∀ j, j < ρ.length → j ≠ i → ∀ a ∈ fp, a ∉ fps j) : EnvAt c G H (ρ.set i (.own d)) (σ.set i (some v)) (fun j => if j = i then fp else fps j) := by
  refine ⟨by simp [E.len], E.ext, E.src, fun j sl h => ?_, fun j k hne hj hk ho a ha hb => ?_⟩
  · by_cases hji : j = i
    · subst hji
      have hl : j < ρ.length := by
        have := (List.getElem?_eq_some_iff.mp h).1
        simpa using this
      rw [List.getElem?_set_self hl] at h
      cases h
      have hl2 : j < σ.length := by rw [E.len]; exact hl
      rw [List.getElem?_set_self hl2]
      simp only [if_true]
      exact ⟨v, rfl, r, ns, nd, g⟩
    · rw [List.getElem?_set_ne (Ne.symm hji)] at h ⊢
      simp only [if_neg hji]
      exact E.ok j sl h
  · have hj' : j < ρ.length := by simpa using hj
    have hk' : k < ρ.length := by simpa using hk
    by_cases hji : j = i
    · subst hji
      simp only [if_true] at ha
      simp only [if_neg (Ne.symm hne)] at hb
      exact sep k hk' (Ne.symm hne) a ha hb
    · rw [List.getElem?_set_ne (Ne.symm hji)] at ho
      simp only [if_neg hji] at ha
      by_cases hki : k = i
      · simp only [if_pos hki] at hb
        exact sep j hj' hji a hb ha
      · simp only [if_neg hki] at hb
        exact E.sep j k hne hj' hk' ho a ha hb
theorem off_set {i : Nat} {x : Option V} {σ : L2.St} : Off [i] σ (σ.set i x) := ⟨by simp, fun j hj => List.getElem?_set_ne fun e => hj (by simp [e])⟩
def sAsg (i : Nat) (m : DM) : DMS := fun ρ R => m ρ fun d => R.nx (ρ.set i (.own d))
theorem ds_asg (i : Nat) {te : TE} {m : DM} (h : DE K S te m []) : DS K S (tAsg te (gName i)) (sAsg i m) [i] := fun G H ρ σ fps E R hm D d =>
  h G H ρ σ fps E _ hm _ fun x v H1 fp hR e1 s1 r n f => by
    have E1 := E.step e1 s1
    refine d.nx _ _ H1 _ hR (E1.setOwn r n (f.2 rfl) (fun a ha => back_none E.ext (f.off a ha) (n a ha)) i fun j hj _ a ha hb => ?_) off_set
    obtain ⟨o, ho, _⟩ := E.thereAt hj a hb
    rw [f.off a ha] at ho
    cases ho
/-- all of U hold what is only read -/
def valsAt (ρ : En) (U : List Nat) : Prop := ∀ u ∈ U, ¬ isOwn ρ[u]?
def sAsgG (U : List Nat) (m : DM) (mg : DMg) : DMS := fun ρ R => valsAt ρ U ∧ m ρ fun d => mg d ρ R.nx
def sPar (i j : Nat) (ms : DMs) : DMS := fun ρ R => ms ρ fun ds => match ds with
  | [x, y] => R.nx ((ρ.set i (.own x)).set j (.own y))
  | _ => False
/-- an own list or dict, changed -/
theorem EnvAt.change {c : Zc} {G H : Hp} {ρ : En} {σ : L2.St} {fps : Nat → List Addr} (E : EnvAt c G H ρ σ fps) {i : Nat} {d d' : D} {a : Addr} {v : V} {o : HO} {fp' : List Addr} (hi : ρ[i]? = some (.own d)) (hv : σ[i]? = some (some v)) (ha : a ∈ fps i)
    (r : Rp c (upd H a o) d' v fp') (sub : ∀ b ∈ fp', b ∈ fps i ∨ (G b = none ∧ ¬ c.has b ∧ ∀ j, j < ρ.length → b ∉ fps j)) (nd : fp'.Nodup) :
    EnvAt c G (upd H a o) (ρ.set i (.own d')) σ (fun j => if j = i then fp' else fps j) := by
  have hl : i < ρ.length := (List.getElem?_eq_some_iff.mp hi).1
  have oki := E.ok i _ hi
  obtain ⟨v0, e0, r0, n0, nd0, g0⟩ := oki
  have han : ¬ c.has a := n0 a ha
  obtain ⟨o1, ho1, hf1⟩ := E.thereAt hl a ha
  have tk : Tk H (upd H a o) := fun b u hu hf => by
    rw [upd_ne fun z => by rw [z, ho1] at hu; cases hu; exact hf1 hf]
    exact hu
  have isO : isOwn ρ[i]? := by rw [hi]; trivial
  refine ⟨by rw [List.length_set]; exact E.len, fun b u hb hn => ?_, E.src.own han, fun j sl h => ?_, fun j k hne hj hk ho b hb1 hb2 => ?_⟩
  · rw [upd_ne fun z => by rw [z, g0 a ha] at hb; cases hb]
    exact E.ext b u hb hn
  · by_cases hji : j = i
    · subst hji
      rw [List.getElem?_set_self hl] at h
      cases h
      simp only [if_true]
      refine ⟨v, hv, r, fun b hb => ?_, nd, fun b hb => ?_⟩
      · rcases sub b hb with z | z
        · exact n0 b z
        · exact z.2.1
      · rcases sub b hb with z | z
        · exact g0 b z
        · exact z.1
    · rw [List.getElem?_set_ne (Ne.symm hji)] at h
      simp only [if_neg hji]
      have okj := E.ok j sl h
      have hjl : j < ρ.length := (List.getElem?_eq_some_iff.mp h).1
      have keep : ∀ b ∈ fps j, upd H a o b = H b := fun b hb => upd_ne fun z => E.sep i j (Ne.symm hji) hl hjl isO a ha (z ▸ hb)
      cases sl with
      | unk => exact okj
      | val dj => obtain ⟨w, f1, f2, f3⟩ := okj; exact ⟨w, f1, f2.mono tk _ _ _ keep, f3⟩
      | own dj => obtain ⟨w, f1, f2, f3⟩ := okj; exact ⟨w, f1, f2.mono tk _ _ _ keep, f3⟩
  · have hj' : j < ρ.length := by simpa using hj
    have hk' : k < ρ.length := by simpa using hk
    by_cases hji : j = i
    · subst hji
      simp only [if_true] at hb1
      simp only [if_neg (Ne.symm hne)] at hb2
      rcases sub b hb1 with z | z
      · exact E.sep j k hne hj' hk' isO b z hb2
      · exact z.2.2 k hk' hb2
    · rw [List.getElem?_set_ne (Ne.symm hji)] at ho
      simp only [if_neg hji] at hb1
      by_cases hki : k = i
      · simp only [if_pos hki] at hb2
        rcases sub b hb2 with z | z
        · exact E.sep j i hji hj' hl ho b hb1 z
        · exact z.2.2 j hj' hb1
      · simp only [if_neg hki] at hb2
        exact E.sep j k hne hj' hk' ho b hb1 hb2
/-- an own list -/
def ownL (s : Option Sl) (k : List D → Prop) : Prop := match s with
  | some (.own (.list ds)) => k ds
  | _ => False
theorem ownL_ok {s : Option Sl} {k : List D → Prop} (h : ownL s k) : ∃ ds, s = some (.own (.list ds)) ∧ k ds := by
  unfold ownL at h
  split at h
  · exact ⟨_, rfl, h⟩
  · exact h.elim
/-- x.append(e), x an own list -/
def sAppend (i : Nat) (m : DM) : DMS := fun ρ R => ownL ρ[i]? fun ds => m ρ fun y => ds.length < 10000000 ∧ R.nx (ρ.set i (.own (.list (ds ++ [y]))))
theorem ds_append (i : Nat) {te : TE} {m : DM} (h : DE K S te m []) : DS K S (tDrop (tBM K "list" rAppend (tVar i) (tCons te tNil))) (sAppend i m) [i] := fun G H ρ σ fps E R hm D d => by
  · obtain ⟨ds, hi, hm⟩ := ownL_ok hm
    obtain ⟨v, ev, r, n, nd, g⟩ := E.ok i _ hi
    have r' := r
    simp only [Rp] at r'
    obtain ⟨a, xs, gp, rfl, ef, hL, rs⟩ := r'
    refine ⟨.ref a, ev, .inl ⟨rfl, xs, .of hL⟩, h G H ρ σ fps E _ hm _ fun y w H1 fp hR e1 s1 ry ny fy => ?_⟩
    have han : ¬ Zc.has ⟨K, S⟩ a := n a (by rw [ef]; exact List.mem_cons_self ..)
    have hL1 : H1 a = some (.lst xs) := e1 a _ hL han
    have E1 := E.step e1 s1
    refine ⟨a, xs, w, rfl, rfl, hL1, by rw [rs.len]; exact Nat.lt_of_lt_of_le hR.1 (lim_ok (Nat.le_refl _)), ?_⟩
    have gpn : ∀ b ∈ gp, b ∈ fps i := fun b hb => by rw [ef]; exact List.mem_cons_of_mem _ hb
    have ndc : (a :: gp).Nodup := by rw [← ef]; exact nd
    have hag : a ∉ gp := (List.nodup_cons.mp ndc).1
    have hafp : a ∉ fp := fun z => by
      rw [fy.off a z] at hL
      cases hL
    have tk : Tk H1 (upd H1 a (.lst (xs ++ [w]))) := fun b u hu hf => by
      rw [upd_ne fun z => by rw [z, hL1] at hu; cases hu; exact hf]
      exact hu
    have rr : Rp ⟨K, S⟩ (upd H1 a (.lst (xs ++ [w]))) (.list (ds ++ [y])) (.ref a) (a :: (gp ++ fp)) := by
      simp only [Rp]
      refine ⟨a, xs ++ [w], gp ++ fp, rfl, rfl, upd_same, ?_⟩
      refine ((rs.ext (fun b hb => n b (gpn b hb)) e1 E.src).app (.one ry)).mono tk _ _ _ fun b hb => upd_ne fun z => ?_
      rcases List.mem_append.mp hb with z' | z'
      · exact hag (z ▸ z')
      · exact hafp (z ▸ z')
    refine d.nx _ σ _ _ hR.2 (E1.change hi ev (by rw [ef]; exact List.mem_cons_self ..) rr (fun b hb => ?_) ?_) ⟨rfl, fun _ _ => rfl⟩
    · rcases List.mem_cons.mp hb with z | hb
      · rw [z, ef]; exact .inl (List.mem_cons_self ..)
      · rcases List.mem_append.mp hb with z | z
        · exact .inl (gpn b z)
        · refine .inr ⟨back_none E.ext (fy.off b z) (ny b z), ny b z, fun j hj hb' => ?_⟩
          obtain ⟨o, ho, _⟩ := E.thereAt hj b hb'
          rw [fy.off b z] at ho
          cases ho
    · refine List.nodup_cons.mpr ⟨fun z => (List.mem_append.mp z).elim hag hafp, List.nodup_append.mpr ⟨(List.nodup_cons.mp ndc).2, fy.2 rfl, fun b hb b' hb' z => ?_⟩⟩
      subst z
      obtain ⟨o, ho, _⟩ := rs.there _ _ _ b hb
      rw [fy.off b hb'] at ho
      cases ho
end
end Z
set_option Elab.async false
set_option linter.all false
set_option maxRecDepth 100000
set_option maxHeartbeats 2000000
/-! Z4: loops; defs by their promises over data. -/
namespace Z
open PySem L2
section
variable {K : PySem.W.Frag} {S : Option (Addr × Addr)}
/-! ### for -/
/-- the slots outside W are only read -/
def demoteOff (W : List Nat) : Nat → En → En
  | _, [] => []
  | k, s :: ρ => (if W.contains k then s else match s with
    | .own d => .val d
    | s => s) :: demoteOff W (k + 1) ρ
theorem demoteOff_get (W : List Nat) : ∀ (ρ : En) (k j : Nat), (demoteOff W k ρ)[j]? = ρ[j]?.map fun s => if W.contains (k + j) then s else match s with
    | .own d => .val d
    | s => s
  | [], _, _ => by simp [demoteOff]
  | s :: ρ, k, 0 => by simp [demoteOff]
  | s :: ρ, k, j + 1 => by
    unfold demoteOff
    rw [List.getElem?_cons_succ, List.getElem?_cons_succ, demoteOff_get W ρ (k + 1) j, Nat.add_assoc, Nat.add_comm 1 j]
/-- behind a loop: the slots of W as the loop left them, the others as they were -/
def restore (W : List Nat) : Nat → En → En → En
  | k, s :: ρ, t :: τ => (if W.contains k then (match t with
    | .val d => if solid d = true then .val d else .unk
    | t => t) else s) :: restore W (k + 1) ρ τ
  | _, _, _ => []
theorem restore_get (W : List Nat) : ∀ (ρ τ : En) (k j : Nat) (s t : Sl), ρ[j]? = some s → τ[j]? = some t → (restore W k ρ τ)[j]? = some (if W.contains (k + j) then (match t with
    | .val d => if solid d = true then .val d else .unk
    | t => t) else s)
  | [], _, _, _, _, _, h, _ => by simp at h
  | _ :: _, [], _, _, _, _, _, h => by simp at h
  | s0 :: ρ, t0 :: τ, k, 0, s, t, h, h' => by
    cases h; cases h'
    simp [restore]
  | s0 :: ρ, t0 :: τ, k, j + 1, s, t, h, h' => by
    unfold restore
    rw [List.getElem?_cons_succ, restore_get W ρ τ (k + 1) j s t (by simpa using h) (by simpa using h'), Nat.add_assoc, Nat.add_comm 1 j]
theorem restore_len (W : List Nat) : ∀ (ρ τ : En) (k : Nat), ρ.length = τ.length → (restore W k ρ τ).length = ρ.length
  | [], [], _, _ => rfl
  | [], _ :: _, _, h => by simp at h
  | _ :: _, [], _, h => by simp at h
  | s :: ρ, t :: τ, k, h => by
    unfold restore
    rw [List.length_cons, List.length_cons, restore_len W ρ τ (k + 1) (by simpa using h)]
theorem EnvAt.hideF {c : Zc} {G H : Hp} {ρ : En} {σ : L2.St} {fps : Nat → List Addr} (E : EnvAt c G H ρ σ fps) (F : List Nat) : EnvAt c G H (hide F ρ) σ (fun j => if j ∈ F then [] else fps j) := by
  refine ⟨by rw [hide_length]; exact E.len, E.ext, E.src, fun j sl h => ?_, fun j k hne hj hk ho a ha hb => ?_⟩
  · by_cases hj : j ∈ F
    · rw [hide_in hj h]
      simp only [if_pos hj]
      rfl
    · rw [hide_out hj] at h
      simp only [if_neg hj]
      exact E.ok j sl h
  · rw [hide_length] at hj hk
    by_cases h1 : j ∈ F
    · simp only [if_pos h1] at ha
      cases ha
    · by_cases h2 : k ∈ F
      · simp only [if_pos h2] at hb
        cases hb
      · simp only [if_neg h1] at ha
        simp only [if_neg h2] at hb
        rw [hide_out h1] at ho
        exact E.sep j k hne hj hk ho a ha hb
def forD (mg : DMg) (mb : DMS) (F : List Nat) (R : DEnds) : List D → En → Prop
  | [], ρ => R.nx ρ
  | x :: xs, ρ => mg x ρ fun ρ1 => mb ρ1 ⟨fun ρ' => forD mg mb F R xs (hide F ρ'), R.rt, fun ρ' => R.nx (hide F ρ'), fun ρ' => forD mg mb F R xs (hide F ρ')⟩
def sFor (mi : DMs) (mg : DMg) (mb : DMS) (W F : List Nat) : DMS := fun ρ R => mi ρ fun xs => forD mg mb F ⟨fun ρ' => R.nx (restore W 0 ρ ρ'), R.rt, fun _ => False, fun _ => False⟩ xs (hide F (demoteOff W 0 ρ))
open Classical in
/-- all but the own objects of W's slots is held fast -/
noncomputable def pin (c : Zc) (H : Hp) (ρ : En) (fps : Nat → List Addr) (W : List Nat) : Hp := fun a => if (∃ i ∈ W, i < ρ.length ∧ isOwn ρ[i]? ∧ a ∈ fps i) ∨ c.has a then none else H a
theorem pin_some {c : Zc} {H : Hp} {ρ : En} {fps : Nat → List Addr} {W : List Nat} {a : Addr} {o : HO} (h : H a = some o) (hw : ∀ i ∈ W, i < ρ.length → isOwn ρ[i]? → a ∉ fps i) (n : ¬ c.has a) : pin c H ρ fps W a = some o := by
  unfold pin
  rw [if_neg]
  · exact h
  · rintro (⟨i, hi, hl, ho, ha⟩ | z)
    · exact hw i hi hl ho ha
    · exact n z
theorem pin_own {c : Zc} {H : Hp} {ρ : En} {fps : Nat → List Addr} {W : List Nat} {a : Addr} {i : Nat} (hi : i ∈ W) (hl : i < ρ.length) (ho : isOwn ρ[i]?) (ha : a ∈ fps i) : pin c H ρ fps W a = none := by
  unfold pin
  rw [if_pos (.inl ⟨i, hi, hl, ho, ha⟩)]
theorem pin_le {c : Zc} {H : Hp} {ρ : En} {fps : Nat → List Addr} {W : List Nat} : ∀ a o, pin c H ρ fps W a = some o → H a = some o := fun a o h => by
  unfold pin at h
  split at h
  · cases h
  · exact h
theorem EnvAt.enter {c : Zc} {G H : Hp} {ρ : En} {σ : L2.St} {fps : Nat → List Addr} (E : EnvAt c G H ρ σ fps) (W : List Nat) : EnvAt c (pin c H ρ fps W) H (demoteOff W 0 ρ) σ fps := by
  have len : (demoteOff W 0 ρ).length = ρ.length := by
    have h := demoteOff_get W ρ 0
    apply Nat.le_antisymm
    · refine Nat.le_of_not_lt fun z => ?_
      have := h ρ.length
      rw [List.getElem?_eq_getElem z, List.getElem?_eq_none (Nat.le_refl _)] at this
      cases this
    · refine Nat.le_of_not_lt fun z => ?_
      have := h (demoteOff W 0 ρ).length
      rw [List.getElem?_eq_none (Nat.le_refl _), List.getElem?_eq_getElem z] at this
      cases this
  have own : ∀ j, isOwn (demoteOff W 0 ρ)[j]? → isOwn ρ[j]? ∧ j ∈ W := fun j ho => by
    rw [demoteOff_get, Nat.zero_add] at ho
    cases hs : ρ[j]? with
    | none => rw [hs] at ho; exact ho.elim
    | some s =>
      rw [hs] at ho
      by_cases hw : W.contains j = true
      · simp only [Option.map_some, hw, if_true] at ho
        exact ⟨ho, by simpa using hw⟩
      · exfalso
        rw [Option.map_some, if_neg hw] at ho
        cases s <;> exact ho
  refine ⟨by rw [len]; exact E.len, fun a o h _ => pin_le a o h, E.src, fun j sl h => ?_, fun j k hne hj hk ho => ?_⟩
  · rw [demoteOff_get, Nat.zero_add] at h
    cases hs : ρ[j]? with
    | none => rw [hs] at h; cases h
    | some s =>
      rw [hs, Option.map_some] at h
      have ok := E.ok j s hs
      have hl : j < ρ.length := (List.getElem?_eq_some_iff.mp hs).1
      by_cases hw : W.contains j = true
      · rw [if_pos hw] at h
        cases h
        cases sl with
        | unk => exact ok
        | val d => exact ok
        | own d =>
          obtain ⟨v, a1, a2, a3, a4, a5⟩ := ok
          exact ⟨v, a1, a2, a3, a4, fun a ha => pin_own (by simpa using hw) hl (by rw [hs]; trivial) ha⟩
      · rw [if_neg hw] at h
        cases s with
        | unk => cases h; exact ok
        | val d => cases h; exact ok
        | own d => cases h; obtain ⟨v, a1, a2, a3, _⟩ := ok; exact ⟨v, a1, a2, a3⟩
  · rw [len] at hj hk
    exact E.sep j k hne hj hk (own j ho).1
theorem EnvAt.leave {c : Zc} {G H H' : Hp} {ρ ρ' : En} {σ σ' : L2.St} {fps fps' : Nat → List Addr} {W : List Nat} (E : EnvAt c G H ρ σ fps) (E' : EnvAt c (pin c H ρ fps W) H' ρ' σ' fps') (o : Off W σ σ') :
    ∃ fps2, EnvAt c G H' (restore W 0 ρ ρ') σ' fps2 := by
  have hl : ρ.length = ρ'.length := by rw [← E.len, ← E'.len, o.len]
  have gH : ∀ a u, G a = some u → ¬ c.has a → pin c H ρ fps W a = some u := fun a u h n => pin_some (E.ext a u h n) (fun i _ hil ho ha => by
    cases hs : ρ[i]? with
    | none => rw [hs] at ho; exact ho
    | some s =>
      rw [hs] at ho
      cases s with
      | own d =>
        obtain ⟨_, _, _, _, _, g⟩ := E.ok i _ hs
        rw [g a ha] at h
        cases h
      | _ => exact ho) n
  have pinned : ∀ j, j < ρ.length → j ∉ W → ∀ a ∈ fps j, pin c H ρ fps W a = H a := fun j hj hw a ha => by
    obtain ⟨u, hu, _⟩ := E.thereAt hj a ha
    rw [hu]
    exact pin_some hu (fun i hi hil ho hia => E.sep i j (fun z => hw (z ▸ hi)) hil hj ho a hia ha) (E.noS hj a ha)
  have stay : ∀ j, j < ρ.length → j ∉ W → ∀ a ∈ fps j, H' a = H a := fun j hj hw a ha => by
    obtain ⟨u, hu, _⟩ := E.thereAt hj a ha
    rw [hu]
    exact E'.ext a u (by rw [pinned j hj hw a ha]; exact hu) (E.noS hj a ha)
  have tk : Tk H H' := fun a u hu hf => E'.ext a u (pin_some hu (fun i _ hil _ ha => by
    obtain ⟨u', hu', hf'⟩ := E.thereAt hil a ha
    rw [hu] at hu'
    cases hu'
    exact hf' hf) (E.src.not_fix hu hf)) (E.src.not_fix hu hf)
  let fps2 : Nat → List Addr := fun j => if W.contains j then (match ρ'[j]? with
    | some (.own _) => fps' j
    | _ => []) else fps j
  have ownW : ∀ j s, ρ'[j]? = some s → W.contains j = true → ∀ a ∈ fps2 j, isOwn (some s) ∧ a ∈ fps' j := fun j s hs hw a ha => by
    simp only [fps2, hw, if_true, hs] at ha
    cases s with
    | own d => exact ⟨trivial, ha⟩
    | _ => cases ha
  refine ⟨fps2, by rw [restore_len W ρ ρ' 0 hl, hl]; exact E'.len, fun a u h n => E'.ext a u (gH a u h n) n, E'.src, fun j sl h => ?_, fun j k hne hj hk ho a ha hb => ?_⟩
  · have hjl : j < ρ.length := by
      have := (List.getElem?_eq_some_iff.mp h).1
      rw [restore_len W ρ ρ' 0 hl] at this
      exact this
    have e1 := List.getElem?_eq_getElem hjl
    have e2 := List.getElem?_eq_getElem (show j < ρ'.length by rw [← hl]; exact hjl)
    rw [restore_get W ρ ρ' 0 j _ _ e1 e2, Nat.zero_add] at h
    by_cases hw : W.contains j = true
    · rw [if_pos hw] at h
      have ok := E'.ok j _ e2
      cases hs : ρ'[j]'(by rw [← hl]; exact hjl) with
      | unk =>
        rw [hs] at h e2
        cases h
        simp only [fps2, hw, if_true, e2]
        rfl
      | val d =>
        rw [hs] at h e2 ok
        simp only [fps2, hw, if_true, e2]
        obtain ⟨v, a1, a2, a3⟩ := ok
        by_cases hsd : solid d = true
        · simp only [hsd, if_true] at h
          cases h
          have z := a2.solid _ _ _ hsd
          rw [z] at a2 a3
          exact ⟨v, a1, a2, a3⟩
        · simp only [if_neg hsd] at h
          cases h
          rfl
      | own d =>
        rw [hs] at h e2 ok
        cases h
        simp only [fps2, hw, if_true, e2]
        obtain ⟨v, a1, a2, a3, a4, a5⟩ := ok
        refine ⟨v, a1, a2, a3, a4, fun a ha => ?_⟩
        cases hg : G a with
        | none => rfl
        | some u =>
          have := gH a u hg (a3 a ha)
          rw [a5 a ha] at this
          cases this
    · rw [if_neg hw] at h
      cases h
      simp only [fps2, if_neg hw]
      have hjW : j ∉ W := by simpa using hw
      have ok := E.ok j _ e1
      have st := stay j hjl hjW
      rw [o.off j hjW]
      cases hs : ρ[j] with
      | unk => rw [hs] at ok; exact ok
      | val d => rw [hs] at ok; obtain ⟨v, a1, a2, a3⟩ := ok; exact ⟨v, a1, a2.mono tk _ _ _ st, a3⟩
      | own d => rw [hs] at ok; obtain ⟨v, a1, a2, a3⟩ := ok; exact ⟨v, a1, a2.mono tk _ _ _ st, a3⟩
  · rw [restore_len W ρ ρ' 0 hl] at hj hk
    have e1 := List.getElem?_eq_getElem hj
    have e2 := List.getElem?_eq_getElem (show j < ρ'.length by rw [← hl]; exact hj)
    have k1 := List.getElem?_eq_getElem hk
    have k2 := List.getElem?_eq_getElem (show k < ρ'.length by rw [← hl]; exact hk)
    rw [restore_get W ρ ρ' 0 j _ _ e1 e2, Nat.zero_add] at ho
    by_cases hw : W.contains j = true
    · obtain ⟨z1, z2⟩ := ownW j _ e2 hw a ha
      by_cases hwk : W.contains k = true
      · obtain ⟨_, z4⟩ := ownW k _ k2 hwk a hb
        exact E'.sep j k hne (by rw [← hl]; exact hj) (by rw [← hl]; exact hk) (by rw [e2]; exact z1) a z2 z4
      · simp only [fps2, if_neg hwk] at hb
        have hkW : k ∉ W := by simpa using hwk
        have ok := E'.ok j _ e2
        cases hs : ρ'[j]'(by rw [← hl]; exact hj) with
        | own d =>
          rw [hs] at ok
          obtain ⟨_, _, _, _, _, a5⟩ := ok
          have := a5 a z2
          rw [pinned k hk hkW a hb] at this
          obtain ⟨u, hu, _⟩ := E.thereAt hk a hb
          rw [hu] at this
          cases this
        | unk => rw [hs] at z1; exact z1
        | val d => rw [hs] at z1; exact z1
    · simp only [fps2, if_neg hw] at ha
      rw [if_neg hw] at ho
      have hjW : j ∉ W := by simpa using hw
      have hoj : isOwn ρ[j]? := by rw [e1]; exact ho
      by_cases hwk : W.contains k = true
      · obtain ⟨z3, z4⟩ := ownW k _ k2 hwk a hb
        have ok := E'.ok k _ k2
        cases hs : ρ'[k]'(by rw [← hl]; exact hk) with
        | own d =>
          rw [hs] at ok
          obtain ⟨_, _, _, _, _, a5⟩ := ok
          have := a5 a z4
          rw [pinned j hj hjW a ha] at this
          obtain ⟨u, hu, _⟩ := E.thereAt hj a ha
          rw [hu] at this
          cases this
        | unk => rw [hs] at z3; exact z3
        | val d => rw [hs] at z3; exact z3
      · simp only [fps2, if_neg hwk] at hb
        exact E.sep j k hne hj hk hoj a ha hb
theorem ds_for {wi : TI} {g : TG} {tb : TS} {mi : DMs} {mg : DMg} {mb : DMS} {U Wg Wb F : List Nat} {w : Bool} (hi : DI w K S wi mi U) (hg : DG w K S g mg Wg) (hb : DS K S tb mb Wb) (hU : U.all (fun u => !(Wg ++ Wb).contains u) = true) :
    DS K S (tFor wi g tb) (sFor mi mg mb (Wg ++ Wb) F) (Wg ++ Wb) := fun G H ρ σ fps E R hm D d =>
  hi G H ρ σ fps E _ hm _ fun xs J H1 FP hR e1 s1 J1 nF tF fF => by
    have E1 := E.step e1 s1
    have FPin : ∀ a ∈ FP, ∀ i, i ∈ Wg ++ Wb → i < ρ.length → isOwn ρ[i]? → a ∉ fps i := fun a ha i hiW hil ho hia => by
      rcases fF.1 a ha with z | ⟨u, hu, hul, z⟩
      · obtain ⟨o, ho', _⟩ := E.thereAt hil a hia
        rw [z] at ho'
        cases ho'
      · have hx := List.all_eq_true.mp hU u hu
        have hne : i ≠ u := fun q => by
          subst q
          have : (Wg ++ Wb).contains i = true := by simpa using hiW
          rw [this] at hx
          cases hx
        exact E.sep i u hne hil hul ho a hia z
    let Pv : Nat → L2.St → Hp → Prop := fun i σ' H' => ∃ (ρ' : En) (fps' : Nat → List Addr), EnvAt ⟨K, S⟩ (pin ⟨K, S⟩ H1 ρ fps (Wg ++ Wb)) H' ρ' σ' fps' ∧ Off (Wg ++ Wb) σ σ' ∧
      forD mg mb F ⟨fun ρ' => R.nx (restore (Wg ++ Wb) 0 ρ ρ'), R.rt, fun _ => False, fun _ => False⟩ (xs.drop i) ρ'
    have fin : ∀ (ρ' : En) (σ' : L2.St) (H' : Hp) (fps' : Nat → List Addr), R.nx (restore (Wg ++ Wb) 0 ρ ρ') → EnvAt ⟨K, S⟩ (pin ⟨K, S⟩ H1 ρ fps (Wg ++ Wb)) H' ρ' σ' fps' → Off (Wg ++ Wb) σ σ' → D.nx σ' H' := fun ρ' σ' H' fps' hn E' o => by
      obtain ⟨fps2, E2⟩ := E1.leave E' o
      exact d.nx _ σ' H' fps2 hn E2 o
    have rtk : ∀ x v H' fp, R.rt x → Ext ⟨K, S⟩ (pin ⟨K, S⟩ H1 ρ fps (Wg ++ Wb)) H' → SrcAt ⟨K, S⟩ H' → Rp ⟨K, S⟩ H' x v fp → NoS ⟨K, S⟩ fp → fp.Nodup → (∀ a ∈ fp, pin ⟨K, S⟩ H1 ρ fps (Wg ++ Wb) a = none) → D.rt v H' := fun x v H' fp hr xe se r n nd fr => by
      have gp : ∀ a u, G a = some u → ¬ Zc.has ⟨K, S⟩ a → pin ⟨K, S⟩ H1 ρ fps (Wg ++ Wb) a = some u := fun a u h nn => pin_some (E1.ext a u h nn) (fun i _ hil ho ha => by
        cases hs : ρ[i]? with
        | none => rw [hs] at ho; exact ho
        | some s =>
          rw [hs] at ho
          cases s with
          | own d =>
            obtain ⟨_, _, _, _, _, g⟩ := E.ok i _ hs
            rw [g a ha] at h
            cases h
          | _ => exact ho) nn
      refine d.rt x v H' fp hr (fun a u h nn => xe a u (gp a u h nn) nn) se r n nd fun a ha => ?_
      cases hg' : G a with
      | none => rfl
      | some u =>
        have := gp a u hg' (n a ha)
        rw [fr a ha] at this
        cases this
    refine for_it J1 Pv ⟨hide F (demoteOff (Wg ++ Wb) 0 ρ), _, (E1.enter (Wg ++ Wb)).hideF F, .refl _ _, hR⟩ (fun i σ' H' _ p => ?_) (fun i x σ' H' H'' hlt p y => ?_) fun σ' H' p => ?_
    · obtain ⟨ρ', fps', E', o, _⟩ := p
      refine ⟨fun a u hu hf => E'.ext a u (pin_some hu (fun i _ hil _ ha => ?_) (s1.not_fix hu hf)) (s1.not_fix hu hf), fun a ha => ?_, E'.src⟩
      · obtain ⟨u', hu', hf'⟩ := E1.thereAt hil a ha
        rw [hu] at hu'
        cases hu'
        exact hf' hf
      · obtain ⟨u, hu⟩ := tF a ha
        rw [hu]
        exact E'.ext a u (pin_some hu (FPin a ha) (nF a ha)) (nF a ha)
    · obtain ⟨ρ', fps', E', o, hf⟩ := p
      obtain ⟨y1, sy, dd, fp, hd, rd, subd⟩ := y
      have hdrop : xs.drop i = dd :: xs.drop (i + 1) := by
        obtain ⟨hlt', hd'⟩ := List.getElem?_eq_some_iff.mp hd
        rw [← hd']
        exact List.drop_eq_getElem_cons hlt'
      rw [hdrop] at hf
      have E2 := E'.step y1 sy
      refine hg _ H'' ρ' σ' fps' E2 dd x fp rd (fun a ha => nF a (subd a ha)) (fun j hj ho a ha hb' => ?_) _ hf _ fun ρ2 σ2 fps2 hR2 E3 g3 => ?_
      · -- an own slot's objects are not held fast
        cases hs : ρ'[j]? with
        | none => rw [hs] at ho; exact ho
        | some s =>
          rw [hs] at ho
          cases s with
          | own dj =>
            obtain ⟨_, _, _, _, _, g⟩ := E'.ok j _ hs
            obtain ⟨u, hu⟩ := tF a (subd a hb')
            have := pin_some (ρ := ρ) (fps := fps) (W := Wg ++ Wb) hu (FPin a (subd a hb')) (nF a (subd a hb'))
            rw [g a ha] at this
            cases this
          | _ => exact ho
      · have o2 : Off (Wg ++ Wb) σ σ2 := o.join ⟨by rw [E3.len, g3.len, E'.len], fun j hj => (g3.off j fun z => hj (List.mem_append_left _ z)).1⟩
        have step : ∀ (ρ4 : En) (σ4 : L2.St) (H4 : Hp) (fps4 : Nat → List Addr), forD mg mb F ⟨fun ρ' => R.nx (restore (Wg ++ Wb) 0 ρ ρ'), R.rt, fun _ => False, fun _ => False⟩ (xs.drop (i + 1)) (hide F ρ4) →
            EnvAt ⟨K, S⟩ (pin ⟨K, S⟩ H1 ρ fps (Wg ++ Wb)) H4 ρ4 σ4 fps4 → Off Wb σ2 σ4 → Pv (i + 1) σ4 H4 := fun ρ4 σ4 H4 fps4 h4 E4 o4 =>
          ⟨hide F ρ4, _, E4.hideF F, o2.join (o4.up fun j h => List.mem_append_right _ h), h4⟩
        exact hb _ H'' ρ2 σ2 fps2 E3 _ hR2 _ ⟨step, fun ρ4 σ4 H4 fps4 h4 E4 o4 => fin (hide F ρ4) σ4 H4 _ h4 (E4.hideF F) (o2.join (o4.up fun j h => List.mem_append_right _ h)), step, rtk⟩
    · obtain ⟨ρ', fps', E', o, hf⟩ := p
      rw [List.drop_eq_nil_of_le (Nat.le_refl _)] at hf
      exact fin ρ' σ' H' fps' hf E' o
/-! ### while -/
/-- I: what holds ahead of each turn, and a number that falls -/
def sWhile (mc : DMt) (mb : DMS) (F : List Nat) : DMS := fun ρ R => ∃ I : Nat → En → Prop, (∃ m, I m ρ) ∧ ∀ m ρ', I m ρ' → mc ρ' fun b =>
  cond b (mb ρ' ⟨fun ρ2 => ∃ m', m' < m ∧ I m' (hide F ρ2), R.rt, fun ρ2 => R.nx (hide F ρ2), fun ρ2 => ∃ m', m' < m ∧ I m' (hide F ρ2)⟩) (R.nx ρ')
theorem ds_while {c : TT} {tb : TS} {mc : DMt} {mb : DMS} {W F : List Nat} (hc : DT K S c mc) (hb : DS K S tb mb W) : DS K S (tWhile c tb) (sWhile mc mb F) W := fun G H ρ σ fps E R hm D d => by
  obtain ⟨I, ⟨m0, h0⟩, hI⟩ := hm
  refine ⟨fun m σ' H' => ∃ (ρ' : En) (fps' : Nat → List Addr), EnvAt ⟨K, S⟩ G H' ρ' σ' fps' ∧ Off W σ σ' ∧ I m ρ', ⟨m0, ρ, fps, E, .refl _ _, h0⟩, ?_⟩
  rintro m σ' H' ⟨ρ', fps', E', o, hm⟩
  refine hc G H' ρ' σ' fps' E' _ (hI m ρ' hm) _ fun b H1 hb' e1 s1 => ?_
  have E1 := E'.step e1 s1
  cases b with
  | false => exact iteF (d.nx ρ' σ' H1 fps' hb' E1 o)
  | true =>
    refine iteT ⟨fun σ2 H2 => ∃ m', m' < m ∧ ∃ (ρ2 : En) (fps2 : Nat → List Addr), EnvAt ⟨K, S⟩ G H2 ρ2 σ2 fps2 ∧ Off W σ σ2 ∧ I m' ρ2, fun σ2 H2 h => h, ?_⟩
    have step : ∀ (ρ4 : En) (σ4 : L2.St) (H4 : Hp) (fps4 : Nat → List Addr), (∃ m', m' < m ∧ I m' (hide F ρ4)) → EnvAt ⟨K, S⟩ G H4 ρ4 σ4 fps4 → Off W σ' σ4 → ∃ m', m' < m ∧ ∃ (ρ2 : En) (fps2 : Nat → List Addr), EnvAt ⟨K, S⟩ G H4 ρ2 σ4 fps2 ∧ Off W σ σ4 ∧ I m' ρ2 :=
      fun ρ4 σ4 H4 fps4 ⟨m', hlt, hi⟩ E4 o4 => ⟨m', hlt, hide F ρ4, _, E4.hideF F, o.join o4, hi⟩
    exact hb G H1 ρ' σ' fps' E1 _ hb' _ ⟨step, fun ρ4 σ4 H4 fps4 h4 E4 o4 => d.nx _ σ4 H4 _ h4 (E4.hideF F) (o.join o4), step, d.rt⟩
/-! ### defs -/
/-- a promise over data: for the data ds, whatever R holds of all that spec tells, R holds of what is handed back; nothing that stood is changed -/
def spD (K : PySem.W.Frag) (spec : List D → (D → Prop) → Prop) : Sp := fun vs H Q _ => ∃ (S : Option (Addr × Addr)) (ds : List D) (fp : List Addr) (R : D → Prop), Rps ⟨K, S⟩ H ds vs fp ∧ NoS ⟨K, S⟩ fp ∧ SrcAt ⟨K, S⟩ H ∧ spec ds R ∧
  ∀ d v H' gp, R d → Ext ⟨K, S⟩ H H' → SrcAt ⟨K, S⟩ H' → Rp ⟨K, S⟩ H' d v gp → NoS ⟨K, S⟩ gp → gp.Nodup → (∀ a ∈ gp, H a = none) → Q v H'
theorem de_call {spec : List D → (D → Prop) → Prop} {E : XK} {t : TA} {ms : DMs} {U : List Nat} (h : DA K S t ms U) : DE K S (tCall (spD K spec) [] E t) (dCall spec ms) [] := fun G H ρ σ fps En R hm Q q =>
  h G H ρ σ fps En _ hm _ fun ds vs H1 fp hR e1 s1 r n f => by
    rw [List.append_nil]
    exact ⟨S, ds, fp, R, r, n, s1, hR, fun d v H' gp hd e2 s2 r2 n2 nd fr => q d v H' gp hd (e1.trans e2) s2 r2 n2 (.fresh (fun a ha => e1.free (fr a ha) (n2 a ha)) nd)⟩
theorem spD_len {spec : List D → (D → Prop) → Prop} {n : Nat} (hs : ∀ ds R, spec ds R → ds.length = n) : ∀ vs H Q E, spD K spec vs H Q E → vs.length = n := fun vs H Q E h => by
  obtain ⟨S, ds, fp, R, r, _, _, hsp, _⟩ := h
  rw [r.len]
  exact hs ds R hsp
/-- the slots at a def's start -/
def startE (N : List Str) (ds : List D) : En := ds.map Sl.val ++ List.replicate (N.length - ds.length) .unk
theorem envStart {c : Zc} {H : Hp} {ds : List D} {vs : List V} {fp : List Addr} (N : List Str) (r : Rps c H ds vs fp) (n : NoS c fp) (s : SrcAt c H) : ∃ fps, EnvAt c H H (startE N ds) (L2.start N vs) fps := by
  have pick : ∀ i : Nat, ∃ gp : List Addr, ∀ d, ds[i]? = some d → ∃ v, vs[i]? = some v ∧ Rp c H d v gp ∧ NoS c gp := fun i => by
    cases h : ds[i]? with
    | none => exact ⟨[], fun d z => by cases z⟩
    | some d =>
      obtain ⟨x, gp, e1, e2, e3, _⟩ := r.at h
      exact ⟨gp, fun d' z => by cases z; exact ⟨x, e1, e2, fun a ha => n a (e3 a ha)⟩⟩
  refine ⟨fun i => if i < ds.length then Classical.choose (pick i) else [], by simp [startE, L2.start, r.len], Ext.refl _ _, s, fun i sl h => ?_, fun i j _ _ _ ho => ?_⟩
  · unfold startE at h
    by_cases hi : i < ds.length
    · rw [List.getElem?_append_left (by simpa using hi), List.getElem?_map, List.getElem?_eq_getElem hi] at h
      cases h
      simp only [if_pos hi]
      obtain ⟨v, e1, e2, e3⟩ := Classical.choose_spec (pick i) _ (List.getElem?_eq_getElem hi)
      refine ⟨v, ?_, e2, e3⟩
      unfold L2.start
      rw [List.getElem?_append_left (by simp only [List.length_map]; rw [r.len]; exact hi), List.getElem?_map, e1]
      rfl
    · rw [List.getElem?_append_right (by simpa using Nat.le_of_not_lt hi)] at h
      have hx := List.mem_of_getElem? h
      rw [List.eq_of_mem_replicate hx]
      simp only [if_neg hi]
      rfl
  · exfalso
    unfold startE at ho
    by_cases hi : i < ds.length
    · rw [List.getElem?_append_left (by simpa using hi), List.getElem?_map, List.getElem?_eq_getElem hi] at ho
      exact ho
    · rw [List.getElem?_append_right (by simpa using Nat.le_of_not_lt hi)] at ho
      cases hx : (List.replicate (N.length - ds.length) Sl.unk)[i - (ds.map Sl.val).length]? with
      | none => rw [hx] at ho; exact ho
      | some s =>
        have := List.eq_of_mem_replicate (List.mem_of_getElem? hx)
        rw [hx, this] at ho
        exact ho
/-- what a def's body is to give -/
def retE (R : D → Prop) : DEnds := { nx := fun _ => R .none, rt := R }
theorem body_of {X : Cx} {body : List Stmt} {t : TS} {m : Option (Addr × Addr) → DMS} {W : List Nat} {spec : List D → (D → Prop) → Prop} {vs : List V} {H : Hp} {Q : VK} {E : XK} (N : List Str) (hp : PSs X body t) (hs : ∀ S, DS K S t (m S) W) (h : spD K spec vs H Q E)
    (hm : ∀ S ds R, spec ds R → m S (startE N ds) (retE R)) : ∃ t, PSs X body t ∧ t { nx := fun _ H' => Q .non H', rt := Q } (L2.start N vs) H := by
  obtain ⟨S, ds, fp, R, r, n, s, hsp, q⟩ := h
  obtain ⟨fps, E0⟩ := envStart N r n s
  refine ⟨t, hp, hs S H H _ _ fps E0 _ (hm S ds R hsp) _ ⟨fun ρ' σ' H' f hn E' _ => q .none .non H' [] hn E'.ext E'.src (non_rp H') .nil List.nodup_nil (fun a h => nomatch h), fun _ _ _ _ h => False.elim h, fun _ _ _ _ h => False.elim h, fun d v H' gp hd e s' r' n' nd fr => q d v H' gp hd e s' r' n' nd fr⟩⟩
end
end Z
set_option Elab.async false
set_option linter.all false
set_option maxRecDepth 100000
set_option maxHeartbeats 4000000
/-! Z5: rules by values: enumerate of tuples, == of data, repr of data. -/
set_option Elab.async false
set_option linter.all false
set_option maxRecDepth 100000
set_option maxHeartbeats 4000000
/-! Z6: promises where no repr is running around (for repr); the end. -/
namespace Z
open PySem PySem.Spec PyProof.Rows L2
/-- a def's promise, called where no repr runs -/
structure FnG (P : Program) (w : World) (K : PySem.W.Frag) (mg : Str → Option Value) (base : Heap) (k : Nat) (f : Addr) (fd : FuncData) (ps : List Str) (sp : Sp) : Prop where
  len : ∀ vs H Q E, sp vs H Q E → vs.length = ps.length
  run : ∀ (A : Around) (outer : List Env) (s : Shared) (H : Hp) (args : Args) (us : List Value) (vs : List V) (Q : VK) (E : XK), Room k A → A.guards = some [] → Env0 P w K mg base A outer s H → BindsTo s fd args (ps.zip us) → Vals vs us → sp vs H Q E →
    codeAny (model P w) A (.call (.ref f) args) (CR CX0 outer P w H s Q E) s
theorem FnG.mono {P : Program} {w : World} {K : PySem.W.Frag} {mg : Str → Option Value} {base : Heap} {j k : Nat} {f : Addr} {fd : FuncData} {ps : List Str} {sp : Sp} (F : FnG P w K mg base j f fd ps sp) (h : j ≤ k) : FnG P w K mg base k f fd ps sp :=
  ⟨F.len, fun A outer s H args us vs Q E r => F.run A outer s H args us vs Q E (r.mono h)⟩
/-- a name of the module that holds a def with a promise over data -/
structure FnAt (P : Program) (w : World) (K : PySem.W.Frag) (mg : Str → Option Value) (base : Heap) (x : Str) (k : Nat) (n : Nat) (sp : Sp) : Prop where
  ex : ∃ (f : Addr) (fd : FuncData) (ps : List Str), ps.length = n ∧ mg x = some (.ref f) ∧ PySem.W.keepIn K (.ref f) = true ∧ Binds K fd ps [] ∧ FnG P w K mg base k f fd ps sp
section
variable {X : Cx} {k n : Nat} {sp : Sp} {x : Str} {p pos : Pos} {e : Expr} {es : List Expr} {t : TA}
theorem pe_callG (F : FnAt X.prog X.w X.K X.mg X.base x k n sp) (hr : Room k X.A) (hgd : X.A.guards = some []) (hg : Gl X x) (ha : PA X (e :: es) t) (hdb : (x == ("__debug__" : Str)) = false := by decide)
    (he : starEach (e :: es) X.env = (false, eval e X.env) :: starEach es X.env := by rfl) (hpl : (backTo pos (starEach es X.env)).any (·.1) = false := by rfl) : PE X (.Call (.Name x p) (e :: es) [] pos) (tCall sp [] E0 t) := ⟨fun pins s σ H Q I h => by
  obtain ⟨f, fd, ps, _, hm, hk, hb, G⟩ := F.ex
  refine wpAny_Call_Name_kw (ld_glob I hg hm ?_ hdb)
  refine PySem.W.callWith_K (h₀ := X.base) I.ok.mod.kin hk (thn (ha.run pos pins s σ H _ I h) fun us s1 ⟨vs, H1, I1, r, q⟩ => ⟨I1.kIn, ?_⟩) he hpl
  have q : sp vs H1 Q E0 := by
    have q0 : sp (vs ++ []) H1 Q E0 := q
    rwa [List.append_nil] at q0
  have hl : (us ++ []).length = ps.length := by rw [List.append_nil, ← r.length]; exact G.len _ _ _ _ q
  have hb' := hb s1 us I1.kIn hl
  rw [List.append_nil] at hb'
  refine wpAny_call (codeAny_mono (G.run X.A X.stack s1 H1 ⟨us, []⟩ us vs Q E0 hr hgd I1.env0 hb' r q) fun r' s' hq => ?_)
  cases r' with
  | error e => exact False.elim hq
  | ok fl =>
    cases fl with
    | ret u => exact I1.after hq
    | next => exact False.elim hq
    | brk => exact False.elim hq
    | cont => exact False.elim hq⟩
end
section
variable {P : Program} {w : World} {K : PySem.W.Frag} {mg : Str → Option Value} {base : Heap}
/-- a def of the text: its body's reading keeps the promise -/
theorem fnG_of {x qual : Str} {st : Stmt} {f : Addr} {fd : FuncData} {N ps : List Str} {k : Nat} {sp : Sp} (F : Fun K x qual st f fd) (S : FnScope N ps (defScope st)) (len : ∀ vs H Q E, sp vs H Q E → vs.length = ps.length)
    (hbody : ∀ (cdv : Value) (A : Around) (outer : List Env) (s : Shared) (H : Hp) (vs : List V) (Q : VK) (E : XK), Room k (A.deeper (envOfC qual (defScope st) s.heap.objs.size f cdv)) → A.guards = some [] → sp vs H Q E →
      ∃ t, PSs (cxOf CX0 P w K mg base N qual (defScope st) f cdv A outer s H E).nox (defBody st) t ∧ t { nx := fun _ H' => Q .non H', rt := Q } (L2.start N vs) H) : FnG P w K mg base (k + 1) f fd ps sp := by
  obtain ⟨oc, od, kV, doc, pm, an, cdv, ct, osl, rfl, lk, hcd⟩ := F.ex
  refine ⟨len, fun A outer s H args us vs Q E hr hgd e0 hb r hsp => ?_⟩
  have hl := len _ _ _ _ hsp
  have kept : ∀ b o, base.get? b = some o → s.heap.get? b = some o := fun b o e => (e0.bs b o e).1
  have KX : K.In s.heap := e0.mod.kin.keeps kept
  have lim : s.heap.NoLimit := e0.mod.nolimit.keeps kept
  have kinds : ∀ y ∈ ps.zip us, (defScope st).names.lookup y.1 = some .local ∨ ((defScope st).names.lookup y.1 = some .cell ∧ ((cellsFrom (s.heap.objs.size + 1) (defScope st).names []).lookup y.1).isSome = true) := fun y hy =>
    (S.par y.1 (List.of_mem_zip (a := y.1) (b := y.2) hy).1).imp id fun q => ⟨q, PySem.W.cellsFrom_some _ _ _ (.inl q)⟩
  refine codeAny_call_function hr.depth (KX _ _ lk) rfl S.co S.gen rfl (PySem.W.codeRec_of KX hcd) (hb _ _ _ _ (wpAny_newFunctionEnv_cells S.kind kinds fun env he s1 nw => ?_))
  subst he
  refine ⟨lim.keeps nw.toInCall.keep, codeAny_func ?_⟩
  obtain ⟨t, ht, hq⟩ := hbody cdv A outer s H vs Q E (hr.deeper _) hgd hsp
  have I := inv_start (P := P) (w := w) (CX := CX0) (E := E) S hr.hd e0 hl r nw
  refine wpAny_mono (ht.nox.run [] s1 (L2.start N vs) H _ I hq) (fun fl s' hs => ?_) fun e s' hs => hs
  cases fl with
  | ret u =>
    obtain ⟨v, σ', H', J, rv, q⟩ := hs
    exact ⟨v, H', J.os, J.bare, J.base, J.hok, rv, q⟩
  | next =>
    obtain ⟨σ', H', J, q⟩ := hs
    exact ⟨.non, H', J.os, J.bare, J.base, J.hok, rfl, q⟩
  | brk =>
    obtain ⟨_, _, _, q⟩ := hs
    exact False.elim q
  | cont =>
    obtain ⟨_, _, _, q⟩ := hs
    exact False.elim q
theorem fnAt_of {x : Str} {st : Stmt} {f : Addr} {fd : FuncData} {ps : List Str} {k n : Nat} {sp : Sp} (hm : mg x = some (.ref f)) (F : Fun K x x st f fd) (hn : ps.length = n) (hb : Binds K fd ps []) (G : FnG P w K mg base k f fd ps sp) : FnAt P w K mg base x k n sp :=
  ⟨f, fd, ps, hn, hm, F.kp, hb, G⟩
/-! ### the law's own call -/
theorem lawG {k : Nat} {mb : Str → Option Value} {fa a : Addr} {fd : FuncData} {x : Str} {sp : Sp} {s1 : Shared} {vs : List Value} {ns : List Int}
    (KX : K.In s1.heap) (hns : s1.heap.Ns mainGlobals mg) (hb : s1.heap.Ns builtinsNs mb) (hbb : ∀ x : Str, x ≠ "__name__" → mb x = bootBuiltins x) (hlim : s1.heap.NoLimit) (hg : s1.gens = #[])
    (ha : s1.heap.get? a = some { cls := .type "list", data := .seq vs.toArray }) (hi : PyProof.Rows.IntsAre vs ns) (hl : ns.length ≤ sizeLine) (hr : Room k callerA)
    (F : ∀ base : Heap, K.In base → base.Ns mainGlobals mg → FnG P w K mg base k fa fd [x] sp) (hbind : ∀ (s : Shared) (u : Value), BindsTo s fd ⟨[u], []⟩ [(x, u)])
    (hsp : ∀ H : Hp, Only H → SqL K H a (ns.map V.int) → sp [.ref a] H (fun v _ => v = .bl true) fun _ _ _ => False) :
    codeAny (model P w) callerA (.call (.ref fa) ⟨[.ref a], []⟩) (fun r s' => r = .ok (.ret (.bool true)) ∧ OldK s1.heap s'.heap ∧ s'.os = s1.os ∧ AllBare s'.gens) s1 := by
  have rv := vals_ints hi
  have hlen := hi.length
  have core : ∀ H : Hp, Only H → SqL K H a (ns.map V.int) → HOk P w H s1.heap → (∀ b, H b ≠ none → b = a) → (H a ≠ none → K.lookup a = none) →
      codeAny (model P w) callerA (.call (.ref fa) ⟨[.ref a], []⟩) (fun r s' => r = .ok (.ret (.bool true)) ∧ OldK s1.heap s'.heap ∧ s'.os = s1.os ∧ AllBare s'.gens) s1 := by
    intro H hO hS hok hA hK
    have away : ∀ b : Addr, (∀ o, s1.heap.get? b = some o → b = a → False) → (∃ o, s1.heap.get? b = some o) → H b = none := fun b hne ⟨o, ho⟩ => by
      cases q : H b with
      | none => rfl
      | some u => exact (hne o ho (hA b (by rw [q]; exact fun z => nomatch z))).elim
    have dicts : ∀ {b : Addr} {m : Str → Option Value}, s1.heap.Ns b m → (hidT s1.heap H).Ns b m := fun {b m} ⟨o, es, ep, e, d, r⟩ => ⟨o, es, ep, hidT_get e (away b (fun o' h' hba => by
      subst hba
      rw [e] at h'
      cases h'
      rw [ha] at e
      cases e
      exact nomatch (show Data.seq vs.toArray _ = Data.dict es ep from d)) ⟨o, e⟩), d, r⟩
    have hKb : K.In (hidT s1.heap H) := fun b o e => hidT_get (KX b o e) (by
      cases q : H b with
      | none => rfl
      | some u =>
        have hba : b = a := hA b (by rw [q]; exact fun z => nomatch z)
        subst hba
        rw [hK (by rw [q]; exact fun z => nomatch z)] at e
        cases e)
    obtain ⟨mc, n1, n2⟩ := hlim
    have hM : Mod K mg (hidT s1.heap H) := ⟨hKb, dicts hns, ⟨mb, dicts hb, hbb⟩, mc, dicts n1, n2⟩
    have e0 : Env0 P w K mg (hidT s1.heap H) callerA [] s1 H := ⟨rfl, hM, fun b o e => of_hidT e, Nat.le_of_eq (hidT_size _ _), trivial, (fun b hb => nomatch (show b ∈ ([] : List Addr) from hb)), hok, .of_eq hg⟩
    refine codeAny_mono ((F _ hKb (dicts hns)).run callerA [] s1 H ⟨[.ref a], []⟩ [.ref a] [.ref a] _ _ hr rfl e0 (hbind s1 (.ref a)) (.cons rfl .nil) (hsp H hO hS)) fun r s' h => ?_
    cases r with
    | error e => exact False.elim h
    | ok fl =>
      cases fl with
      | next => exact False.elim h
      | brk => exact False.elim h
      | cont => exact False.elim h
      | ret u =>
        obtain ⟨v, H', os, bare, un, hok', r', q⟩ := h
        obtain rfl : v = .bl true := q
        obtain rfl : u = Value.bool true := r'
        refine ⟨rfl, OldK.of_keep fun b o e => ?_, os, bare⟩
        cases q : H b with
        | none => exact un.keep b o e q (fun z => nomatch (show b ∈ ([] : List Addr) from z)) (fun z => nomatch z)
        | some u =>
          rcases hO b with z | ⟨ob, xs, z⟩
          · rw [q] at z; cases z
          · obtain ⟨e1, _⟩ := hok b _ z
            obtain ⟨e2, _⟩ := hok' b _ (un.frzs b ob _ z)
            rw [e] at e1
            cases e1
            exact e2
  cases hk : K.lookup a with
  | some o =>
    have e := KX a o hk
    rw [ha] at e
    cases e
    exact core (fun _ => none) (fun _ => .inl rfl) (.inr ⟨_, vs.toArray, _, hk, rfl, rfl, rfl, by rw [List.size_toArray, hlen]; exact hl, by simpa using rv⟩) (fun b u z => nomatch (show (none : Option HO) = some u from z)) (fun b z => absurd rfl z) fun z => absurd rfl z
  | none =>
    refine core (fun b => if b = a then some (.frz { cls := .type "list", data := .seq vs.toArray } (.lst (ns.map V.int))) else none) (fun b => ?_) (.inl (.inr ⟨_, if_pos rfl⟩)) (fun b u z => ?_) (fun b z => ?_) fun _ => hk
    · by_cases hb : b = a
      · exact .inr ⟨_, _, if_pos hb⟩
      · exact .inl (if_neg hb)
    · by_cases hb : b = a
      · cases (if_pos hb).symm.trans z
        subst hb
        exact ⟨ha, by rw [List.length_map]; exact hl, vs, _, rv, ha⟩
      · cases (if_neg hb).symm.trans z
    · by_cases hb : b = a
      · exact hb
      · exact absurd (if_neg hb) z
end
theorem walkG {l : PySem.W.OpenLaw} {n k : Nat} {q : Program} {loose : List Str} {XP : (Str → Option Value) → Heap → Prop} {YP : World → Heap → Prop} {d : DefRec} {K : Params → PySem.W.Frag} {sp : PySem.W.Frag → Sp} {x : Str}
    (hn : l.most = some n) (hn2 : n ≤ sizeLine) (hdf : d.params.defaults = []) (hr : Room k callerA) (hY : ∀ (w : World) (h : Heap), YP w h → (K w.params).In h)
    (F : ∀ (w : World) (mg : Str → Option Value) (fa : Addr) (h : Heap), (K w.params).In h → h.Ns mainGlobals mg → mg d.name = some (.ref fa) →
      ∃ fd : FuncData, (∀ (s : Shared) (u : Value), BindsTo s fd ⟨[u], []⟩ [(x, u)]) ∧ ∀ base : Heap, (K w.params).In base → base.Ns mainGlobals mg → FnG l.prog w (K w.params) mg base k fa fd [x] (sp (K w.params)))
    (hsp : ∀ (K : PySem.W.Frag) (H : Hp) (a : Addr) (ns : List Int), ns.length ≤ n → Only H → SqL K H a (ns.map V.int) → sp K [.ref a] H (fun v _ => v = .bl true) fun _ _ _ => False) :
    PySem.W.WalkO q loose XP YP l.row.toRowW d [] (fun f vs => PySem.call f vs) :=
  Att.attach_call hn hdf fun w s0 s1 mg mb fa o pm cd doc a vs ns G Y ho hd hcd hmg hobj hints hlen hg => by
    obtain ⟨fd, hb, hF⟩ := F w mg fa _ (hY w _ Y) G.T.g hmg
    exact lawG (hY w _ Y) G.T.g G.T.b G.T.builtins G.T.nolimit hg hobj hints (Nat.le_trans hlen hn2) hr hF hb fun H hO hS => hsp (K w.params) H a ns hlen hO hS
end Z
set_option Elab.async false
set_option linter.all false
set_option maxRecDepth 100000
set_option maxHeartbeats 4000000
/-! Z7: rules over data: ==, repr, index, sum, len, tuple, int, repeat, enumerate. -/
namespace Z
open PySem PySem.Spec PyProof.Rows L2
/-! ### a value that stands for plain data, as the layer's Dp -/
section
variable {c : Zc} {H : Hp}
mutual
theorem Rp.dp : ∀ (d : D) (v : V) (fp : List Addr), Rp c H d v fp → d.plain = true → Dp c.K H v d
  | .none, v, fp, h, _ => by simp only [Rp] at h; rw [h.1]; exact .non
  | .bool b, v, fp, h, _ => by simp only [Rp] at h; rw [h.1]; exact .bl b
  | .int i, v, fp, h, _ => by simp only [Rp] at h; rw [h.1]; exact .int i
  | .str x, v, fp, h, _ => by simp only [Rp] at h; rw [h.1]; exact .str x
  | .list ds, v, fp, h, p => by
    simp only [Rp] at h
    obtain ⟨a, xs, gp, rfl, rfl, h1, h2⟩ := h
    exact .lst (.of h1) (Rps.dp ds xs gp h2 (by simpa only [PyData.plain] using p))
  | .tuple ds, v, fp, h, p => by
    simp only [Rp] at h
    obtain ⟨a, xs, rfl, h1, h2⟩ := h
    exact .tup h1.t (Rps.dp ds xs fp h2 (by simpa only [PyData.plain] using p))
  | .dict kvs, v, fp, h, p => by simp [PyData.plain] at p
theorem Rps.dp : ∀ (ds : List D) (xs : List V) (fp : List Addr), Rps c H ds xs fp → PyData.plainAll ds = true → DpAll c.K H xs ds
  | [], xs, fp, h, _ => by simp only [Rps] at h; rw [h.1]; exact .nil
  | d :: ds, xs, fp, h, p => by
    simp only [Rps] at h
    simp only [PyData.plainAll, Bool.and_eq_true] at p
    obtain ⟨x, ys, f1, f2, rfl, rfl, h1, h2⟩ := h
    exact .cons (Rp.dp d x f1 h1 p.1) (Rps.dp ds ys f2 h2 p.2)
end
end
/-! ### == and != -/
def rEqZ (K : PySem.W.Frag) (neg : Bool) : R2 := fun x y H Q => ∃ d e, Dp K H x d ∧ Dp K H y e ∧ d.plain = true ∧ e.plain = true ∧ min d.depth e.depth ≤ 60 ∧ Q (.bl (if neg then !PyData.eqv d e else PyData.eqv d e)) H
section
variable {X : Cx}
theorem op_eqZ (hu : X.A.units + 64 < cLine) : OpR X (compareOp .Eq) (rEqZ X.K false) := fun pins s σ H x y v u Q I rx ry h => by
  obtain ⟨d, e, hd, he, pd, pe, hz, q⟩ := h
  obtain ⟨as, r1⟩ := Dp.reads I d x v hd rx
  obtain ⟨bs, r2⟩ := Dp.reads I e y u he ry
  exact SeqAt.eq_plain r1 r2 pd pe (by omega) ⟨.bl _, H, I, rfl, q⟩
theorem op_neZ (hu : X.A.units + 64 < cLine) : OpR X (compareOp .NotEq) (rEqZ X.K true) := fun pins s σ H x y v u Q I rx ry h => by
  obtain ⟨d, e, hd, he, pd, pe, hz, q⟩ := h
  obtain ⟨as, r1⟩ := Dp.reads I d x v hd rx
  obtain ⟨bs, r2⟩ := Dp.reads I e y u he ry
  exact SeqAt.ne_plain r1 r2 pd pe (by omega) ⟨.bl _, H, I, rfl, q⟩
end
/-! ### how great a datum is -/
/-- plain, at most k deep, shown by at most w signs -/
structure Ok (k w : Nat) (d : D) : Prop where
  plain : d.plain = true
  depth : d.depth ≤ k
  show' : d.showable = true
  len : d.shown.length ≤ w
theorem Ok.mono {k w k' w' : Nat} {d : D} (h : Ok k w d) (a : k ≤ k') (b : w ≤ w') : Ok k' w' d := ⟨h.plain, Nat.le_trans h.depth a, h.show', Nat.le_trans h.len b⟩
theorem Ok.int {i : Int} (h : i.natAbs < 10 ^ 12) : Ok 0 13 (.int i) := ⟨by simp [PyData.plain, PyData.canLay0], by simp [PyData.depth], by
    simp only [PyData.showable, decide_eq_true_eq]
    exact log2_small (Nat.lt_of_lt_of_le h (by decide)), PyData.shown_int_le h⟩
theorem Ok.bool {b : Bool} : Ok 0 5 (.bool b) := by
  cases b <;> exact ⟨by decide, by decide, by decide, by decide⟩
theorem Ok.none : Ok 0 4 .none := ⟨by decide, by decide, by decide, by decide⟩
theorem plainAll_of : ∀ {ds : List D}, (∀ d ∈ ds, d.plain = true) → PyData.plainAll ds = true
  | [], _ => by simp [PyData.plainAll]
  | d :: ds, h => by
    simp only [PyData.plainAll, Bool.and_eq_true]
    exact ⟨h d (List.mem_cons_self ..), plainAll_of fun e he => h e (List.mem_cons_of_mem _ he)⟩
theorem depthAll_of {k : Nat} : ∀ {ds : List D}, (∀ d ∈ ds, d.depth ≤ k) → PyData.depthAll ds ≤ k
  | [], _ => by simp [PyData.depthAll]
  | d :: ds, h => by
    simp only [PyData.depthAll]
    exact Nat.max_le.mpr ⟨h d (List.mem_cons_self ..), depthAll_of fun e he => h e (List.mem_cons_of_mem _ he)⟩
theorem showableAll_of : ∀ {ds : List D}, (∀ d ∈ ds, d.showable = true) → PyData.showableAll ds = true
  | [], _ => by simp [PyData.showableAll]
  | d :: ds, h => by
    simp only [PyData.showableAll, Bool.and_eq_true]
    exact ⟨h d (List.mem_cons_self ..), showableAll_of fun e he => h e (List.mem_cons_of_mem _ he)⟩
theorem shownAll_map : ∀ ds : List D, PyData.shownAll ds = ds.map PyData.shown
  | [] => by simp [PyData.shownAll]
  | d :: ds => by simp only [PyData.shownAll, List.map_cons, shownAll_map ds]
theorem sum_le {w : Nat} : ∀ {ds : List D}, (∀ d ∈ ds, d.shown.length ≤ w) → ((PyData.shownAll ds).map (·.length)).sum ≤ ds.length * w
  | [], _ => by simp [PyData.shownAll]
  | d :: ds, h => by
    have h1 := h d (List.mem_cons_self ..)
    have h2 := sum_le fun e he => h e (List.mem_cons_of_mem _ he)
    simp only [PyData.shownAll, List.map_cons, List.sum_cons, List.length_cons, Nat.succ_mul]
    omega
theorem Ok.tuple {k w n : Nat} {ds : List D} (h : ∀ d ∈ ds, Ok k w d) (hn : ds.length ≤ n) : Ok (k + 1) (n * (w + 2) + 3) (.tuple ds) := by
  refine ⟨?_, ?_, ?_, ?_⟩
  · simp only [PyData.plain]; exact plainAll_of fun d hd => (h d hd).plain
  · simp only [PyData.depth]
    have := depthAll_of fun d hd => (h d hd).depth
    omega
  · simp only [PyData.showable]; exact showableAll_of fun d hd => (h d hd).show'
  · have h1 := tupleText_len_le (PyData.shownAll ds)
    have h2 := sum_le fun d hd => (h d hd).len
    have h3 : (PyData.shownAll ds).length = ds.length := by rw [shownAll_map, List.length_map]
    have h4 : ds.length * w ≤ n * w := Nat.mul_le_mul_right _ hn
    simp only [PyData.shown]
    rw [Nat.mul_add]
    omega
theorem Ok.list {k w n : Nat} {ds : List D} (h : ∀ d ∈ ds, Ok k w d) (hn : ds.length ≤ n) : Ok (k + 1) (n * (w + 2) + 3) (.list ds) := by
  refine ⟨?_, ?_, ?_, ?_⟩
  · simp only [PyData.plain]; exact plainAll_of fun d hd => (h d hd).plain
  · simp only [PyData.depth]
    have := depthAll_of fun d hd => (h d hd).depth
    omega
  · simp only [PyData.showable]; exact showableAll_of fun d hd => (h d hd).show'
  · have h1 := listText_len_le (PyData.shownAll ds)
    have h2 := sum_le fun d hd => (h d hd).len
    have h3 : (PyData.shownAll ds).length = ds.length := by rw [shownAll_map, List.length_map]
    have h4 : ds.length * w ≤ n * w := Nat.mul_le_mul_right _ hn
    simp only [PyData.shown]
    rw [Nat.mul_add]
    omega
/-! ### repr -/
def rRepr (K : PySem.W.Frag) : List V → Hp → VK → Prop := fun vs H Q => ∃ x d, vs = [x] ∧ Dp K H x d ∧ Ok 40 10000000 d ∧ Q (.str d.shown) H
theorem hasDict_plain : ∀ d : D, d.plain = true → d.hasDict = false := by
  have all : ∀ n : Nat, (∀ d : D, sizeOf d ≤ n → d.plain = true → d.hasDict = false) := by
    intro n
    induction n with
    | zero => intro d hd; cases d <;> simp at hd <;> omega
    | succ n ih =>
      have lst : ∀ xs : List D, sizeOf xs ≤ n → PyData.plainAll xs = true → PyData.hasDictAll xs = false := by
        intro xs
        induction xs with
        | nil => intro _ _; simp [PyData.hasDictAll]
        | cons x xs ihx =>
          intro hs hp
          simp only [List.cons.sizeOf_spec] at hs
          simp only [PyData.plainAll, Bool.and_eq_true] at hp
          simp only [PyData.hasDictAll, ih x (by omega) hp.1, ihx (by omega) hp.2, Bool.or_self]
      intro d hd hp
      cases d with
      | none => simp [PyData.hasDict]
      | bool b => simp [PyData.hasDict]
      | int i => simp [PyData.hasDict]
      | str x => simp [PyData.hasDict]
      | list xs =>
        simp only [PyData.list.sizeOf_spec] at hd
        simp only [PyData.hasDict]
        exact lst xs (by omega) (by simpa only [PyData.plain] using hp)
      | tuple xs =>
        simp only [PyData.tuple.sizeOf_spec] at hd
        simp only [PyData.hasDict]
        exact lst xs (by omega) (by simpa only [PyData.plain] using hp)
      | dict kvs => simp [PyData.plain] at hp
  exact fun d => all (sizeOf d) d (Nat.le_refl _)
theorem cr_repr {X : Cx} (hg : X.A.guards = some []) (hu : X.A.units + 64 < cLine) : CallR X (.builtin "repr") (rRepr X.K) := fun pins s σ H vs us Q I r h => by
  obtain ⟨x, d, rfl, hd, ok, q⟩ := h
  obtain ⟨u, rfl, ru⟩ := vals1 r
  have sz := lim_ok ok.len
  cases hd with
  | non => cases ru; exact P.repr_of_none ⟨.str _, H, I.tok _, ⟨_, rfl⟩, by simpa only [PyData.shown] using q⟩
  | bl b => cases ru; exact P.repr_of_bool ⟨.str _, H, I.tok _, ⟨_, rfl⟩, by simpa only [PyData.shown] using q⟩
  | int i =>
    obtain ⟨t, rfl⟩ := ru
    have hs := ok.show'
    simp only [PyData.showable, decide_eq_true_eq] at hs
    exact P.repr_of_int hs ⟨.str _, H, I.tok _, ⟨_, rfl⟩, by simpa only [PyData.shown] using q⟩
  | str z =>
    obtain ⟨t, rfl⟩ := ru
    exact P.repr_of_str ⟨.str _, H, I.tok _, ⟨_, rfl⟩, by simpa only [PyData.shown] using q⟩ (by simpa only [PyData.shown] using sz)
  | @lst a xs ds hs ha =>
    obtain ⟨as, rr⟩ := Dp.reads I _ _ _ (.lst hs ha) ru
    cases ru
    exact repr_of_reads' rr ok.show' (fun z => by rw [hasDict_plain _ ok.plain] at z; cases z) hg (by have := ok.depth; omega) (fun _ _ e => e) (fun h' u tk hk => ⟨.str _, H, I.kept hk, ⟨_, rfl⟩, q⟩) sz
  | @tup a xs ds hs ha =>
    obtain ⟨as, rr⟩ := Dp.reads I _ _ _ (.tup hs ha) ru
    cases ru
    exact repr_of_reads' rr ok.show' (fun z => by rw [hasDict_plain _ ok.plain] at z; cases z) hg (by have := ok.depth; omega) (fun _ _ e => e) (fun h' u tk hk => ⟨.str _, H, I.kept hk, ⟨_, rfl⟩, q⟩) sz
/-- tuple(list): a known object; tuple(tuple) -/
def rTupF (K : PySem.W.Frag) : List V → Hp → VK → Prop := fun xs H Q => ∃ p ys, xs = [.ref p] ∧ ((SqL K H p ys ∧ ∀ l o, H l = none → o.dict = none → Q (.ref l) (upd H l (.frz o (.tup ys)))) ∨ (SqT K H p ys ∧ Q (.ref p) H))
theorem call_tupF {X : Cx} : CallR X (.type "tuple") (rTupF X.K) := fun pins s σ H vs us Q I r h => by
  obtain ⟨p, ys, rfl, h⟩ := h
  obtain ⟨u, rfl, rx⟩ := vals1 r
  rcases h with ⟨hl, q⟩ | ⟨ht, q⟩
  · cases rx
    obtain ⟨its, rv, pl, hz⟩ := I.list hl
    refine call_tuple_list pl.isList (fun h' kp => ?_) (by rw [List.size_toArray, ← rv.length]; exact hz)
    have J : Inv X pins σ H { s with heap := h' } := I.kept (t' := s.toks) kp
    have e := Heap.get?_push_size h' (o := { cls := .type "tuple", data := .seq its.toArray }) rfl
    exact ⟨.ref h'.objs.size, _, J.laid (t' := s.toks) (o := .frz { cls := .type "tuple", data := .seq its.toArray } (.tup ys)) (fun b o k => Heap.get?_push_of_some _ k) (Nat.le_refl _) ⟨e, hz, its, rv, ⟨_, e, rfl, _, rfl⟩⟩, rfl, q _ _ (J.hok.fresh (Nat.le_refl _)) rfl⟩
  · exact call_tuple_of pins s σ H [.ref p] _ Q I r ⟨p, ys, rfl, .inr ⟨ht, q⟩⟩
/-! ### t * k -/
theorem tuple_mul_one (l : Addr) (items : Array Value) (n : Nat) (dd : Option Addr) (sl : Array (Option Value)) (u : Tok) :
    Meets (Builtin.«tuple.__mul__» ⟨[.ref l, .int 1 u], []⟩) (fun _ R s => s.heap.get? l = some { cls := .type "tuple", dict := dd, data := .seq items n, slots := sl } ∧ R (.ok (.ret (Value.ref l))) s) :=
  .of_wp fun prog w A R s h => by
    obtain ⟨hp, g, d, tk, os⟩ := s
    obtain ⟨hl, h⟩ := h
    have f1 := AutoSeq1.idx_int
    wp_walk using wpAny_loadPart' hl
    repeat (first
      | (refine wpAny_ite_false (by decide) ?_; wp_walk using wpAny_loadPart' hl)
      | (refine wpAny_ite_true (by simp) ?_; wp_walk using wpAny_loadPart' hl))
    exact ⟨_, rfl, h⟩
/-- a tuple, not empty, from 1 to 1,000 times -/
def rRepA (K : PySem.W.Frag) : R2 := fun x y H Q => ∃ l k xs, x = .ref l ∧ y = .int k ∧ SqT K H l xs ∧ xs ≠ [] ∧ xs.length ≤ 1000 ∧ ((k = 1 ∧ Q (.ref l) H) ∨ (2 ≤ k ∧ k ≤ 1000 ∧ ∀ p o, H p = none → o.dict = none → Q (.ref p) (upd H p (.frz o (.tup (List.replicate k.toNat xs).flatten)))))
theorem flat_small {α : Type} {its : List α} {k : Int} (hz : its.length ≤ 1000) (h2 : k ≤ 1000) : (List.replicate k.toNat its).flatten.length ≤ sizeLine :=
  lim_ok (by
    have a := Nat.mul_le_mul (show k.toNat ≤ 1000 by omega) hz
    rw [PyProof.Rows.lm_len_rep_flat]
    omega)
/-- from 2 to 1,000 times -/
theorem op_repF {X : Cx} : OpR X (binaryOp .Mult) (fun x y H Q => ∃ l k xs, x = .ref l ∧ y = .int k ∧ SqT X.K H l xs ∧ xs ≠ [] ∧ 2 ≤ k ∧ k ≤ 1000 ∧ xs.length ≤ 1000 ∧ ∀ p o, H p = none → o.dict = none → Q (.ref p) (upd H p (.frz o (.tup (List.replicate k.toNat xs).flatten)))) := fun pins s σ H x y v u Q I rx ry h => by
  obtain ⟨l, k, xs, rfl, rfl, hT, hne, h1, h2, hz, q⟩ := h
  cases rx
  obtain ⟨t, rfl⟩ := ry
  obtain ⟨its, r, ⟨⟨cls, dd, data, sl⟩, ho, hc, n, hd⟩, hs⟩ := I.tuple hT
  simp only at hc hd
  subst hc hd
  have el : its.length = xs.length := r.length.symm
  have full : its.toArray.isEmpty = false := by
    cases its with
    | nil => exact (hne (List.eq_nil_of_length_eq_zero el.symm)).elim
    | cons _ _ => rfl
  have es : its.toArray.size = xs.length := by rw [List.size_toArray, el]
  have many : ((its.toArray.size : Nat) : Int) * k ≤ 1000000 := by
    rw [es]
    have a : ((xs.length : Nat) : Int) * k ≤ 1000 * k := Int.mul_le_mul_of_nonneg_right (by omega) (by omega)
    omega
  have small : (List.replicate k.toNat its).flatten.length ≤ sizeLine := flat_small (by rw [el]; exact hz) h2
  have c4 : Builtin.Tuple.tupleTooMany (((its.toArray.size : Nat) : Int) * k) = false := by
    unfold Builtin.Tuple.tupleTooMany
    rw [sizeLine_eq, decide_eq_false_iff_not]
    omega
  refine wpAny_binaryOp_repeat_ref (T := "tuple") (U := "int") (by decide) ⟨_, ho, rfl⟩ (fun s' => typeIs_int s' k t) noFill_tuple_mul F.fills_int_mul F.slot_int_rmul repeat_tuple F.slot_int_index.lookup
    (call_meets F.slot_int_rmul (typeIs_int s k t) F.entry_int_rmul (F.args_int_rmul_2 _ _) (int_rmul_tuple k t l its.toArray n dd sl)
      ⟨ho, rfl, ⟨_, ho, rfl⟩, call_meets F.slot_tuple_mul ⟨_, ho, rfl⟩ F.entry_tuple_mul (F.args_tuple_mul_2 _ _) (tuple_mulW l its.toArray n dd sl k t (by rw [decide_eq_false (by omega), decide_eq_false (by omega)]; rfl)
        (by rw [full, Bool.false_or]; exact beq_eq_false_iff_ne.mpr (by omega)) (by rw [full, Bool.or_false]; exact decide_eq_false (by omega)) (by omega) c4 (by rw [size_rep, List.size_toArray]; exact small)) ⟨ho, ?_⟩⟩)
  rw [size_rep]
  have e := Heap.get?_push_size s.heap (o := { cls := .type "tuple", data := .seq (List.replicate k.toNat its).flatten.toArray }) rfl
  exact ⟨.ref s.heap.objs.size, _, I.laid (t' := s.toks) (o := .frz { cls := .type "tuple", data := .seq (List.replicate k.toNat its).flatten.toArray } (.tup (List.replicate k.toNat xs).flatten)) (fun b ob w => Heap.get?_push_of_some _ w) (Nat.le_refl _) ⟨e, flat_small hz h2, _, r.rep k.toNat, ⟨_, e, rfl, _, rfl⟩⟩, rfl, q _ _ (I.hok.fresh (Nat.le_refl _)) rfl⟩
theorem op_repA {X : Cx} : OpR X (binaryOp .Mult) (rRepA X.K) := fun pins s σ H x y v u Q I rx ry h => by
  obtain ⟨l, k, xs, rfl, rfl, hT, hne, hz, q⟩ := h
  rcases q with ⟨rfl, q⟩ | ⟨h1, h2, q⟩
  · cases rx
    obtain ⟨t, rfl⟩ := ry
    obtain ⟨its, r, ⟨⟨cls, dd, data, sl⟩, ho, hc, n, hd⟩, hs⟩ := I.tuple hT
    simp only at hc hd
    subst hc hd
    exact wpAny_binaryOp_repeat_ref (T := "tuple") (U := "int") (by decide) ⟨_, ho, rfl⟩ (fun s' => typeIs_int s' 1 t) noFill_tuple_mul F.fills_int_mul F.slot_int_rmul repeat_tuple F.slot_int_index.lookup
      (call_meets F.slot_int_rmul (typeIs_int s 1 t) F.entry_int_rmul (F.args_int_rmul_2 _ _) (int_rmul_tuple 1 t l its.toArray n dd sl)
        ⟨ho, rfl, ⟨_, ho, rfl⟩, call_meets F.slot_tuple_mul ⟨_, ho, rfl⟩ F.entry_tuple_mul (F.args_tuple_mul_2 _ _) (tuple_mul_one l its.toArray n dd sl t) ⟨ho, .ref l, H, I, rfl, q⟩⟩)
  · exact op_repF pins s σ H _ _ v u Q I rx ry ⟨l, k, xs, rfl, rfl, hT, hne, h1, h2, hz, q⟩
/-- ints, or a tuple so often -/
def rMul (K : PySem.W.Frag) : R2 := fun x y H Q => rI CMul (fun i j => .int (i * j)) x y H Q ∨ rRepA K x y H Q ∨ rRep x y H Q
theorem op_mulZ {X : Cx} : OpR X (binaryOp .Mult) (rMul X.K) := op_mul.or (op_repA.or op_rep)
/-! ### the same over data -/
section
variable {K : PySem.W.Frag} {S : Option (Addr × Addr)}
def fEq (neg : Bool) : D → D → (D → Prop) → Prop := fun x y R => x.plain = true ∧ y.plain = true ∧ min x.depth y.depth ≤ 60 ∧ R (.bool (if neg then !PyData.eqv x y else PyData.eqv x y))
theorem od_eq {neg : Bool} : OpD K S (rEqZ K neg) (fEq neg) := .pure fun H x y d e f1 f2 r1 r2 R hf Q q => by
  obtain ⟨h1, h2, h3, hR⟩ := hf
  exact ⟨d, e, r1.dp _ _ _ h1, r2.dp _ _ _ h2, h1, h2, h3, q _ _ hR bl_rp⟩
def fRepr : List D → (D → Prop) → Prop := fun ds R => match ds with
  | [d] => Ok 40 10000000 d ∧ R (.str d.shown)
  | _ => False
theorem rps_one {c : Zc} {H : Hp} {d : D} {xs : List V} {fp : List Addr} (h : Rps c H [d] xs fp) : ∃ x, xs = [x] ∧ Rp c H d x fp := by
  simp only [Rps] at h
  obtain ⟨x, ys, f1, f2, rfl, rfl, h1, rfl, rfl⟩ := h
  exact ⟨x, rfl, by rwa [List.append_nil]⟩
theorem rps_two {c : Zc} {H : Hp} {d e : D} {xs : List V} {fp : List Addr} (h : Rps c H [d, e] xs fp) : ∃ x y f1 f2, xs = [x, y] ∧ fp = f1 ++ f2 ∧ Rp c H d x f1 ∧ Rp c H e y f2 := by
  simp only [Rps] at h
  obtain ⟨x, ys, f1, f2, rfl, rfl, h1, y, zs, f3, f4, rfl, rfl, h2, rfl, rfl⟩ := h
  exact ⟨x, y, f1, f3, rfl, by rw [List.append_nil], h1, h2⟩
theorem cd_repr : CallD K S (rRepr K) fRepr := .pure fun H xs ds fp r R hf Q q => by
  unfold fRepr at hf
  split at hf
  · rename_i d
    obtain ⟨x, rfl, rx⟩ := rps_one r
    exact ⟨x, d, rfl, rx.dp _ _ _ hf.1.plain, hf.1, q _ _ hf.2 str_rp⟩
  · exact hf.elim
/-- x[i] -/
def fIx : D → D → (D → Prop) → Prop := fun x y R => asI y fun i => match x with
  | .list ds => ∃ d, atI ds i = some d ∧ R d
  | .tuple ds => ∃ d, atI ds i = some d ∧ R d
  | .str z => z.length ≤ 10000000 ∧ ∃ c, atI z.cps.toList i = some c ∧ R (.str ⟨#[c]⟩)
  | _ => False
theorem rps_atI {c : Zc} {H : Hp} {ds : List D} {xs : List V} {fp : List Addr} {i : Int} {d : D} (h : Rps c H ds xs fp) (e : atI ds i = some d) : ∃ x gp, atI xs i = some x ∧ Rp c H d x gp ∧ (∀ a ∈ gp, a ∈ fp) ∧ (fp.Nodup → gp.Nodup) := by
  unfold atI at e ⊢
  rw [h.len]
  cases hn : ixN ds.length i with
  | none => rw [hn] at e; cases e
  | some j =>
    rw [hn] at e
    exact h.at (i := j) e
theorem oa_ix : OpA K S (rIx K) fIx := fun H x y d e f1 f2 s r1 n1 r2 n2 R hf Q q => by
  obtain ⟨i, rfl, hf⟩ := asI_ok hf
  have ey := rp_int r2
  subst ey
  cases d with
  | list ds =>
    obtain ⟨z, hz, hR⟩ := hf
    simp only [Rp] at r1
    obtain ⟨a, xs, gp, rfl, rfl, h1, h2⟩ := r1
    obtain ⟨v, kp, e1, e2, e3, e4⟩ := rps_atI h2 hz
    exact .inl ⟨a, xs, i, v, rfl, rfl, .of h1, e1, q z v kp hR e2 (fun b hb => List.mem_cons_of_mem _ (e3 b hb)) fun nd => e4 (List.nodup_cons.mp nd).2⟩
  | tuple ds =>
    obtain ⟨z, hz, hR⟩ := hf
    simp only [Rp] at r1
    obtain ⟨a, xs, rfl, h1, h2⟩ := r1
    obtain ⟨v, kp, e1, e2, e3, e4⟩ := rps_atI h2 hz
    exact .inr (.inl ⟨a, xs, i, v, rfl, rfl, h1.t, e1, q z v kp hR e2 e3 e4⟩)
  | str z =>
    obtain ⟨hl, c, hc, hR⟩ := hf
    simp only [Rp] at r1
    obtain ⟨rfl, rfl⟩ := r1
    exact .inr (.inr ⟨z, i, c, rfl, rfl, lim_ok hl, hc, q _ _ [] hR (str_rp H) (fun b hb => hb) fun nd => nd⟩)
  | none => exact hf.elim
  | bool b => exact hf.elim
  | int j => exact hf.elim
  | dict kvs => exact hf.elim
/-- sum of a list of ints -/
def fSum : List D → (D → Prop) → Prop := fun ds R => match ds with
  | [.list xs] => ∃ ns : List Int, xs = ns.map .int ∧ R (.int ns.sum)
  | _ => False
theorem rps_ints {c : Zc} {H : Hp} : ∀ {ns : List Int} {xs : List V} {fp : List Addr}, Rps c H (ns.map .int) xs fp → xs = ns.map .int ∧ fp = []
  | [], xs, fp, h => by simpa [Rps] using h
  | n :: ns, xs, fp, h => by
    simp only [List.map_cons, Rps] at h
    obtain ⟨x, ys, f1, f2, rfl, rfl, h1, h2⟩ := h
    simp only [Rp] at h1
    obtain ⟨rfl, rfl⟩ := h1
    obtain ⟨rfl, rfl⟩ := rps_ints h2
    exact ⟨rfl, rfl⟩
/-- len of a list, a tuple -/
def fLen : List D → (D → Prop) → Prop := fun ds R => match ds with
  | [.list xs] => R (.int xs.length)
  | [.tuple xs] => R (.int xs.length)
  | [.str z] => z.length ≤ 10000000 ∧ R (.int z.length)
  | _ => False
theorem cd_len : CallD K S (fun xs H Q => ∃ x n, xs = [x] ∧ LenV K x H n ∧ Q (.int n) H) fLen := .pure fun H xs ds fp r R hf Q q => by
  unfold fLen at hf
  split at hf
  · rename_i es
    obtain ⟨x, rfl, rx⟩ := rps_one r
    simp only [Rp] at rx
    obtain ⟨a, ys, gp, rfl, rfl, h1, h2⟩ := rx
    exact ⟨_, es.length, rfl, .inl ⟨ys, .of h1, h2.len.symm⟩, q _ _ hf int_rp⟩
  · rename_i es
    obtain ⟨x, rfl, rx⟩ := rps_one r
    simp only [Rp] at rx
    obtain ⟨a, ys, rfl, h1, h2⟩ := rx
    exact ⟨_, es.length, rfl, .inr ⟨ys, h1.t, h2.len.symm⟩, q _ _ hf int_rp⟩
  · rename_i z
    obtain ⟨x, rfl, rx⟩ := rps_one r
    simp only [Rp] at rx
    obtain ⟨rfl, rfl⟩ := rx
    exact ⟨_, z.length, rfl, ⟨lim_ok hf.1, rfl⟩, q _ _ hf.2 int_rp⟩
  · exact hf.elim
/-- tuple(list), tuple(tuple), nothing in it that may change -/
def fTuple : List D → (D → Prop) → Prop := fun ds R => match ds with
  | [.list xs] => solids xs = true ∧ R (.tuple xs)
  | [.tuple xs] => solids xs = true ∧ R (.tuple xs)
  | _ => False
theorem cd_tuple : CallD K S (rTupF K) fTuple := fun H xs ds fp s r n R hf Q q => by
  unfold fTuple at hf
  split at hf
  · rename_i es
    obtain ⟨x, rfl, rx⟩ := rps_one r
    simp only [Rp] at rx
    obtain ⟨a, ys, gp, rfl, rfl, h1, h2⟩ := rx
    have z := h2.solid _ _ _ hf.1
    subst z
    refine ⟨a, ys, rfl, .inl ⟨.of h1, fun l o hl ho => ?_⟩⟩
    have e := Ext.new (c := ⟨K, S⟩) (o := .frz o (.tup ys)) hl
    refine q (.tuple es) (.ref l) _ [] hf.2 e (s.new hl) ?_ .nil List.nodup_nil fun b hb => by cases hb
    simp only [Rp]
    exact ⟨l, ys, rfl, .new ho, h2.ext .nil e s⟩
  · rename_i es
    obtain ⟨x, rfl, rx⟩ := rps_one r
    have z := rx.solid _ _ _ (by simp only [solid]; exact hf.1)
    subst z
    have rx' := rx
    simp only [Rp] at rx
    obtain ⟨a, ys, rfl, h1, h2⟩ := rx
    exact ⟨a, ys, rfl, .inr ⟨h1.t, q _ _ H [] hf.2 (Ext.refl _ _) s rx' .nil List.nodup_nil fun b hb => by cases hb⟩⟩
  · exact hf.elim
/-- int(int), int(bool) -/
def fInt : List D → (D → Prop) → Prop := fun ds R => match ds with
  | [.int i] => R (.int i)
  | [.bool b] => R (.int (if b then 1 else 0))
  | _ => False
/-- ints; a tuple k times -/
def fMul : D → D → (D → Prop) → Prop := fun x y R => asI y fun j => match x with
  | .int i => CMul i j ∧ R (.int (i * j))
  | .tuple xs => xs ≠ [] ∧ xs.length ≤ 1000 ∧ solids xs = true ∧ 1 ≤ j ∧ j ≤ 1000 ∧ R (.tuple (List.replicate j.toNat xs).flatten)
  | .list xs => xs.length ≤ 1000 ∧ solids xs = true ∧ j ≤ 1000 ∧ -1000 ≤ j ∧ R (.list (List.replicate j.toNat xs).flatten)
  | _ => False
theorem rps_rep {c : Zc} {H : Hp} {ds : List D} {xs : List V} (h : Rps c H ds xs []) : ∀ n : Nat, Rps c H (List.replicate n ds).flatten (List.replicate n xs).flatten []
  | 0 => .nil
  | n + 1 => by
    rw [List.replicate_succ, List.replicate_succ, List.flatten_cons, List.flatten_cons]
    exact h.app (rps_rep h n)
theorem od_mul : OpD K S (rMul K) fMul := fun H x y d e f1 f2 s r1 n1 r2 n2 R hf Q q => by
  obtain ⟨j, rfl, hf⟩ := asI_ok hf
  have ey := rp_int r2
  subst ey
  cases d with
  | int i => exact .inl ⟨i, j, rp_int r1, rfl, hf.1, q _ _ H [] hf.2 (Ext.refl _ _) s (int_rp H) .nil List.nodup_nil fun b hb => by cases hb⟩
  | tuple ds =>
    obtain ⟨h1, h2, h3, h4, h5, hR⟩ := hf
    have z := r1.solid _ _ _ (by simp only [solid]; exact h3)
    subst z
    have r1' := r1
    simp only [Rp] at r1
    obtain ⟨a, xs, rfl, hT, hs⟩ := r1
    have hne : xs ≠ [] := fun z => h1 (by
      have := hs.len
      rw [z] at this
      exact List.eq_nil_of_length_eq_zero this.symm)
    refine .inr (.inl ⟨a, j, xs, rfl, rfl, hT.t, hne, by rw [hs.len]; exact h2, ?_⟩)
    by_cases hj : j = 1
    · subst hj
      exact .inl ⟨rfl, q _ _ H [] (by simpa using hR) (Ext.refl _ _) s r1' .nil List.nodup_nil fun b hb => by cases hb⟩
    · refine .inr ⟨by omega, h5, fun p o hp ho => ?_⟩
      have e := Ext.new (c := ⟨K, S⟩) (o := .frz o (.tup (List.replicate j.toNat xs).flatten)) hp
      refine q _ (.ref p) _ [] hR e (s.new hp) ?_ .nil List.nodup_nil fun b hb => by cases hb
      simp only [Rp]
      exact ⟨p, _, rfl, .new ho, (rps_rep hs _).ext .nil e s⟩
  | list ds =>
    obtain ⟨h2, h3, h5, h6, hR⟩ := hf
    simp only [Rp] at r1
    obtain ⟨a, xs, gp, rfl, rfl, hT, hs⟩ := r1
    have z := hs.solid _ _ _ h3
    subst z
    have hz : xs.length * j.toNat ≤ sizeLine := lim_ok (by
      have h7 : xs.length ≤ 1000 := by rw [hs.len]; exact h2
      have := Nat.mul_le_mul h7 (show j.toNat ≤ 1000 by omega)
      omega)
    refine .inr (.inr ⟨a, j, xs, rfl, rfl, hT, by omega, by omega, hz, fun p hp => ?_⟩)
    have e := Ext.new (c := ⟨K, S⟩) (o := .lst (List.replicate j.toNat xs).flatten) hp
    refine q _ (.ref p) _ [p] hR e (s.new hp) ?_ (fun b hb => by rw [List.mem_singleton.mp hb]; exact s.fresh hp) (List.pairwise_singleton _ _) fun b hb => by rw [List.mem_singleton.mp hb]; exact hp
    simp only [Rp]
    exact ⟨p, _, [], rfl, rfl, upd_same, (rps_rep hs _).ext .nil e s⟩
  | _ => exact hf.elim
/-- enumerate -/
def enumD (ds : List D) : List D := (List.range ds.length).map fun i => .tuple [.int (i : Nat), ds.getD i .none]
def dEnum (ms : DMs) : DMs := fun ρ R => ms ρ fun ds => match ds with
  | [.list xs] => R (enumD xs)
  | [.tuple xs] => R (enumD xs)
  | _ => False
end
end Z
set_option Elab.async false
set_option linter.all false
set_option maxRecDepth 100000
set_option maxHeartbeats 4000000
/-! Z8: the law's own source of draws: its reading. -/
namespace Z
open PySem PySem.Spec PyProof.Rows L2
abbrev srcKv (sc : Addr) (l m t : Int) : List (Key × V) := [(Sum.inr "cells", .ref sc), (Sum.inr "left", .int l), (Sum.inr "mixed", .int m), (Sum.inr "turn", .int t)]
theorem kv_cells {sc : Addr} {l m t : Int} : valV (srcKv sc l m t) (Sum.inr "cells") = some (.ref sc) := rfl
theorem kv_left {sc : Addr} {l m t : Int} : valV (srcKv sc l m t) (Sum.inr "left") = some (.int l) := rfl
theorem kv_mixed {sc : Addr} {l m t : Int} : valV (srcKv sc l m t) (Sum.inr "mixed") = some (.int m) := rfl
theorem kv_turn {sc : Addr} {l m t : Int} : valV (srcKv sc l m t) (Sum.inr "turn") = some (.int t) := rfl
abbrev gtR : R2 := rI0 fun i j => .bl (decide (j < i))
abbrev ltR : R2 := rI0 fun i j => .bl (decide (i < j))
abbrev addR : R2 := rI0 fun i j => .int (i + j)
abbrev mulR : R2 := rI CMul fun i j => .int (i * j)
abbrev modR : R2 := rI (fun _ j => 0 < j) fun i j => .int (i % j)
abbrev divR : R2 := rI CDiv fun i j => .int (i / j)
abbrev max2R : List V → Hp → VK → Prop := fun xs H Q => ∃ i j, xs = [.int i, .int j] ∧ Q (.int (if j > i then j else i)) H
abbrev int1R : List V → Hp → VK → Prop := fun xs H Q => (∃ i, xs = [.int i] ∧ Q (.int i) H) ∨ ∃ k, xs = [.bl k] ∧ Q (.int (if k then 1 else 0)) H
abbrev lenR (K : PySem.W.Frag) : List V → Hp → VK → Prop := fun xs H Q => ∃ x n, xs = [x] ∧ LenV K x H n ∧ Q (.int n) H
abbrev tKey (x : Str) : TE := tDGet (tVar 0) (tC (.str x))
/-- the body of _law_pick -/
def tPick (K : PySem.W.Frag) : TS :=
  tSeq (tWhile (tAnd (tTest (tOp gtR (tVar 1) (tC (.int 1)))) (tAnd (tTest (tOp ltR (tKey "left") (tC (.int 2)))) (tTest (tOp gtR (tCB (lenR K) (tCons (tKey "cells") tNil)) (tC (.int 0))))))
      (sDPut (tVar 0) (tC (.str "left")) (tBM0 K "list" rPop (tKey "cells"))))
  (tSeq (tAsg (tKey "left") (gName 2))
  (tSeq (tIfS (tOr (tTest (tOp ltR (tVar 1) (tC (.int 2)))) (tTest (tOp gtR (tVar 2) (tC (.int 1)))))
      (tSeq (sDPut (tVar 0) (tC (.str "left")) (tOp divR (tVar 2) (tCB max2R (tCons (tC (.int 1)) (tCons (tVar 1) tNil)))))
        (tRet (tOp modR (tCB int1R (tCons (tVar 2) tNil)) (tCB max2R (tCons (tC (.int 1)) (tCons (tVar 1) tNil))))))
      tNext)
  (tSeq (sDPut (tVar 0) (tC (.str "turn")) (tOp addR (tKey "turn") (tC (.int 1))))
  (tSeq (tAsg (tOp modR (tCB int1R (tCons (tOp addR (tKey "mixed") (tOp mulR (tKey "turn") (tC (.int 104729)))) tNil)) (tC (.int 998244353))) (gName 3))
  (tSeq (tAsg (tOp modR (tCB int1R (tCons (tOp addR (tOp mulR (tVar 3) (tVar 3)) (tOp mulR (tKey "turn") (tC (.int 17)))) tNil)) (tC (.int 2147483647))) (gName 3))
  (tSeq (sDPut (tVar 0) (tC (.str "mixed")) (tVar 3))
    (tRet (tOp modR (tCB int1R (tCons (tOp divR (tVar 3) (tC (.int 16))) tNil)) (tVar 1)))))))))
def specPick : List D → (D → Prop) → Prop := fun ds R => ∃ n : Int, ds = [srcD, .int n] ∧ n ≤ 1000000000 ∧ ∀ k : Int, 0 ≤ k → (k < n ∨ k = 0) → R (.int k)
section
variable {K : PySem.W.Frag} {S : Option (Addr × Addr)}
theorem rp_src {c : Zc} {H : Hp} {v : V} {fp : List Addr} (h : Rp c H srcD v fp) : ∃ p, c.S = some p ∧ v = .ref p.1 ∧ fp = [] := by
  unfold srcD at h
  simp only [Rp, isSrc] at h
  simpa using h
theorem src_rp {c : Zc} {H : Hp} {p : Addr × Addr} (h : c.S = some p) : Rp c H srcD (.ref p.1) [] := by
  simp only [srcD, Rp]
  rw [if_pos (show isSrc [(.none, .none)] = true from rfl)]
  exact ⟨p, h, rfl, trivial⟩
/-- the source's own objects stand so -/
structure SrcSt (p : Addr × Addr) (H : Hp) (ns : List Int) (l m t : Int) : Prop where
  d : H p.1 = some (.dK (srcKv p.2 l m t))
  c : H p.2 = some (.lst (ns.map V.int))
  len : ns.length ≤ 63
  nn : ∀ n ∈ ns, 0 ≤ n
  l0 : 0 ≤ l
  m0 : 0 ≤ m
  m1 : m < 2147483648
  t0 : 0 ≤ t
theorem SrcSt.at {p : Addr × Addr} {H : Hp} {ns : List Int} {l m t : Int} (s : SrcSt p H ns l m t) (hne : p.1 ≠ p.2) : SrcAt ⟨K, some p⟩ H := fun q hq => by
  cases hq
  exact ⟨hne, ns, l, m, t, s.len, s.nn, s.l0, s.m0, s.m1, s.t0, s.d, s.c⟩
theorem SrcSt.putD {p : Addr × Addr} {H : Hp} {ns : List Int} {l m t l' m' t' : Int} (s : SrcSt p H ns l m t) (hne : p.1 ≠ p.2) (a : 0 ≤ l') (b : 0 ≤ m') (c : m' < 2147483648) (d : 0 ≤ t') : SrcSt p (upd H p.1 (.dK (srcKv p.2 l' m' t'))) ns l' m' t' :=
  ⟨upd_same, by rw [upd_ne (Ne.symm hne)]; exact s.c, s.len, s.nn, a, b, c, d⟩
theorem ext_src {p : Addr × Addr} {H H1 : Hp} {a : Addr} {o : HO} (e : Ext ⟨K, some p⟩ H H1) (ha : a = p.1 ∨ a = p.2) : Ext ⟨K, some p⟩ H (upd H1 a o) := fun b u hb hn => by
  rw [upd_ne fun z => hn ⟨p, rfl, by rw [z]; exact ha⟩]
  exact e b u hb hn
theorem get_of {p : Addr × Addr} {H : Hp} {ns : List Int} {l m t : Int} (s : SrcSt p H ns l m t) {x : Str} {v : V} (e : valV (srcKv p.2 l m t) (Sum.inr x) = some v) : DGet H p.1 (.str x) (some v) := by
  rw [← e]
  exact DGet.k (k := Sum.inr x) s.d
theorem key_of {p : Addr × Addr} {H : Hp} {ns : List Int} {l m t : Int} {σ : L2.St} {Q : VK} (s : SrcSt p H ns l m t) (h0 : σ[0]? = some (some (.ref p.1))) {x : Str} {v : V} (e : valV (srcKv p.2 l m t) (Sum.inr x) = some v) (q : Q v H) : tKey x σ H Q :=
  ⟨_, h0, p.1, v, rfl, get_of s e, q⟩
theorem small4 : (4 : Nat) < sizeLine := Nat.lt_of_lt_of_le (by decide : 4 < 10000000) (lim_ok (Nat.le_refl _))
theorem pick_reading {vs : List V} {H : Hp} {Q : VK} {E : XK} (h : spD K specPick vs H Q E) : tPick K { nx := fun _ H' => Q .non H', rt := Q } (L2.start ["source", "many", "left", "mixed"] vs) H := by
  obtain ⟨S, ds, fp, R, r, ns0, s, ⟨n, rfl, hn, hR⟩, q⟩ := h
  obtain ⟨v, w, f1, f2, rfl, rfl, rv, rw'⟩ := rps_two r
  obtain ⟨p, hp, rfl, rfl⟩ := rp_src rv
  have hp' : S = some p := hp
  subst hp'
  have ew := rp_int rw'
  subst ew
  have q' : ∀ k H', 0 ≤ k → (k < n ∨ k = 0) → Ext ⟨K, some p⟩ H H' → SrcAt ⟨K, some p⟩ H' → Q (.int k) H' := fun k H' h1 h2 e s' => q (.int k) (.int k) H' [] (hR k h1 h2) e s' (int_rp H') .nil List.nodup_nil fun a h => by cases h
  obtain ⟨hne, ns, l, m, t, z1, z2, z3, z4, z5, z6, z7, z8⟩ := s p rfl
  have st0 : SrcSt p H ns l m t := ⟨z7, z8, z1, z2, z3, z4, z5, z6⟩
  have hst : L2.start ["source", "many", "left", "mixed"] [V.ref p.1, .int n] = [some (.ref p.1), some (.int n), none, none] := rfl
  rw [hst]
  -- the loop
  refine ⟨fun k σ H1 => σ = [some (.ref p.1), some (.int n), none, none] ∧ ∃ ns l, k = ns.length ∧ SrcSt p H1 ns l m t ∧ Ext ⟨K, some p⟩ H H1, ⟨ns.length, rfl, ns, l, rfl, st0, Ext.refl _ _⟩, ?_⟩
  rintro k σ H1 ⟨rfl, ns, l, rfl, st, ex⟩
  -- behind the loop
  have after : (tSeq (tAsg (tKey "left") (gName 2))
      (tSeq (tIfS (tOr (tTest (tOp ltR (tVar 1) (tC (.int 2)))) (tTest (tOp gtR (tVar 2) (tC (.int 1)))))
        (tSeq (sDPut (tVar 0) (tC (.str "left")) (tOp divR (tVar 2) (tCB max2R (tCons (tC (.int 1)) (tCons (tVar 1) tNil)))))
          (tRet (tOp modR (tCB int1R (tCons (tVar 2) tNil)) (tCB max2R (tCons (tC (.int 1)) (tCons (tVar 1) tNil))))))
        tNext)
      (tSeq (sDPut (tVar 0) (tC (.str "turn")) (tOp addR (tKey "turn") (tC (.int 1))))
      (tSeq (tAsg (tOp modR (tCB int1R (tCons (tOp addR (tKey "mixed") (tOp mulR (tKey "turn") (tC (.int 104729)))) tNil)) (tC (.int 998244353))) (gName 3))
      (tSeq (tAsg (tOp modR (tCB int1R (tCons (tOp addR (tOp mulR (tVar 3) (tVar 3)) (tOp mulR (tKey "turn") (tC (.int 17)))) tNil)) (tC (.int 2147483647))) (gName 3))
      (tSeq (sDPut (tVar 0) (tC (.str "mixed")) (tVar 3))
        (tRet (tOp modR (tCB int1R (tCons (tOp divR (tVar 3) (tC (.int 16))) tNil)) (tVar 1))))))))) { nx := fun _ H' => Q .non H', rt := Q } [some (.ref p.1), some (.int n), none, none] H1 := by
    refine key_of st rfl kv_left ?_
    -- if many < 2 or left > 1
    have yes : (n < 2 ∨ 1 < l) → (tSeq (sDPut (tVar 0) (tC (.str "left")) (tOp divR (tVar 2) (tCB max2R (tCons (tC (.int 1)) (tCons (tVar 1) tNil)))))
          (tRet (tOp modR (tCB int1R (tCons (tVar 2) tNil)) (tCB max2R (tCons (tC (.int 1)) (tCons (tVar 1) tNil)))))) { nx := fun _ H' => Q .non H', rt := Q } [some (.ref p.1), some (.int n), some (.int l), none] H1 := fun hy => by
      have hm1 : (1 : Int) ≤ (if n > 1 then n else 1) := by split <;> omega
      have hm2 : (if n > 1 then n else 1) ≤ 1000000000 := by split <;> omega
      refine ⟨.int l, rfl, .int n, rfl, 1, n, rfl, l, _, rfl, rfl, ⟨by omega, by omega⟩, .ref p.1, rfl, p.1, _, rfl, DPut.k (k := Sum.inr "left") st.d small4, ?_⟩
      have st2 := st.putD hne (l' := l / (if n > 1 then n else 1)) (m' := m) (t' := t) (Int.ediv_nonneg st.l0 (by omega)) st.m0 st.m1 st.t0
      refine ⟨.int l, rfl, .inl ⟨l, rfl, .int n, rfl, 1, n, rfl, l, _, rfl, rfl, by omega, ?_⟩⟩
      refine q' _ _ (Int.emod_nonneg _ (by omega)) ?_ (ext_src ex (.inl rfl)) (st2.at hne)
      have h3 := Int.emod_lt_of_pos l (show (0 : Int) < (if n > 1 then n else 1) by omega)
      have h4 := Int.emod_nonneg l (show (if n > 1 then n else 1) ≠ (0 : Int) by omega)
      by_cases h : n > 1
      · rw [if_pos h] at h3 ⊢
        exact .inl h3
      · rw [if_neg h] at h3 h4 ⊢
        exact .inr (by omega)
    refine ⟨.int n, rfl, n, 2, rfl, rfl, _, rfl, ite2 (fun hlt => ?_) (fun hlt => ?_)⟩
    · exact iteT (yes (.inl (of_decide_eq_true hlt)))
    · have hn2 : ¬ n < 2 := fun z => hlt (decide_eq_true z)
      refine ⟨.int l, rfl, l, 1, rfl, rfl, _, rfl, ite2 (fun hl => ?_) (fun hl => ?_)⟩
      · exact yes (.inr (of_decide_eq_true hl))
      · -- a number mixed anew
        refine key_of st rfl kv_turn ⟨t, 1, rfl, rfl, .ref p.1, rfl, p.1, _, rfl, DPut.k (k := Sum.inr "turn") st.d small4, ?_⟩
        have st2 := st.putD hne (l' := l) (m' := m) (t' := t + 1) st.l0 st.m0 st.m1 (by have := st.t0; omega)
        refine key_of st2 rfl kv_mixed (key_of st2 rfl kv_turn ⟨t + 1, 104729, rfl, rfl, .inr ⟨by omega, by omega⟩, m, _, rfl, rfl, .inl ⟨_, rfl, _, 998244353, rfl, rfl, by omega, ?_⟩⟩)
        show tSeq _ _ _ [some (.ref p.1), some (.int n), some (.int l), some (.int ((m + (t + 1) * 104729) % 998244353))] _
        generalize hx : (m + (t + 1) * 104729) % 998244353 = x
        have x0 : 0 ≤ x := by rw [← hx]; exact Int.emod_nonneg _ (by omega)
        have x1 : x < 998244353 := by rw [← hx]; exact Int.emod_lt_of_pos _ (by omega)
        refine ⟨.int x, rfl, .int x, rfl, x, x, rfl, rfl, .inl ⟨by omega, by omega⟩, key_of st2 rfl kv_turn ⟨t + 1, 17, rfl, rfl, .inr ⟨by omega, by omega⟩, _, _, rfl, rfl, .inl ⟨_, rfl, _, 2147483647, rfl, rfl, by omega, ?_⟩⟩⟩
        show tSeq _ _ _ [some (.ref p.1), some (.int n), some (.int l), some (.int ((x * x + (t + 1) * 17) % 2147483647))] _
        generalize hy : (x * x + (t + 1) * 17) % 2147483647 = y
        have y0 : 0 ≤ y := by rw [← hy]; exact Int.emod_nonneg _ (by omega)
        have y1 : y < 2147483647 := by rw [← hy]; exact Int.emod_lt_of_pos _ (by omega)
        refine ⟨.int y, rfl, .ref p.1, rfl, p.1, _, rfl, DPut.k (k := Sum.inr "mixed") st2.d small4, ?_⟩
        have st3 := st2.putD hne (l' := l) (m' := y) (t' := t + 1) st.l0 y0 (by omega) st2.t0
        refine ⟨.int y, rfl, y, 16, rfl, rfl, ⟨by omega, by omega⟩, .inl ⟨_, rfl, .int n, rfl, _, n, rfl, rfl, by omega, ?_⟩⟩
        exact q' _ _ (Int.emod_nonneg _ (by omega)) (.inl (Int.emod_lt_of_pos _ (by omega))) (ext_src (ext_src ex (.inl rfl)) (.inl rfl)) (st3.at hne)
  -- the loop's test
  refine ⟨.int n, rfl, n, 1, rfl, rfl, _, rfl, ite2 (fun h1 => ?_) (fun h1 => ?_)⟩
  · refine key_of st rfl kv_left ⟨l, 2, rfl, rfl, _, rfl, ite2 (fun h2 => ?_) (fun h2 => ?_)⟩
    · refine key_of st rfl kv_cells ⟨.ref p.2, ns.length, rfl, .inl ⟨_, .of st.c, by simp⟩, _, 0, rfl, rfl, _, rfl, ite2 (fun h3 => ?_) (fun h3 => ?_)⟩
      · -- source["left"] = source["cells"].pop()
        have hpos : 0 < ns.length := by
          have := of_decide_eq_true h3
          omega
        obtain ⟨ms, y, rfl⟩ : ∃ ms y, ns = ms ++ [y] := ⟨ns.dropLast, ns.getLast (fun z => by rw [z] at hpos; cases hpos), (List.dropLast_concat_getLast _).symm⟩
        refine ⟨fun σ' H' => ∃ m', m' < (ms ++ [y]).length ∧ (σ' = [some (.ref p.1), some (.int n), none, none] ∧ ∃ ns l, m' = ns.length ∧ SrcSt p H' ns l m t ∧ Ext ⟨K, some p⟩ H H'), fun σ' H' h => h, ?_⟩
        refine key_of st rfl kv_cells ⟨.inl ⟨rfl, _, .of st.c⟩, p.2, _, .int y, rfl, rfl, st.c, by simp, .ref p.1, rfl, p.1, _, rfl, DPut.k (k := Sum.inr "left") (kvs := srcKv p.2 l m t) (by rw [upd_ne hne]; exact st.d) small4, ?_⟩
        refine ⟨ms.length, by simp, rfl, ms, y, rfl, ⟨upd_same, ?_, ?_, fun k hk => st.nn k (List.mem_append_left _ hk), st.nn y (by simp), st.m0, st.m1, st.t0⟩, ext_src (ext_src ex (.inr rfl)) (.inl rfl)⟩
        · rw [upd_ne (Ne.symm hne), upd_same]
          simp
        · have := st.len
          simp at this
          omega
      · exact after
    · exact iteF after
  · exact iteF after
end
end Z
set_option Elab.async false
set_option linter.all false
set_option maxRecDepth 100000
set_option maxHeartbeats 4000000
/-! Z9: the source made; the law's body. -/
namespace Z
open PySem PySem.Spec PyProof.Rows L2
abbrev absR : List V → Hp → VK → Prop := fun xs H Q => ∃ i, xs = [.int i] ∧ Q (.int (if i < 0 then -i else i)) H
/-- the body of _law_source -/
def tSource (K : PySem.W.Frag) : TS :=
  tSeq (tAsg (tC (.int 11)) (gName 1))
  (tSeq (tFor (iList K (tVar 0)) (gName 2) (tAsg (tOp modR (tCB int1R (tCons (tOp addR (tOp addR (tOp mulR (tVar 1) (tC (.int 69069))) (tOp mulR (tVar 2) (tC (.int 31)))) (tC (.int 5))) tNil)) (tC (.int 2147483629))) (gName 1)))
    (tRet (tDisp [(tC (.str "cells"), tRevL K (tLc (iList K (tVar 0)) (gName 2) tYes (tCB absR (tCons (tVar 2) tNil)) [2])), (tC (.str "left"), tC (.int 1)), (tC (.str "mixed"), tVar 1), (tC (.str "turn"), tC (.int 0))])))
/-- a new source, all else as it was -/
def spSource (K : PySem.W.Frag) : Sp := fun vs H Q _ => ∃ (a : Addr) (ns : List Int), vs = [.ref a] ∧ SqL K H a (ns.map V.int) ∧ ns.length ≤ 63 ∧
  ∀ p H', Same H H' → p.1 ≠ p.2 → H p.1 = none → H p.2 = none → (∃ ns l m t, SrcSt p H' ns l m t) → Q (.ref p.1) H'
theorem same_new {H H' : Hp} {p : Addr} {o : HO} (s : Same H H') (h : H' p = none) : Same H (upd H' p o) := fun b u e => by
  rw [upd_ne (ne_of_none (s b u e) h)]
  exact s b u e
theorem abs_nat (i : Int) : (if i < 0 then -i else i) = (i.natAbs : Int) := by split <;> omega
theorem source_reading {K : PySem.W.Frag} {vs : List V} {H : Hp} {Q : VK} {E : XK} (h : spSource K vs H Q E) : tSource K { nx := fun _ H' => Q .non H', rt := Q } (L2.start ["script", "mixed", "cell"] vs) H := by
  obtain ⟨a, ns, rfl, hS, hlen, q⟩ := h
  have hst : L2.start ["script", "mixed", "cell"] [V.ref a] = [some (.ref a), none, none] := rfl
  rw [hst]
  have item : ∀ (i : Nat) (x : V), (ns.map V.int)[i]? = some x → ∃ c, x = .int c := fun i x e => by
    rw [List.getElem?_map] at e
    cases hc : ns[i]? with
    | none => rw [hc] at e; cases e
    | some c => rw [hc] at e; cases e; exact ⟨c, rfl⟩
  refine ⟨.ref a, rfl, a, rfl, ⟨_, hS⟩, for_list (K := K) (a := a) (xs := ns.map V.int) (fun i σ H1 => ∃ m y, σ = [some (.ref a), some (.int m), y] ∧ 0 ≤ m ∧ m < 2147483648 ∧ H1 = H) ⟨11, none, rfl, by omega, by omega, rfl⟩ ?_ ?_ ?_⟩
  · rintro i σ H1 _ ⟨m, y, rfl, _, _, rfl⟩
    exact hS
  · rintro i x σ H1 hi ⟨m, y, rfl, m0, m1, rfl⟩
    obtain ⟨c, rfl⟩ := item i x hi
    refine ⟨.int m, rfl, m, 69069, rfl, rfl, .inl ⟨by omega, by omega⟩, .int c, rfl, c, 31, rfl, rfl, .inr ⟨by omega, by omega⟩, _, _, rfl, rfl, _, 5, rfl, rfl, .inl ⟨_, rfl, _, 2147483629, rfl, rfl, by omega, ?_⟩⟩
    have h1 := Int.emod_nonneg (m * 69069 + c * 31 + 5) (show (2147483629 : Int) ≠ 0 by omega)
    have h2 := Int.emod_lt_of_pos (m * 69069 + c * 31 + 5) (show (0 : Int) < 2147483629 by omega)
    exact ⟨_, some (.int c), rfl, h1, by omega, rfl⟩
  · rintro σ H1 ⟨m, y, rfl, m0, m1, rfl⟩
    -- the dict
    intro p hp
    refine ⟨.ref a, rfl, a, rfl, ⟨_, (show Same H1 (upd H1 p (.dK [])) from same_new (Same.refl _) hp).seq hS⟩, fun Dd hD => ?_⟩
    have s1 : Same H1 (upd H1 p (.dK [])) := same_new (Same.refl _) hp
    have hpD : p ≠ Dd := ne_of_none upd_same hD
    refine lc_list (K := K) (a := a) (xs := ns.map V.int) (fun i H2 => ∃ acc : List Int, H2 = upd (upd H1 p (.dK [])) Dd (.lst (acc.map V.int)) ∧ acc.length = i ∧ ∀ k ∈ acc, 0 ≤ k) ⟨[], rfl, rfl, fun k hk => by cases hk⟩ ?_ ?_ ?_
    · rintro i H2 _ ⟨acc, rfl, _, _⟩
      exact (same_new s1 hD).seq hS
    · rintro i x H2 hi ⟨acc, rfl, hacc, hnn⟩
      obtain ⟨c, rfl⟩ := item i x hi
      have hil : i < ns.length := by
        have := (List.getElem?_eq_some_iff.mp hi).1
        simpa using this
      refine ⟨rfl, ?_⟩
      unfold tYes
      dsimp only
      rw [if_pos rfl]
      refine ⟨.int c, rfl, c, rfl, acc.map V.int, upd_same, ?_, acc ++ [if c < 0 then -c else c], ?_, by simp [hacc], fun k hk => ?_⟩
      · rw [List.length_map, hacc]
        exact Nat.lt_of_lt_of_le (by omega : i < 10000000) (lim_ok (Nat.le_refl _))
      · rw [upd_upd, List.map_append]
        rfl
      · rcases List.mem_append.mp hk with hk | hk
        · exact hnn k hk
        · rw [List.mem_singleton.mp hk, abs_nat]
          exact Int.natCast_nonneg _
    · rintro H2 ⟨acc, rfl, hacc, hnn⟩
      refine ⟨Dd, _, rfl, .of upd_same, fun r hr => ?_⟩
      have hrp : r ≠ p := fun z => by
        rw [z, upd_ne hpD, upd_same] at hr
        cases hr
      refine ⟨.int m, rfl, ?_⟩
      have hdk : upd (upd (upd H1 p (.dK [])) Dd (.lst (acc.map V.int))) r (.lst (acc.map V.int).reverse) p = some (.dK []) := by
        rw [upd_ne (Ne.symm hrp), upd_ne hpD, upd_same]
      refine ⟨hdk, [(Sum.inr "cells", .ref r), (Sum.inr "left", .int 1), (Sum.inr "mixed", .int m), (Sum.inr "turn", .int 0)], rfl, (show 4 ≤ 15 by decide), ?_⟩
      have s2 : Same H1 (upd (upd (upd H1 p (.dK [])) Dd (.lst (acc.map V.int))) r (.lst (acc.map V.int).reverse)) := same_new (same_new s1 hD) hr
      refine q (p, r) _ (fun b u e => ?_) (Ne.symm hrp) hp ((same_new s1 hD).free hr) ⟨acc.reverse, 1, m, 0, ⟨?_, ?_, ?_, fun k hk => hnn k (List.mem_reverse.mp hk), by omega, m0, m1, by omega⟩⟩
      · rw [upd_ne (ne_of_none e hp)]
        exact s2 b u e
      · exact upd_same
      · rw [upd_ne hrp, upd_same, List.map_reverse]
      · rw [List.length_reverse, hacc, List.length_map]
        exact hlen
/-- the law: a list of ints, at most 63, and True -/
def spLaw (K : PySem.W.Frag) : Sp := fun vs H Q _ => ∃ (a : Addr) (ns : List Int), vs = [.ref a] ∧ SqL K H a (ns.map V.int) ∧ ns.length ≤ 63 ∧ ∀ H', Q (.bl true) H'
def startL (n : Nat) : En := .unk :: .val srcD :: List.replicate n .unk
def lawE : DEnds := { nx := fun _ => False, rt := fun d => d = .bool true }
theorem law_reading {K : PySem.W.Frag} {rest : TS} {m : DMS} {W : List Nat} {N : List Str} {n : Nat} {vs : List V} {H : Hp} {Q : VK} {E : XK} (hN : N.length = n + 2) (hs : ∀ S, DS K S rest m W) (hm : m (startL n) lawE) (h : spLaw K vs H Q E) :
    (tSeq (tAsg (tCall (spSource K) [] E0 (tCons (tVar 0) tNil)) (gName 1)) rest) { nx := fun _ H' => Q .non H', rt := Q } (L2.start N vs) H := by
  obtain ⟨a, ns, rfl, hS, hlen, q⟩ := h
  have hst : L2.start N [V.ref a] = some (.ref a) :: none :: List.replicate n none := by
    unfold L2.start
    rw [hN]
    rfl
  rw [hst]
  refine ⟨.ref a, rfl, a, ns, rfl, hS, hlen, fun p H' sm hne f1 f2 hsrc => ?_⟩
  obtain ⟨ns', l, mm, t, st⟩ := hsrc
  have E0 : EnvAt ⟨K, some p⟩ (fun _ => none) H' (startL n) (some (.ref a) :: some (.ref p.1) :: List.replicate n none) (fun _ => []) := by
    refine ⟨by simp [startL], fun b u h _ => (by cases h), st.at hne, fun i sl h => ?_, fun i j _ _ _ _ b hb => by cases hb⟩
    match i, h with
    | 0, h => cases h; rfl
    | 1, h => cases h; exact ⟨.ref p.1, rfl, src_rp rfl, .nil⟩
    | i + 2, h =>
      have : sl = .unk := List.eq_of_mem_replicate (List.mem_of_getElem? (show (List.replicate n Sl.unk)[i]? = some sl from h))
      subst this
      rfl
  refine hs (some p) _ _ _ _ _ E0 _ hm _ ⟨fun _ _ _ _ h => False.elim h, fun _ _ _ _ h => False.elim h, fun _ _ _ _ h => False.elim h, fun d v H2 fp hd _ _ r _ _ _ => ?_⟩
  have hd' : d = .bool true := hd
  subst hd'
  rw [rp_bl r]
  exact q H2
theorem law_of {X : Cx} {body : List Stmt} {K : PySem.W.Frag} {rest : TS} {m : DMS} {W : List Nat} {n : Nat} {vs : List V} {H : Hp} {Q : VK} {E : XK} (N : List Str) (hN : N.length = n + 2)
    (hp : PSs X body (tSeq (tAsg (tCall (spSource K) [] E0 (tCons (tVar 0) tNil)) (gName 1)) rest)) (hs : ∀ S, DS K S rest m W) (hm : m (startL n) lawE) (h : spLaw K vs H Q E) : ∃ t, PSs X body t ∧ t { nx := fun _ H' => Q .non H', rt := Q } (L2.start N vs) H :=
  ⟨_, hp, law_reading hN hs hm h⟩
end Z
set_option Elab.async false
set_option linter.all false
set_option maxRecDepth 100000
set_option maxHeartbeats 4000000
/-! Z10: more rules over data: +, unpacking a list, x op= e. -/
namespace Z
open PySem PySem.Spec PyProof.Rows L2
/-- tuple + tuple: a known object, or the one that is not empty -/
def rCatF (K : PySem.W.Frag) : R2 := fun x y H Q => ∃ a b xs ys, x = .ref a ∧ y = .ref b ∧ SqT K H a xs ∧ SqT K H b ys ∧ xs.length + ys.length ≤ sizeLine ∧
  (xs = [] → Q (.ref b) H) ∧ (xs ≠ [] → ys = [] → Q (.ref a) H) ∧ (xs ≠ [] → ys ≠ [] → ∀ p o, H p = none → o.dict = none → Q (.ref p) (upd H p (.frz o (.tup (xs ++ ys)))))
theorem op_catF {X : Cx} : OpR X (binaryOp .Add) (rCatF X.K) := fun pins s σ H x y v u Q I rx ry h => by
  obtain ⟨a, b, xs, ys, rfl, rfl, ha, hb, hz, q0, q1, q2⟩ := h
  by_cases hx : xs = []
  · exact op_catA pins s σ H _ _ v u Q I rx ry ⟨a, b, xs, ys, rfl, rfl, ha, hb, hz, q0, fun z => (z hx).elim, fun z => (z hx).elim⟩
  by_cases hy : ys = []
  · exact op_catA pins s σ H _ _ v u Q I rx ry ⟨a, b, xs, ys, rfl, rfl, ha, hb, hz, q0, q1, fun _ z => (z hy).elim⟩
  cases rx
  cases ry
  obtain ⟨its, r1, p1, _⟩ := I.tuple ha
  obtain ⟨jts, r2, p2, _⟩ := I.tuple hb
  have ne : its ≠ [] ∧ jts ≠ [] := ⟨fun z => hx (List.eq_nil_of_length_eq_zero (by rw [r1.length, z]; rfl)), fun z => hy (List.eq_nil_of_length_eq_zero (by rw [r2.length, z]; rfl))⟩
  refine HT.cat_tup p1 p2 ne.1 (fun z => (ne.2 z).elim) (fun _ => ?_) (by rw [← r1.length, ← r2.length]; exact hz)
  have e := Heap.get?_push_size s.heap (o := { cls := .type "tuple", data := .seq (its ++ jts).toArray }) rfl
  exact ⟨.ref s.heap.objs.size, _, I.laid (t' := s.toks) (o := .frz { cls := .type "tuple", data := .seq (its ++ jts).toArray } (.tup (xs ++ ys))) (fun b ob k => Heap.get?_push_of_some _ k) (Nat.le_refl _) ⟨e, by rw [List.length_append]; exact hz, _, r1.append r2, ⟨_, e, rfl, _, rfl⟩⟩, rfl, q2 hx hy _ _ (I.hok.fresh (Nat.le_refl _)) rfl⟩
/-- ints, texts, tuples, lists -/
def rAddZ (K : PySem.W.Frag) : R2 := fun x y H Q => rI0 (fun i j => .int (i + j)) x y H Q ∨ (∃ i j, x = .str i ∧ y = .str j ∧ i.length + j.length ≤ sizeLine ∧ Q (.str (i ++ j)) H) ∨ rCatF K x y H Q ∨ rCat x y H Q
theorem op_addZ {X : Cx} : OpR X (binaryOp .Add) (rAddZ X.K) := op_add.or (op_add_str.or (op_catF.or op_cat))
section
variable {K : PySem.W.Frag} {S : Option (Addr × Addr)}
def fAdd : D → D → (D → Prop) → Prop := fun x y R => match x with
  | .int i => asI y fun j => R (.int (i + j))
  | .str a => match y with
    | .str b => a.length + b.length ≤ 10000000 ∧ R (.str (a ++ b))
    | _ => False
  | .tuple a => match y with
    | .tuple b => solids a = true ∧ solids b = true ∧ a.length + b.length ≤ 10000000 ∧ R (.tuple (a ++ b))
    | _ => False
  | .list a => match y with
    | .list b => solids a = true ∧ solids b = true ∧ a.length + b.length ≤ 10000000 ∧ R (.list (a ++ b))
    | _ => False
  | _ => False
theorem od_add : OpD K S (rAddZ K) fAdd := fun H x y d e f1 f2 s r1 n1 r2 n2 R hf Q q => by
  cases d with
  | int i =>
    obtain ⟨j, rfl, hR⟩ := asI_ok (show asI e _ from hf)
    exact .inl ⟨i, j, rp_int r1, rp_int r2, q _ _ H [] hR (Ext.refl _ _) s (int_rp H) .nil List.nodup_nil fun b hb => by cases hb⟩
  | str a =>
    cases e with
    | str b =>
      obtain ⟨hl, hR⟩ := hf
      simp only [Rp] at r1 r2
      exact .inr (.inl ⟨a, b, r1.1, r2.1, lim_ok hl, q _ _ H [] hR (Ext.refl _ _) s (str_rp H) .nil List.nodup_nil fun b hb => by cases hb⟩)
    | _ => exact False.elim hf
  | tuple a =>
    cases e with
    | tuple b =>
      obtain ⟨h1, h2, hl, hR⟩ := hf
      have z1 := r1.solid _ _ _ (by simp only [solid]; exact h1)
      have z2 := r2.solid _ _ _ (by simp only [solid]; exact h2)
      subst z1 z2
      have r1' := r1
      have r2' := r2
      simp only [Rp] at r1 r2
      obtain ⟨l, xs, rfl, hl1, hs1⟩ := r1
      obtain ⟨k, ys, rfl, hl2, hs2⟩ := r2
      have both := hs1.app hs2
      refine .inr (.inr (.inl ⟨l, k, xs, ys, rfl, rfl, hl1.t, hl2.t, by rw [hs1.len, hs2.len]; exact lim_ok hl, fun hx => ?_, fun _ hy => ?_, fun _ _ p o hp ho => ?_⟩))
      · have ha : a = [] := List.eq_nil_of_length_eq_zero (by rw [← hs1.len, hx]; rfl)
        subst ha
        exact q _ _ H [] hR (Ext.refl _ _) s r2' .nil List.nodup_nil fun b hb => by cases hb
      · have hb : b = [] := List.eq_nil_of_length_eq_zero (by rw [← hs2.len, hy]; rfl)
        subst hb
        rw [List.append_nil] at hR
        exact q _ _ H [] hR (Ext.refl _ _) s r1' .nil List.nodup_nil fun b hb => by cases hb
      · have e := Ext.new (c := ⟨K, S⟩) (o := .frz o (.tup (xs ++ ys))) hp
        refine q _ (.ref p) _ [] hR e (s.new hp) ?_ .nil List.nodup_nil fun b hb => by cases hb
        simp only [Rp]
        exact ⟨p, _, rfl, .new ho, both.ext .nil e s⟩
    | _ => exact False.elim hf
  | list a =>
    cases e with
    | list b =>
      obtain ⟨h1, h2, hl, hR⟩ := hf
      simp only [Rp] at r1 r2
      obtain ⟨l, xs, g1, rfl, rfl, hl1, hs1⟩ := r1
      obtain ⟨k, ys, g2, rfl, rfl, hl2, hs2⟩ := r2
      have z1 := hs1.solid _ _ _ h1
      have z2 := hs2.solid _ _ _ h2
      subst z1 z2
      have both := hs1.app hs2
      refine .inr (.inr (.inr ⟨l, k, xs, ys, rfl, rfl, hl1, hl2, by rw [hs1.len, hs2.len]; exact lim_ok hl, fun p hp => ?_⟩))
      have e := Ext.new (c := ⟨K, S⟩) (o := .lst (xs ++ ys)) hp
      refine q _ (.ref p) _ [p] hR e (s.new hp) ?_ (fun b hb => by rw [List.mem_singleton.mp hb]; exact s.fresh hp) (List.pairwise_singleton _ _) fun b hb => by rw [List.mem_singleton.mp hb]; exact hp
      simp only [Rp]
      exact ⟨p, _, [], rfl, rfl, upd_same, both.ext .nil e s⟩
    | _ => exact False.elim hf
  | none => exact False.elim hf
  | bool b => exact False.elim hf
  | dict kvs => exact False.elim hf
/-- a, b = a list of that length -/
def asL (d : D) (k : List D → Prop) : Prop := match d with
  | .list ds => k ds
  | _ => False
def dgUnl (n : Nat) (ms : DMgs) : DMg := fun d ρ R => asL d fun ds => ds.length = n ∧ ms ds ρ R
/-- x op= e over ints -/
def sAugI (i : Nat) (f : Int → Int → Int) (m : DM) : DMS := fun ρ R => look ρ[i]? fun d => asI d fun a => m ρ fun e => asI e fun b => R.nx (ρ.set i (.own (.int (f a b))))
end
end Z
set_option Elab.async false
set_option linter.all false
set_option maxRecDepth 100000
set_option maxHeartbeats 4000000
/-! Z11: helps for the plain part. -/
namespace Z
open PySem PySem.Spec PyProof.Rows L2
/-! ### comprehensions -/
section
variable {tg : DMg} {mt : DMt} {me : DM} {ρ : En} {R : List D → Prop}
theorem compD_acc {α : Type} (enc f : α → D) : ∀ (ys : List α) (acc : List D), (∀ y ∈ ys, ∀ (k : D → Prop) (k0 : Prop), k (f y) → tg (enc y) ρ fun ρ' => mt ρ' fun b => cond b (me ρ' k) k0) → R (acc ++ ys.map f) → compD tg mt me ρ R (ys.map enc) acc
  | [], acc, _, h => by simpa [compD] using h
  | y :: ys, acc, hs, h => by
    show tg (enc y) ρ fun ρ' => mt ρ' fun b => cond b (me ρ' fun z => compD tg mt me ρ R (ys.map enc) (acc ++ [z])) (compD tg mt me ρ R (ys.map enc) acc)
    exact hs y (List.mem_cons_self ..) _ _ (compD_acc enc f ys (acc ++ [f y]) (fun z hz => hs z (List.mem_cons_of_mem _ hz)) (by simpa using h))
/-- each item gives one -/
theorem compD_map {α : Type} {ys : List α} {enc : α → D} (f : α → D) (hs : ∀ y ∈ ys, ∀ (k : D → Prop) (k0 : Prop), k (f y) → tg (enc y) ρ fun ρ' => mt ρ' fun b => cond b (me ρ' k) k0) (h : R (ys.map f)) : compD tg mt me ρ R (ys.map enc) [] :=
  compD_acc enc f ys [] hs (by simpa using h)
theorem compD_facc {α : Type} (enc f : α → D) (p : α → Bool) : ∀ (ys : List α) (acc : List D), (∀ y ∈ ys, ∀ (k : D → Prop) (k0 : Prop), (p y = true → k (f y)) → (p y = false → k0) → tg (enc y) ρ fun ρ' => mt ρ' fun b => cond b (me ρ' k) k0) → R (acc ++ (ys.filter p).map f) → compD tg mt me ρ R (ys.map enc) acc
  | [], acc, _, h => by simpa [compD] using h
  | y :: ys, acc, hs, h => by
    show tg (enc y) ρ fun ρ' => mt ρ' fun b => cond b (me ρ' fun z => compD tg mt me ρ R (ys.map enc) (acc ++ [z])) (compD tg mt me ρ R (ys.map enc) acc)
    refine hs y (List.mem_cons_self ..) _ _ (fun hp => ?_) (fun hp => ?_)
    · exact compD_facc enc f p ys (acc ++ [f y]) (fun z hz => hs z (List.mem_cons_of_mem _ hz)) (by simpa [hp] using h)
    · exact compD_facc enc f p ys acc (fun z hz => hs z (List.mem_cons_of_mem _ hz)) (by simpa [hp] using h)
/-- those items that p takes give one each -/
theorem compD_filter {α : Type} {ys : List α} {enc : α → D} (f : α → D) (p : α → Bool) (hs : ∀ y ∈ ys, ∀ (k : D → Prop) (k0 : Prop), (p y = true → k (f y)) → (p y = false → k0) → tg (enc y) ρ fun ρ' => mt ρ' fun b => cond b (me ρ' k) k0) (h : R ((ys.filter p).map f)) : compD tg mt me ρ R (ys.map enc) [] :=
  compD_facc enc f p ys [] hs (by simpa using h)
end
/-! ### loops -/
/-- I: what holds ahead of each turn -/
theorem forD_inv {mg : DMg} {mb : DMS} {F : List Nat} {R : DEnds} (I : Nat → En → Prop) : ∀ (xs : List D) (n : Nat) (ρ : En), I n ρ →
    (∀ i x ρ (Nx : En → Prop), xs[i]? = some x → I (n + i) ρ → (∀ ρ', I (n + i + 1) (hide F ρ') → Nx ρ') → mg x ρ fun ρ1 => mb ρ1 ⟨Nx, R.rt, fun ρ' => R.nx (hide F ρ'), Nx⟩) → (∀ ρ, I (n + xs.length) ρ → R.nx ρ) → forD mg mb F R xs ρ
  | [], n, ρ, h0, _, hd => hd ρ h0
  | x :: xs, n, ρ, h0, hs, hd => hs 0 x ρ _ rfl h0 fun ρ' h' => forD_inv I xs (n + 1) (hide F ρ') h' (fun i y ρ2 Nx e h2 h3 => by
      have := hs (i + 1) y ρ2 Nx (by simpa using e) (by rw [← Nat.add_assoc, Nat.add_right_comm]; exact h2) (fun ρ' h => h3 ρ' (by rw [← Nat.add_assoc, Nat.add_right_comm n i 1] at h; exact h))
      exact this) (fun ρ2 h2 => hd ρ2 (by rw [List.length_cons, Nat.add_comm xs.length 1, ← Nat.add_assoc]; exact h2))
/-! ### data of a shape -/
abbrev tI (xs : List Int) : D := .tuple (xs.map .int)
abbrev tII (xss : List (List Int)) : D := .tuple (xss.map tI)
theorem solids_of {α : Type} {f : α → D} : ∀ {xs : List α}, (∀ x ∈ xs, solid (f x) = true) → solids (xs.map f) = true
  | [], _ => by simp [solids]
  | x :: xs, h => by
    simp only [List.map_cons, solids, Bool.and_eq_true]
    exact ⟨h x (List.mem_cons_self ..), solids_of fun y hy => h y (List.mem_cons_of_mem _ hy)⟩
theorem solids_ints (xs : List Int) : solids (xs.map .int) = true := solids_of fun x _ => by simp [solid]
theorem solid_tI (xs : List Int) : solid (tI xs) = true := by simp only [solid]; exact solids_ints xs
theorem solids_tII (xss : List (List Int)) : solids (xss.map tI) = true := solids_of fun x _ => solid_tI x
theorem solid_tII (xss : List (List Int)) : solid (tII xss) = true := by simp only [solid]; exact solids_tII xss
theorem solid_int (i : Int) : solid (.int i) = true := by simp [solid]
theorem solid_bool (i : Bool) : solid (.bool i) = true := by simp [solid]
theorem solid_str (i : Str) : solid (.str i) = true := by simp [solid]
theorem solid_none : solid .none = true := by simp [solid]
theorem solid_tup (xs : List D) : solid (.tuple xs) = solids xs := by simp [solid]
theorem solids_cons (x : D) (xs : List D) : solids (x :: xs) = (solid x && solids xs) := by simp [solids]
theorem solids_nil : solids [] = true := by simp [solids]
theorem rangeD_len (lo : Int) (n : Nat) (c : Int) : (rangeD lo n c).length = n := by simp [rangeD]
theorem atI_ok {α : Type} {xs : List α} {j : Nat} {i : Int} {x : α} (h : xs[j]? = some x) (e : i = (j : Int)) : atI xs i = some x := by
  subst e
  exact atI_nat h
theorem eqv_int (i j : Int) : PyData.eqv (.int i) (.int j) = (i == j) := by simp [PyData.eqv]
theorem eqv_str (i j : Str) : PyData.eqv (.str i) (.str j) = (i == j) := by simp [PyData.eqv]
/-- ints, texts, bools compared -/
def flat : D → Bool
  | .list _ | .tuple _ | .dict _ => false
  | _ => true
theorem flat_plain {d : D} (h : flat d = true) : d.plain = true ∧ d.depth = 0 := by
  cases d <;> first | (simp [flat] at h; done) | (exact ⟨by simp [PyData.plain, PyData.canLay0], by simp [PyData.depth]⟩)
theorem fEq_flat {neg : Bool} {x y : D} {R : D → Prop} (h1 : flat x = true) (h2 : flat y = true) (h : R (.bool (if neg then !PyData.eqv x y else PyData.eqv x y))) : fEq neg x y R :=
  ⟨(flat_plain h1).1, (flat_plain h2).1, by rw [(flat_plain h1).2]; omega, h⟩
theorem fEq_int {neg : Bool} {i j : Int} {R : D → Prop} (h : R (.bool (if neg then !(i == j) else (i == j)))) : fEq neg (.int i) (.int j) R := fEq_flat rfl rfl (by rw [eqv_int]; exact h)
theorem fEq_str {neg : Bool} {i j : Str} {R : D → Prop} (h : R (.bool (if neg then !(i == j) else (i == j)))) : fEq neg (.str i) (.str j) R := fEq_flat rfl rfl (by rw [eqv_str]; exact h)
end Z
set_option Elab.async false
set_option linter.all false
set_option maxRecDepth 100000
set_option maxHeartbeats 4000000
/-! Z12: in, index, slices, list(), zip. -/
namespace Z
open PySem PySem.Spec PyProof.Rows L2
/-! ### in -/
def rInZ (K : PySem.W.Frag) (neg : Bool) : R2 := fun x y H Q => ∃ d ds, Dp K H x d ∧ (Dp K H y (.list ds) ∨ Dp K H y (.tuple ds)) ∧ d.plain = true ∧ PyData.plainAll ds = true ∧ min (PyData.depthAll ds) d.depth ≤ 60 ∧
  Q (.bl (if neg then !ds.any fun z => PyData.eqv z d else ds.any fun z => PyData.eqv z d)) H
section
variable {X : Cx}
theorem op_notInZ (hu : X.A.units + 64 < cLine) : OpR X (compareOp .NotIn) (rInZ X.K true) := fun pins s σ H x y v u Q I rx ry h => by
  obtain ⟨d, ds, hd, he, pd, pe, hz, q⟩ := h
  obtain ⟨as, r1⟩ := Dp.reads I d x v hd rx
  rcases he with he | he
  · obtain ⟨bs, r2⟩ := Dp.reads I _ y u he ry
    exact SeqAt.notIn_list_data r2 r1 pe pd (by omega) ⟨.bl _, H, I, rfl, q⟩
  · obtain ⟨bs, r2⟩ := Dp.reads I _ y u he ry
    exact SeqAt.notIn_tuple_data r2 r1 pe pd (by omega) ⟨.bl _, H, I, rfl, q⟩
/-! ### t.index(x), l.index(x), ints -/
theorem SqD.typeIs {pins : List (Addr × Obj)} {σ : L2.St} {H : Hp} {s : Shared} {a : Addr} {xs : List V} (I : Inv X pins σ H s) (h : SqD X.K H a xs) : s.TypeIs (.ref a) "tuple" ∧ ∃ ob, s.heap.get? a = some ob ∧ ob.dict = none := by
  rcases h with ⟨o, h, e⟩ | ⟨o, its, n, h1, h2, h3, h4, h5, h6⟩
  · obtain ⟨ho, _, its, rv, o', ho', hc, hd⟩ := I.hok a _ h
    have eo : o = o' := by rw [ho] at ho'; exact Option.some.inj ho'
    subst eo
    exact ⟨⟨o, ho, hc⟩, o, ho, e⟩
  · have ho : s.heap.get? a = some o := I.kIn _ _ h1
    exact ⟨⟨o, ho, h2⟩, o, ho, h3⟩
end
section
variable {K : PySem.W.Frag} {S : Option (Addr × Addr)}
def fIn (neg : Bool) : D → D → (D → Prop) → Prop := fun x y R => match y with
  | .list ds => x.plain = true ∧ PyData.plainAll ds = true ∧ min (PyData.depthAll ds) x.depth ≤ 60 ∧ R (.bool (if neg then !ds.any fun z => PyData.eqv z x else ds.any fun z => PyData.eqv z x))
  | .tuple ds => x.plain = true ∧ PyData.plainAll ds = true ∧ min (PyData.depthAll ds) x.depth ≤ 60 ∧ R (.bool (if neg then !ds.any fun z => PyData.eqv z x else ds.any fun z => PyData.eqv z x))
  | _ => False
theorem od_in {neg : Bool} : OpD K S (rInZ K neg) (fIn neg) := .pure fun H x y d e f1 f2 r1 r2 R hf Q q => by
  cases e with
  | list ds =>
    obtain ⟨h1, h2, h3, hR⟩ := hf
    exact ⟨d, ds, r1.dp _ _ _ h1, .inl (r2.dp _ _ _ (by simpa only [PyData.plain] using h2)), h1, h2, h3, q _ _ hR bl_rp⟩
  | tuple ds =>
    obtain ⟨h1, h2, h3, hR⟩ := hf
    exact ⟨d, ds, r1.dp _ _ _ h1, .inr (r2.dp _ _ _ (by simpa only [PyData.plain] using h2)), h1, h2, h3, q _ _ hR bl_rp⟩
  | _ => exact False.elim hf
def dIndex (m : DM) (ms : DMs) : DM := fun ρ R => m ρ fun d => match d with
  | .list xs => ms ρ fun ys => ∃ (k : Int) (ns : List Int), ys = [.int k] ∧ xs = ns.map .int ∧ k ∈ ns ∧ R (.int (ns.idxOf k : Nat))
  | .tuple xs => ms ρ fun ys => ∃ (k : Int) (ns : List Int), ys = [.int k] ∧ xs = ns.map .int ∧ k ∈ ns ∧ R (.int (ns.idxOf k : Nat))
  | _ => False
end
/-! ### slices -/
/-- the items that a slice takes -/
def cutL {α : Type} (xs : List α) (lo hi : Option Int) : List α := (xs.drop (HT.sIx xs.length 0 lo)).take (HT.sIx xs.length xs.length hi - HT.sIx xs.length 0 lo)
def IsAll (n : Nat) (lo hi : Option Int) : Prop := HT.sIx n 0 lo = 0 ∧ HT.sIx n n hi = n
theorem cutL_all {α : Type} {xs : List α} {lo hi : Option Int} (h : IsAll xs.length lo hi) : cutL xs lo hi = xs := by
  unfold cutL
  rw [h.1, h.2]
  simp
def rSlZ (K : PySem.W.Frag) : V → Option Int → Option Int → Hp → VK → Prop := fun x lo hi H Q =>
  (∃ a xs, x = .ref a ∧ SqL K H a xs ∧ ∀ p, H p = none → Q (.ref p) (upd H p (.lst (cutL xs lo hi)))) ∨
  (∃ a xs, x = .ref a ∧ SqT K H a xs ∧ (IsAll xs.length lo hi → Q (.ref a) H) ∧ (¬ IsAll xs.length lo hi → ∀ p o, H p = none → o.dict = none → Q (.ref p) (upd H p (.frz o (.tup (cutL xs lo hi)))))) ∨
  (∃ z, x = .str z ∧ z.length ≤ sizeLine ∧ Q (.str (cutS z lo hi)) H)
theorem sl_cutT {X : Cx} : SlR X (fun x lo hi H Q => ∃ a xs, x = .ref a ∧ SqT X.K H a xs ∧ (IsAll xs.length lo hi → Q (.ref a) H) ∧ (¬ IsAll xs.length lo hi → ∀ p o, H p = none → o.dict = none → Q (.ref p) (upd H p (.frz o (.tup (cutL xs lo hi)))))) := fun pins s σ H x v vl vu lo hi sl Q I rx hs pl pu h => by
  obtain ⟨a, xs, rfl, hx, q1, q2⟩ := h
  by_cases hw : IsAll xs.length lo hi
  · exact sl_tupA pins s σ H _ v vl vu lo hi sl Q I rx hs pl pu ⟨a, xs, rfl, hx, fun _ => q1 hw, fun z => (z hw).elim⟩
  · cases rx
    obtain ⟨its, r, ht, hz⟩ := I.tuple hx
    have el : its.toArray.size = xs.length := by rw [List.size_toArray]; exact r.length.symm
    refine ⟨"tuple", _, PyProof.Rows.slot_tuple_getitem.lookup, ht.typeIs, HT.getItem_tuple_cut ht hs pl pu (by rw [el]; exact hw) ?_ (by rw [el]; exact hz)⟩
    rw [el]
    have cr := (r.drop (HT.sIx xs.length 0 lo)).take (HT.sIx xs.length xs.length hi - HT.sIx xs.length 0 lo)
    have e := Heap.get?_push_size s.heap (o := { cls := .type "tuple", data := .seq ((its.drop (HT.sIx xs.length 0 lo)).take (HT.sIx xs.length xs.length hi - HT.sIx xs.length 0 lo)).toArray }) rfl
    exact ⟨.ref s.heap.objs.size, _, I.laid (t' := s.toks) (o := .frz { cls := .type "tuple", data := .seq ((its.drop (HT.sIx xs.length 0 lo)).take (HT.sIx xs.length xs.length hi - HT.sIx xs.length 0 lo)).toArray } (.tup (cutL xs lo hi))) (fun b ob w => Heap.get?_push_of_some _ w) (Nat.le_refl _)
      ⟨e, Nat.le_trans (cutV_length xs lo hi) hz, _, cr, ⟨_, e, rfl, _, rfl⟩⟩, rfl, q2 hw _ _ (I.hok.fresh (Nat.le_refl _)) rfl⟩
theorem sl_cut {X : Cx} : SlR X (rSlZ X.K) := SlR.or sl_list (SlR.or sl_cutT sl_str)
section
variable {K : PySem.W.Frag} {S : Option (Addr × Addr)}
abbrev DMo := En → (Option Int → Prop) → Prop
def DO (K : PySem.W.Frag) (S : Option (Addr × Addr)) (t : TO) (m : DMo) : Prop :=
  ∀ (G H : Hp) (ρ : En) (σ : L2.St) (fps : Nat → List Addr), EnvAt ⟨K, S⟩ G H ρ σ fps → ∀ R : Option Int → Prop, m ρ R → ∀ Q : Option Int → Hp → Prop,
    (∀ o H', R o → Ext ⟨K, S⟩ H H' → SrcAt ⟨K, S⟩ H' → Q o H') → t σ H Q
def dNo : DMo := fun _ R => R none
def dPart (m : DM) : DMo := fun ρ R => m ρ fun d => asI d fun i => R (some i)
theorem do_no : DO K S tNoPart dNo := fun G H ρ σ fps E R hm Q q => q none H hm (Ext.refl _ _) E.src
theorem do_part {t : TE} {m : DM} {U : List Nat} (h : DE K S t m U) : DO K S (tPart t) (dPart m) := fun G H ρ σ fps E R hm Q q =>
  h G H ρ σ fps E _ hm _ fun d v H1 fp hR e1 s1 r1 n1 f1 => by
    obtain ⟨i, rfl, hR⟩ := asI_ok hR
    exact ⟨i, rp_int r1, q _ H1 hR e1 s1⟩
/-- a slice of a list, a tuple without lists in it, a text -/
def fCut (d : D) (lo hi : Option Int) (R : D → Prop) : Prop := match d with
  | .list ds => solids ds = true ∧ R (.list (cutL ds lo hi))
  | .tuple ds => solids ds = true ∧ R (.tuple (cutL ds lo hi))
  | .str z => z.length ≤ 10000000 ∧ R (.str (cutS z lo hi))
  | _ => False
def dSlice (m : DM) (ml mh : DMo) : DM := fun ρ R => m ρ fun d => ml ρ fun lo => mh ρ fun hi => fCut d lo hi R
theorem Rps.drop {c : Zc} {H : Hp} : ∀ {ds : List D} {xs : List V}, Rps c H ds xs [] → ∀ n, Rps c H (ds.drop n) (xs.drop n) []
  | ds, xs, h, 0 => by simpa using h
  | [], xs, h, n + 1 => by
    simp only [Rps] at h
    rw [h.1]
    simp [Rps]
  | d :: ds, xs, h, n + 1 => by
    simp only [Rps] at h
    obtain ⟨x, ys, f1, f2, rfl, e, h1, h2⟩ := h
    obtain ⟨rfl, rfl⟩ := List.append_eq_nil_iff.mp e.symm
    exact Rps.drop h2 n
theorem Rps.take {c : Zc} {H : Hp} : ∀ {ds : List D} {xs : List V}, Rps c H ds xs [] → ∀ n, Rps c H (ds.take n) (xs.take n) []
  | ds, xs, h, 0 => by simp [Rps]
  | [], xs, h, n + 1 => by
    simp only [Rps] at h
    rw [h.1]
    simp [Rps]
  | d :: ds, xs, h, n + 1 => by
    simp only [Rps] at h
    obtain ⟨x, ys, f1, f2, rfl, e, h1, h2⟩ := h
    obtain ⟨rfl, rfl⟩ := List.append_eq_nil_iff.mp e.symm
    exact Rps.cons h1 (Rps.take h2 n)
theorem Rps.cut {c : Zc} {H : Hp} {ds : List D} {xs : List V} (h : Rps c H ds xs []) (lo hi : Option Int) : Rps c H (cutL ds lo hi) (cutL xs lo hi) [] := by
  unfold cutL
  rw [h.len]
  exact (h.drop _).take _
theorem de_slice {te : TE} {tl th : TO} {m : DM} {ml mh : DMo} {U : List Nat} (h : DE K S te m U) (hl : DO K S tl ml) (hh : DO K S th mh) : DE K S (tSl (rSlZ K) te tl th) (dSlice m ml mh) [] := fun G H ρ σ fps E R hm Q q =>
  h G H ρ σ fps E _ hm _ fun d v H1 fp hR e1 s1 r1 n1 f1 => hl G H1 ρ σ fps (E.step e1 s1) _ hR _ fun lo H2 hR e2 s2 => hh G H2 ρ σ fps (E.step (e1.trans e2) s2) _ hR _ fun hi H3 hR e3 s3 => by
    have r3 := (r1.ext n1 (e2.trans e3) s1)
    have ee := e1.trans (e2.trans e3)
    cases d with
    | list ds =>
      simp only [Rp] at r3
      obtain ⟨a, xs, gp, rfl, rfl, ha, hv⟩ := r3
      have z := hv.solid _ _ _ hR.1
      subst z
      refine .inl ⟨a, xs, rfl, .of ha, fun p hp => ?_⟩
      have e := Ext.new (c := ⟨K, S⟩) (o := .lst (cutL xs lo hi)) hp
      have hpn := s3.fresh hp
      refine q _ (.ref p) _ [p] hR.2 (ee.trans e) (s3.new hp) ?_ (fun b hb => by rw [List.mem_singleton.mp hb]; exact hpn) (.new (ee.free hp hpn))
      simp only [Rp]
      exact ⟨p, _, [], rfl, rfl, upd_same, (hv.cut lo hi).ext .nil e s3⟩
    | tuple ds =>
      have z := r3.solid _ _ _ (by simp only [solid]; exact hR.1)
      subst z
      have r3' := r3
      simp only [Rp] at r3
      obtain ⟨a, xs, rfl, ha, hv⟩ := r3
      refine .inr (.inl ⟨a, xs, rfl, ha.t, fun w => ?_, fun w p o hp ho => ?_⟩)
      · rw [hv.len] at w
        have hR2 := hR.2
        rw [cutL_all w] at hR2
        exact q _ _ H3 [] hR2 ee s3 r3' .nil (.fresh (fun b hb => by cases hb) List.nodup_nil)
      · have e := Ext.new (c := ⟨K, S⟩) (o := .frz o (.tup (cutL xs lo hi))) hp
        refine q _ (.ref p) _ [] hR.2 (ee.trans e) (s3.new hp) ?_ .nil (.fresh (fun b hb => by cases hb) List.nodup_nil)
        simp only [Rp]
        exact ⟨p, _, rfl, .new ho, (hv.cut lo hi).ext .nil e s3⟩
    | str z =>
      simp only [Rp] at r3
      obtain ⟨rfl, rfl⟩ := r3
      exact .inr (.inr ⟨z, rfl, lim_ok hR.1, q _ _ H3 [] hR.2 ee s3 (str_rp H3) .nil (.fresh (fun b hb => by cases hb) List.nodup_nil)⟩)
    | _ => exact False.elim hR
/-! ### list(xs), list(range(..)) -/
def fList : List D → (D → Prop) → Prop := fun ds R => match ds with
  | [.list xs] => solids xs = true ∧ R (.list xs)
  | [.tuple xs] => solids xs = true ∧ R (.list xs)
  | _ => False
theorem cd_list : CallD K S (fun xs H Q => ∃ p ys, xs = [.ref p] ∧ (SqL K H p ys ∨ SqT K H p ys) ∧ ∀ l, H l = none → Q (.ref l) (upd H l (.lst ys))) fList := fun H xs ds fp s r n R hf Q q => by
  have fin : ∀ (p : Addr) (ys : List V) (es : List D), (SqL K H p ys ∨ SqT K H p ys) → Rps ⟨K, S⟩ H es ys [] → R (.list es) → ∃ p' ys', [V.ref p] = [.ref p'] ∧ (SqL K H p' ys' ∨ SqT K H p' ys') ∧ ∀ l, H l = none → Q (.ref l) (upd H l (.lst ys')) := fun p ys es h1 h2 hR => by
    refine ⟨p, ys, rfl, h1, fun l hl => ?_⟩
    have e := Ext.new (c := ⟨K, S⟩) (o := .lst ys) hl
    refine q (.list es) (.ref l) _ [l] hR e (s.new hl) ?_ (fun b hb => by rw [List.mem_singleton.mp hb]; exact s.fresh hl) (List.pairwise_singleton _ _) fun b hb => by rw [List.mem_singleton.mp hb]; exact hl
    simp only [Rp]
    exact ⟨l, ys, [], rfl, rfl, upd_same, h2.ext .nil e s⟩
  unfold fList at hf
  split at hf
  · obtain ⟨x, rfl, rx⟩ := rps_one r
    simp only [Rp] at rx
    obtain ⟨a, ys, gp, rfl, rfl, h1, h2⟩ := rx
    have z := h2.solid _ _ _ hf.1
    subst z
    exact fin a ys _ (.inl (.of h1)) h2 hf.2
  · obtain ⟨x, rfl, rx⟩ := rps_one r
    have z := rx.solid _ _ _ (by simp only [solid]; exact hf.1)
    subst z
    simp only [Rp] at rx
    obtain ⟨a, ys, rfl, h1, h2⟩ := rx
    exact fin a ys _ (.inr h1.t) h2 hf.2
  · exact False.elim hf
def dListRg (m : DM) : DM := fun ρ R => m ρ fun d => asI d fun j => (-1000000000 ≤ j ∧ j ≤ 10000000) ∧ R (.list (rangeD 0 j.toNat 1))
theorem rg_rps {c : Zc} {H : Hp} {j : Int} : Rps c H (rangeD 0 j.toNat 1) (rgV 0 j) [] := by
  have e1 : rangeD 0 j.toNat 1 = ((List.range j.toNat).map fun (i : Nat) => (i : Int)).map .int := by
    unfold rangeD
    rw [List.map_map]
    exact List.map_congr_left fun i _ => by simp
  have e2 : rgV 0 j = ((List.range j.toNat).map fun (i : Nat) => (i : Int)).map .int := by
    unfold rgV
    rw [List.map_map, Int.sub_zero]
    exact List.map_congr_left fun i _ => by simp
  rw [e1, e2]
  generalize ((List.range j.toNat).map fun (i : Nat) => (i : Int)) = ns
  induction ns with
  | nil => simp [Rps]
  | cons n ns ih => exact Rps.cons (int_rp H) ih
theorem de_listRg {ta : TE} {m : DM} {U : List Nat} (h : DE K S ta m U) : DE K S (tLstRg (tRg1 ta)) (dListRg m) [] := fun G H ρ σ fps E R hm Q q =>
  h G H ρ σ fps E _ hm _ fun d v H1 fp hR e1 s1 r1 n1 f1 => by
    obtain ⟨j, rfl, hj, hR⟩ := asI_ok hR
    refine ⟨j, rp_int r1, ⟨by omega, by omega, by omega, by omega, by omega⟩, fun p hp => ?_⟩
    have e := Ext.new (c := ⟨K, S⟩) (o := .lst (rgV 0 j)) hp
    have hpn := s1.fresh hp
    refine q _ (.ref p) _ [p] hR (e1.trans e) (s1.new hp) ?_ (fun b hb => by rw [List.mem_singleton.mp hb]; exact hpn) (.new (e1.free hp hpn))
    simp only [Rp]
    exact ⟨p, _, [], rfl, rfl, upd_same, rg_rps⟩
end
end Z
set_option Elab.async false
set_option linter.all false
set_option maxRecDepth 100000
set_option maxHeartbeats 4000000
/-! Z13: sorted, zip. -/
namespace Z
open PySem PySem.Spec PyProof.Rows L2
/-! ### sorted(x): what x gives is collected, then sorted -/
section
open PySem.W
variable {prog : Program} {w : World} {A : Around} {E : Value → Shared → Prop} {s : Shared} {β : Type} {vs : List Value} {bs : List β} {enc : β → PyData} {R : Value → β → Prop}
/-- sorted's keywords: none, or reverse=b -/
inductive Rev : Bool → List (Str × Value) → Prop
  | no : Rev false []
  | of (b : Bool) : Rev b [(Str.ofString "reverse", .bool b)]
theorem sorted_any {x : Value} {b : Bool} {kw : List (Str × Value)} {Q : Value → Shared → Prop} (hr : Rev b kw)
    (col : ∀ (E' : Value → Shared → Prop) (Q' : List Value → Shared → Prop), (∀ h', (∀ c o, s.heap.get? c = some o → h'.get? c = some o) → Q' vs { s with heap := h' }) → wpAny (model prog w) A.in1 (collect x) Q' E' s)
    (e : EachIs R vs bs) (er : EachIs (fun v b => ∃ as, Reads s.heap v (enc b) as) vs bs) (hal : AllAlike (bs.map enc)) (hk : Sortable (bs.map enc)) (hL : bs.length ≤ sizeLine) (hu : ∀ b, b ∈ bs → A.units + 2 + (enc b).depth < cLine)
    (h : ∀ (out : List Value) (h1 h' : Heap) (n : Nat), EachIs R out (bs.mergeSort (dataLe b enc)) → (∀ c o, s.heap.get? c = some o → h1.get? c = some o) → (∀ c o, h1.get? c = some o → h'.get? c = some o) → h'.get? h1.objs.size = some (seqObj "list" (List.toArray out) n) → Q (.ref h1.objs.size) { s with heap := h' }) :
    wpAny (model prog w) A (call (.builtin "sorted") [x] kw) Q E s := by
  have hl : vs.length ≤ sizeLine := by rw [e.length]; exact hL
  refine call_function_entry_kw kind_sorted plain_sorted entry_sorted (by cases hr with | no => exact args_sorted1 _ | of b => exact args_sorted_rev _ _) ?_
  unfold Builtin.«sorted»
  refine wpAny_bind (m := checkCount "sorted" 1 1 _) (wpAny_pure ?_)
  refine wpAny_bind (col _ _ fun h1 k1 => ?_)
  refine wpAny_bind (wpAny_newList ?_ hl)
  have ho : (h1.push (seqObj "list" vs.toArray 0)).get? h1.objs.size = some (seqObj "list" vs.toArray 0) := Heap.get?_push_size _ rfl
  have keep : ∀ c o, s.heap.get? c = some o → (h1.push (seqObj "list" vs.toArray 0)).get? c = some o ∧ c ≠ h1.objs.size := fun c o q => ⟨Heap.get?_push_of_some _ (k1 c o q), Nat.ne_of_lt (Heap.lt_size (k1 c o q))⟩
  have er' : EachIs (fun v b => ∃ as, Reads (sortingHeap (h1.push (seqObj "list" vs.toArray 0)) h1.objs.size vs) v (enc b) as) vs bs :=
    er.mono fun _ _ ⟨as, r⟩ => ⟨as, PyProof.Rows.Reads.keeps (fun c o q => sortingHeap_old (keep c o q).2 (keep c o q).1) r⟩
  have S := SortsAt.data (prog := prog) (w := w) (A := A.in1.in1) (s := { s with heap := sortingHeap (h1.push (seqObj "list" vs.toArray 0)) h1.objs.size vs })
    (each_map (R := fun v d => ∃ as, Reads (sortingHeap (h1.push (seqObj "list" vs.toArray 0)) h1.objs.size vs) v d as) enc er') hal hk (bound_map hu)
  have fin : Q (.ref h1.objs.size) { s with heap := sortedHeap (h1.push (seqObj "list" vs.toArray 0)) h1.objs.size vs (sortVals (dataKind (sortingHeap (h1.push (seqObj "list" vs.toArray 0)) h1.objs.size vs) (bs.map enc)) b vs vs).toArray } := by
    obtain ⟨n, hn⟩ := sortedHeap_at (out := (sortVals (dataKind (sortingHeap (h1.push (seqObj "list" vs.toArray 0)) h1.objs.size vs) (bs.map enc)) b vs vs).toArray) ho
    refine h _ h1 _ n (sortVals_data b e er' hal) k1 (fun c o q => ?_) hn
    have lt := Heap.lt_size q
    rw [sortedHeap_old (Nat.ne_of_lt lt) (by rw [Heap.size_push]; exact Nat.lt_succ_of_lt lt)]
    exact Heap.get?_push_of_some _ q
  refine wpAny_bind (wpAny_holding (wpAny_call_entry_kw slot_list_sort ⟨_, ho, rfl⟩ entry_list_sort ?body (by cases hr with | no => exact args_list_sort _ | of b => exact args_list_sort_rev _ _)))
  case body =>
    cases hr with
    | no => exact list_sort_vals (s := { s with heap := h1.push (seqObj "list" vs.toArray 0) }) ho S hl ⟨_, rfl, wpAny_pure ⟨_, rfl, fin⟩⟩
    | of b => exact list_sort_rev_vals (s := { s with heap := h1.push (seqObj "list" vs.toArray 0) }) ho S hl ⟨_, rfl, wpAny_pure ⟨_, rfl, fin⟩⟩
end
/-! ### sorted over the layer -/
theorem vals_each : ∀ {xs : List V} {us : List Value} {ds : List D}, Vals xs us → xs.length = ds.length → PySem.W.EachIs (fun v (p : V × D) => RelV p.1 v) us (xs.zip ds)
  | [], _, [], .nil, _ => .nil
  | _ :: _, _, _ :: _, .cons r t, h => .cons r (vals_each t (by simpa using h))
  | [], _, _ :: _, _, h => by simp at h
  | _ :: _, _, [], _, h => by simp at h
theorem each_vals : ∀ {ps : List (V × D)} {us : List Value}, PySem.W.EachIs (fun v (p : V × D) => RelV p.1 v) us ps → Vals (ps.map (·.1)) us
  | [], _, .nil => .nil
  | _ :: _, _, .cons r t => .cons r (each_vals t)
theorem reads_each {h : Heap} : ∀ {xs : List V} {us : List Value} {ds : List D} {as : List Addr}, xs.length = ds.length → ReadsAll h us ds as → PySem.W.EachIs (fun v (p : V × D) => ∃ as, Reads h v p.2 as) us (xs.zip ds)
  | [], _, [], _, _, .nil => .nil
  | _ :: _, _, _ :: _, _, h, .cons r t => .cons ⟨_, r⟩ (reads_each (by simpa using h) t)
  | [], _, _ :: _, _, h, _ => by simp at h
  | _ :: _, _, [], _, h, _ => by simp at h
/-- the values, sorted as the data are -/
def sortV (b : Bool) (xs : List V) (ds : List D) : List V := ((xs.zip ds).mergeSort (PySem.W.dataLe b (·.2))).map (·.1)
def sortD (b : Bool) (ds : List D) : List D := ds.mergeSort (PySem.W.dataLe b id)
def SortOk (ds : List D) : Prop := PyData.plainAll ds = true ∧ PySem.W.AllAlike ds ∧ PySem.W.Sortable ds ∧ ds.length ≤ 10000000 ∧ PyData.depthAll ds ≤ 50
def rSortZ (K : PySem.W.Frag) (b : Bool) : List V → Hp → VK → Prop := fun vs H Q => ∃ a xs ds, vs = [V.ref a] ∧ (SqL K H a xs ∨ SqT K H a xs) ∧ DpAll K H xs ds ∧ xs.length = ds.length ∧ SortOk ds ∧ ∀ p, H p = none → Q (.ref p) (upd H p (.lst (sortV b xs ds)))
theorem depth_le {k : Nat} : ∀ {ds : List D}, PyData.depthAll ds ≤ k → ∀ d ∈ ds, d.depth ≤ k
  | d :: ds, h, e, he => by
    simp only [PyData.depthAll] at h
    rcases List.mem_cons.mp he with rfl | he
    · exact Nat.le_trans (Nat.le_max_left _ _) h
    · exact depth_le (Nat.le_trans (Nat.le_max_right _ _) h) e he
section
variable {X : Cx}
theorem sort_run {b : Bool} {kw : List (Str × Value)} (hr : Rev b kw) (hu : X.A.units + 64 < cLine) {pins : List (Addr × Obj)} {s : Shared} {σ : L2.St} {H : Hp} {vs : List V} {us : List Value} {Q : VK} (I : Inv X pins σ H s) (r : Vals vs us) (h : rSortZ X.K b vs H Q) :
    wpAny (model X.prog X.w) X.A (call (.builtin "sorted") us kw) (EP X pins σ Q) X.xe s := by
  obtain ⟨a, xs, ds, rfl, hs, hd, hl, ⟨h1, h2, h3, h4, h5⟩, q⟩ := h
  obtain ⟨u, rfl, ru⟩ := vals1 r
  cases ru
  have go : ∀ its : List Value, Vals xs its → (∀ (E' : Value → Shared → Prop) (Q' : List Value → Shared → Prop), (∀ h', (∀ c o, s.heap.get? c = some o → h'.get? c = some o) → Q' its { s with heap := h' }) → wpAny (model X.prog X.w) X.A.in1 (collect (.ref a)) Q' E' s) →
      wpAny (model X.prog X.w) X.A (call (.builtin "sorted") [.ref a] kw) (EP X pins σ Q) X.xe s := fun its rv col => by
    obtain ⟨as, rr⟩ := Dp.readsAll I ds _ its hd rv
    have emap : (xs.zip ds).map (·.2) = ds := by rw [List.map_snd_zip (Nat.le_of_eq hl.symm)]
    refine sorted_any (bs := xs.zip ds) (enc := (·.2)) hr col (vals_each rv hl) (reads_each hl rr) (by rw [emap]; exact h2) (by rw [emap]; exact h3) (by rw [List.length_zip]; exact Nat.le_trans (Nat.min_le_right _ _) (lim_ok h4)) (fun p hp => ?_) fun out g1 h' n e k1 k2 ho => ?_
    · have := depth_le h5 p.2 (List.of_mem_zip hp).2
      show X.A.units + 2 + p.2.depth < cLine
      omega
    · have J : Inv X pins σ H { s with heap := g1 } := I.kept (t' := s.toks) k1
      have rv' := each_vals e
      have hlen : (sortV b xs ds).length ≤ sizeLine := by
        unfold sortV
        rw [List.length_map, List.length_mergeSort, List.length_zip]
        exact Nat.le_trans (Nat.min_le_right _ _) (lim_ok h4)
      exact ⟨.ref g1.objs.size, _, J.laid (t' := s.toks) (o := .lst (sortV b xs ds)) k2 (Nat.le_refl _) ⟨hlen, out, n, rv', ho⟩, rfl, q _ (J.hok.fresh (Nat.le_refl _))⟩
  rcases hs with hs | hs
  · obtain ⟨its, rv, ⟨o, n, ho, hc, _, hdt⟩, hz⟩ := I.list hs
    exact go its rv fun E' Q' k => wpAny_collect_seq a (.inl rfl) ho hc hdt k (by rw [List.size_toArray, ← rv.length]; exact hz)
  · obtain ⟨its, rv, ⟨o, ho, hc, n, hdt⟩, hz⟩ := I.tuple hs
    exact go its rv fun E' Q' k => wpAny_collect_seq a (.inr rfl) ho hc hdt k (by rw [List.size_toArray, ← rv.length]; exact hz)
theorem cr_sortZ (hu : X.A.units + 64 < cLine) : CallR X (.builtin "sorted") (rSortZ X.K false) := fun pins s σ H vs us Q I r h => sort_run .no hu I r h
end
section
variable {K : PySem.W.Frag} {S : Option (Addr × Addr)}
def fSorted (b : Bool) : List D → (D → Prop) → Prop := fun ds R => match ds with
  | [.list xs] => solids xs = true ∧ SortOk xs ∧ R (.list (sortD b xs))
  | [.tuple xs] => solids xs = true ∧ SortOk xs ∧ R (.list (sortD b xs))
  | _ => False
theorem rps_pairs {c : Zc} {H : Hp} : ∀ {ps : List (V × D)}, (∀ p ∈ ps, Rp c H p.2 p.1 []) → Rps c H (ps.map (·.2)) (ps.map (·.1)) []
  | [], _ => .nil
  | p :: ps, h => Rps.cons (h p (List.mem_cons_self ..)) (rps_pairs fun q hq => h q (List.mem_cons_of_mem _ hq))
theorem pairs_rps {c : Zc} {H : Hp} : ∀ {ds : List D} {xs : List V}, Rps c H ds xs [] → ∀ p ∈ xs.zip ds, Rp c H p.2 p.1 []
  | [], xs, h, p, hp => by simp at hp
  | d :: ds, xs, h, p, hp => by
    simp only [Rps] at h
    obtain ⟨x, ys, f1, f2, rfl, e, h1, h2⟩ := h
    obtain ⟨rfl, rfl⟩ := List.append_eq_nil_iff.mp e.symm
    rw [List.zip_cons_cons] at hp
    rcases List.mem_cons.mp hp with rfl | hp
    · exact h1
    · exact pairs_rps h2 p hp
theorem rps_sort {c : Zc} {H : Hp} {ds : List D} {xs : List V} (b : Bool) (h : Rps c H ds xs []) : Rps c H (sortD b ds) (sortV b xs ds) [] := by
  have e : sortD b ds = ((xs.zip ds).mergeSort (PySem.W.dataLe b (·.2))).map (·.2) := by
    have e1 : (xs.zip ds).map (·.2) = ds := by rw [List.map_snd_zip (Nat.le_of_eq h.len.symm)]
    have e2 := List.map_mergeSort (r := PySem.W.dataLe b (fun p : V × D => p.2)) (s := PySem.W.dataLe b id) (f := fun p : V × D => p.2) (l := xs.zip ds) (fun a _ b' _ => rfl)
    rw [e2, e1]
    rfl
  rw [e]
  exact rps_pairs fun p hp => pairs_rps h p (List.mem_mergeSort.mp hp)
theorem sorted_fin {b : Bool} {H : Hp} {x : V} {xs : List D} {f : List Addr} (s : SrcAt ⟨K, S⟩ H) (rx : Rp ⟨K, S⟩ H (.list xs) x f ∨ Rp ⟨K, S⟩ H (.tuple xs) x f) (hs : solids xs = true) (ok : SortOk xs) {R : D → Prop} (hR : R (.list (sortD b xs))) {Q : VK}
    (q : ∀ z v H' fp, R z → Ext ⟨K, S⟩ H H' → SrcAt ⟨K, S⟩ H' → Rp ⟨K, S⟩ H' z v fp → NoS ⟨K, S⟩ fp → fp.Nodup → (∀ a ∈ fp, H a = none) → Q v H') : rSortZ K b [x] H Q := by
  have fin : ∀ (a : Addr) (ys : List V), (SqL K H a ys ∨ SqT K H a ys) → Rps ⟨K, S⟩ H xs ys [] → rSortZ K b [.ref a] H Q := fun a ys h1 h2 => by
    refine ⟨a, ys, xs, rfl, h1, h2.dp _ _ _ ok.1, h2.len, ok, fun l hl => ?_⟩
    have e := Ext.new (c := ⟨K, S⟩) (o := .lst (sortV b ys xs)) hl
    refine q _ (.ref l) _ [l] hR e (s.new hl) ?_ (fun c hc => by rw [List.mem_singleton.mp hc]; exact s.fresh hl) (List.pairwise_singleton _ _) fun c hc => by rw [List.mem_singleton.mp hc]; exact hl
    simp only [Rp]
    exact ⟨l, _, [], rfl, rfl, upd_same, (rps_sort b h2).ext .nil e s⟩
  rcases rx with rx | rx
  · simp only [Rp] at rx
    obtain ⟨a, ys, gp, rfl, rfl, h1, h2⟩ := rx
    have z := h2.solid _ _ _ hs
    subst z
    exact fin a ys (.inl (.of h1)) h2
  · have z := rx.solid _ _ _ (by simp only [solid]; exact hs)
    subst z
    simp only [Rp] at rx
    obtain ⟨a, ys, rfl, h1, h2⟩ := rx
    exact fin a ys (.inr h1.t) h2
theorem cd_sorted {b : Bool} : CallD K S (rSortZ K b) (fSorted b) := fun H xs ds fp s r n R hf Q q => by
  unfold fSorted at hf
  split at hf
  · obtain ⟨x, rfl, rx⟩ := rps_one r
    exact sorted_fin s (.inl rx) hf.1 hf.2.1 hf.2.2 q
  · obtain ⟨x, rfl, rx⟩ := rps_one r
    exact sorted_fin s (.inr rx) hf.1 hf.2.1 hf.2.2 q
  · exact False.elim hf
end
end Z
set_option Elab.async false
set_option linter.all false
set_option maxRecDepth 100000
set_option maxHeartbeats 4000000
/-! Z14: things in a drawn sequence: its reading; zip. -/
namespace Z
open PySem PySem.Spec PyProof.Rows L2
abbrev listR (K : PySem.W.Frag) : List V → Hp → VK → Prop := fun xs H Q => ∃ p ys, xs = [.ref p] ∧ (SqL K H p ys ∨ SqT K H p ys) ∧ ∀ l, H l = none → Q (.ref l) (upd H l (.lst ys))
/-- the body of _law_mixed -/
def tMixed (K : PySem.W.Frag) (E : XK) : TS :=
  tSeq (tAsg (tCB (listR K) (tCons (tVar 1) tNil)) (gName 2))
    (tRet (tLc (iRng1 (tCons (tCB (lenR K) (tCons (tVar 2) tNil)) tNil)) (gName 3) tYes
      (tBM K "list" rPopAt (tVar 2) (tCons (tCall (spD K specPick) [] E (tCons (tVar 0) (tCons (tCB (lenR K) (tCons (tVar 2) tNil)) tNil))) tNil)) [3]))
def specMixed : List D → (D → Prop) → Prop := fun ds R => ∃ xs : List D, (ds = [srcD, .list xs] ∨ ds = [srcD, .tuple xs]) ∧ solids xs = true ∧ xs.length ≤ 1000000 ∧ ∀ ys : List D, ys.Perm xs → R (.list ys)
theorem rps_perm {c : Zc} {H : Hp} {as bs : List V} (p : as.Perm bs) : ∀ {ds : List D}, Rps c H ds bs [] → ∃ es : List D, es.Perm ds ∧ Rps c H es as [] := by
  induction p with
  | nil => exact fun h => ⟨_, List.Perm.refl _, h⟩
  | cons x _ ih =>
    intro ds h
    cases ds with
    | nil => simp [Rps] at h
    | cons d ds =>
      simp only [Rps] at h
      obtain ⟨y, ys, f1, f2, e, e2, h1, h2⟩ := h
      cases e
      obtain ⟨rfl, rfl⟩ := List.append_eq_nil_iff.mp e2.symm
      obtain ⟨es, h3, h4⟩ := ih h2
      exact ⟨d :: es, h3.cons d, Rps.cons h1 h4⟩
  | swap x y l =>
    intro ds h
    match ds, h with
    | [], h => simp [Rps] at h
    | [d], h =>
      simp only [Rps] at h
      obtain ⟨_, _, _, _, e, _, _, e2, _⟩ := h
      subst e2
      cases e
    | d1 :: d2 :: ds, h =>
      simp only [Rps] at h
      obtain ⟨y1, ys, f1, f2, e, e2, h1, y2, zs, f3, f4, e3, e4, h3, h4⟩ := h
      cases e
      cases e3
      subst e4
      obtain ⟨rfl, e5⟩ := List.append_eq_nil_iff.mp e2.symm
      obtain ⟨rfl, rfl⟩ := List.append_eq_nil_iff.mp e5
      exact ⟨d2 :: d1 :: ds, List.Perm.swap d1 d2 ds, Rps.cons h3 (Rps.cons h1 h4)⟩
  | trans _ _ ih1 ih2 =>
    intro ds h
    obtain ⟨es, h1, h2⟩ := ih2 h
    obtain ⟨fs, h3, h4⟩ := ih1 h2
    exact ⟨fs, h3.trans h1, h4⟩
theorem perm_erase {α : Type} {acc xs : List α} {k : Nat} {y : α} (h : xs[k]? = some y) : (acc ++ [y] ++ xs.eraseIdx k).Perm (acc ++ xs) := by
  obtain ⟨hk, e⟩ := List.getElem?_eq_some_iff.mp h
  rw [List.append_assoc]
  refine List.Perm.append_left _ ?_
  have : xs = xs.take k ++ y :: xs.drop (k + 1) := by
    rw [← e, ← List.drop_eq_getElem_cons hk, List.take_append_drop]
  rw [List.eraseIdx_eq_take_drop_succ]
  conv => rhs; rw [this]
  exact (List.perm_middle (a := y) (l₁ := xs.take k) (l₂ := xs.drop (k + 1))).symm
theorem seqIx_nat {j n : Nat} (h : j < n) : seqIndex? (j : Int) n = some j := by
  have e1 : ¬ ((j : Int) < 0) := by omega
  have e2 : (0 : Int) ≤ (j : Int) := by omega
  have e3 : (j : Int) < (n : Int) := by omega
  simp only [seqIndex?, e1, if_false, e2, e3, decide_true, Bool.and_true, if_true, Int.toNat_natCast]
theorem mixed_reading {K : PySem.W.Frag} {vs : List V} {H : Hp} {Q : VK} {E : XK} (h : spD K specMixed vs H Q E) : tMixed K E { nx := fun _ H' => Q .non H', rt := Q } (L2.start ["source", "things", "rest", "lap"] vs) H := by
  obtain ⟨S, ds, fp, R, r, ns0, s, ⟨xs, hds, hsol, hlen, hR⟩, q⟩ := h
  obtain ⟨v, p, ys, rfl, hp, hsq, hys⟩ : ∃ (v : V) (p : Addr) (ys : List V), vs = [v, .ref p] ∧ Rp ⟨K, S⟩ H srcD v [] ∧ (SqL K H p ys ∨ SqT K H p ys) ∧ Rps ⟨K, S⟩ H xs ys [] := by
    rcases hds with rfl | rfl
    · obtain ⟨v, w, f1, f2, rfl, rfl, rv, rw'⟩ := rps_two r
      obtain ⟨_, _, _, rfl⟩ := rp_src rv
      simp only [Rp] at rw'
      obtain ⟨a, ys, gp, rfl, rfl, h1, h2⟩ := rw'
      have z := h2.solid _ _ _ hsol
      subst z
      exact ⟨v, a, ys, rfl, rv, .inl (.of h1), h2⟩
    · obtain ⟨v, w, f1, f2, rfl, rfl, rv, rw'⟩ := rps_two r
      obtain ⟨_, _, _, rfl⟩ := rp_src rv
      have z := rw'.solid _ _ _ (by simp only [solid]; exact hsol)
      subst z
      simp only [Rp] at rw'
      obtain ⟨a, ys, rfl, h1, h2⟩ := rw'
      exact ⟨v, a, ys, rfl, rv, .inr h1.t, h2⟩
  have hst : L2.start ["source", "things", "rest", "lap"] [v, .ref p] = [some v, some (.ref p), none, none] := rfl
  rw [hst]
  refine ⟨.ref p, rfl, p, ys, rfl, hsq, fun l hl => ?_⟩
  have s1 : SrcAt ⟨K, S⟩ (upd H l (.lst ys)) := s.new hl
  have eln := s.fresh hl
  refine ⟨.ref l, rfl, .ref l, ys.length, rfl, .inl ⟨ys, .of upd_same, rfl⟩, _, rfl, by omega, by rw [hys.len]; omega, fun Dd hD => ?_⟩
  have hne : l ≠ Dd := fun z => by rw [← z, upd_same] at hD; cases hD
  have hDn := s1.fresh hD
  have w := walk_range (lo := 0) (n := (ys.length : Int).toNat)
  refine lc_it w (D := Dd) (fun i Hi => Ext ⟨K, S⟩ H Hi ∧ SrcAt ⟨K, S⟩ Hi ∧ ∃ lv acc : List V, Hi l = some (.lst lv) ∧ Hi Dd = some (.lst acc) ∧ (acc ++ lv).Perm ys ∧ acc.length = i) ?_ (fun _ _ _ _ => trivial) (fun i x Hi Hi' hlt P Y => ?_) fun Hn P => ?_
  · exact ⟨(Ext.new hl).trans (Ext.new hD), s1.new hD, ys, [], by rw [upd_ne hne]; exact upd_same, upd_same, List.Perm.refl _, rfl⟩
  · obtain ⟨ex, sx, lv, acc, hlv, hacc, perm, hi⟩ := P
    obtain ⟨rfl, rfl⟩ := Y
    have ltot : acc.length + lv.length = ys.length := by rw [← List.length_append]; exact perm.length_eq
    have hpos : 0 < lv.length := by
      have : i < ys.length := by simpa using hlt
      omega
    have yl := hys.len
    refine ⟨rfl, ?_⟩
    unfold tYes
    simp only [if_true]
    refine ⟨.ref l, rfl, .inl ⟨rfl, lv, .of hlv⟩, v, rfl, .ref l, rfl, .ref l, lv.length, rfl, .inl ⟨lv, .of hlv, rfl⟩, ?_⟩
    refine ⟨S, [srcD, .int lv.length], [], fun d => ∃ k : Int, d = .int k ∧ 0 ≤ k ∧ k < lv.length, (Rps.cons (fp := []) (gp := []) (hp.ext .nil ex s) (.one (int_rp _))), .nil, sx, ⟨lv.length, rfl, by omega, fun k h1 h2 => ⟨k, rfl, h1, by omega⟩⟩, ?_⟩
    rintro d u H4 gp ⟨k, rfl, k0, k1⟩ e4 s4 r4 _ _ _
    have eu := rp_int r4
    subst eu
    have hlv4 := e4 _ _ hlv eln
    have hacc4 := e4 _ _ hacc hDn
    obtain ⟨j, rfl⟩ := Int.eq_ofNat_of_zero_le k0
    have hj : j < lv.length := by omega
    refine ⟨l, lv, _, j, lv[j], rfl, rfl, hlv4, by omega, by omega, seqIx_nat hj, List.getElem?_eq_getElem hj, acc, by rw [upd_ne (Ne.symm hne)]; exact hacc4, Nat.lt_of_lt_of_le (by omega : acc.length < 10000000) (lim_ok (Nat.le_refl _)), ?_⟩
    refine ⟨fun b o hb hn => ?_, (s4.own eln).own hDn, lv.eraseIdx j, acc ++ [lv[j]], by rw [upd_ne hne]; exact upd_same, upd_same, (perm_erase (List.getElem?_eq_getElem hj)).trans perm, by simp [hi]⟩
    have b1 : b ≠ l := fun z => by rw [z, hl] at hb; cases hb
    have b2 : b ≠ Dd := fun z => by
      have := (Ext.new (c := ⟨K, S⟩) (o := .lst ys) hl) b o hb hn
      rw [z, hD] at this
      cases this
    rw [upd_ne b2, upd_ne b1]
    exact (ex.trans e4) b o hb hn
  · obtain ⟨ex, sx, lv, acc, hlv, hacc, perm, hi⟩ := P
    have ltot : acc.length + lv.length = ys.length := by rw [← List.length_append]; exact perm.length_eq
    have hnil : lv = [] := List.eq_nil_of_length_eq_zero (by
      have : acc.length = ys.length := by simpa using hi
      omega)
    subst hnil
    rw [List.append_nil] at perm
    obtain ⟨es, pe, re⟩ := rps_perm perm (hys.ext .nil ex s)
    have hDH : H Dd = none := by
      rw [← upd_ne (H := H) (o := .lst ys) (Ne.symm hne)]
      exact hD
    refine q (.list es) (.ref Dd) Hn [Dd] (hR es pe) ex sx ?_ (fun b hb => by rw [List.mem_singleton.mp hb]; exact hDn) (List.pairwise_singleton _ _) fun b hb => by rw [List.mem_singleton.mp hb]; exact hDH
    simp only [Rp]
    exact ⟨Dd, acc, [], rfl, rfl, hacc, re⟩
/-! ### zip of two lists, of two tuples -/
section
variable {K : PySem.W.Frag} {S : Option (Addr × Addr)}
def zipD (ds es : List D) : List D := List.zipWith (fun a b => .tuple [a, b]) ds es
def dZip (ms : DMs) : DMs := fun ρ R => ms ρ fun ds => match ds with
  | [.list xs, .list ys] => R (zipD xs ys)
  | [.tuple xs, .tuple ys] => R (zipD xs ys)
  | _ => False
theorem iter_zip {c : Zc} {H1 : Hp} {J : It} {ds es : List D} {xs ys : List V} {g1 g2 FP : List Addr} {G : Hp → Prop} (w : Walk J (min xs.length ys.length) G (YPair (fun i => xs[i]?) fun i => ys[i]?)) (r1 : Rps c H1 ds xs g1) (r2 : Rps c H1 es ys g2) (s1 : ∀ b ∈ g1, b ∈ FP) (s2 : ∀ b ∈ g2, b ∈ FP)
    (hG : ∀ H', Tk H1 H' → (∀ b ∈ FP, H' b = H1 b) → G H') (nF : NoS c FP) : IterOk true c J H1 (zipD ds es) FP := by
  have el : (zipD ds es).length = min xs.length ys.length := by rw [r1.len, r2.len]; simp [zipD]
  unfold IterOk
  rw [el]
  refine w.mono (fun H' g => hG H' g.1 g.2.1) fun i H' x H'' hi g y => ?_
  obtain ⟨T, a, b, rfl, hT, rfl, ha, hb⟩ := y
  have e := Ext.new (c := c) (o := .tup [a, b]) hT
  obtain ⟨d1, f1, e1, q1, k1⟩ := (r1.mono g.1 _ _ _ fun b hb => g.2.1 b (s1 b hb)).atV ha
  obtain ⟨d2, f2, e2, q2, k2⟩ := (r2.mono g.1 _ _ _ fun b hb => g.2.1 b (s2 b hb)).atV hb
  have n1 : NoS c f1 := fun z hz => nF z (s1 z (k1 z hz))
  have n2 : NoS c f2 := fun z hz => nF z (s2 z (k2 z hz))
  exact ⟨e, g.2.2.new hT, .tuple [d1, d2], f1 ++ f2, by simp [zipD, List.getElem?_zipWith, e1, e2], .inr ⟨rfl, _, T, _, rfl, rfl, .of upd_same, Rps.cons (q1.ext n1 e g.2.2) (.one (q2.ext n2 e g.2.2))⟩,
    fun z hz => (List.mem_append.mp hz).elim (fun h => s1 z (k1 z h)) fun h => s2 z (k2 z h)⟩
theorem walk_zipT {a b : Addr} {xs ys : List V} : Walk (RZ.ItzT K a b) (min xs.length ys.length) (fun H => SqT K H a xs ∧ SqT K H b ys) (YPair (fun i => xs[i]?) (fun i => ys[i]?)) where
  goes := fun i H hi h => ⟨xs, ys, xs[i]'(by omega), ys[i]'(by omega), h.1, h.2, List.getElem?_eq_getElem _, List.getElem?_eq_getElem _⟩
  stops := fun H h => ⟨xs, ys, h.1, h.2, by omega⟩
  yields := fun i H v H' _ h y => by
    obtain ⟨T, x, y, e1, e2, e3, e4, e5⟩ := y
    exact ⟨T, x, y, e1, e2, e3, e4 xs h.1, e5 ys h.2⟩
theorem di_zip {t : TA} {ms : DMs} {U : List Nat} (h : DA K S t ms U) : DI true K S (RZ.iZipA K t) (dZip ms) U := fun G H ρ σ fps E R hm Q q =>
  h G H ρ σ fps E _ hm _ fun ds vs H1 fp hR e1 s1 r1 n1 f1 => by
    have th : ∀ a ∈ fp, ∃ o, H1 a = some o := fun a ha => let ⟨o, ho, _⟩ := r1.there _ _ _ a ha; ⟨o, ho⟩
    split at hR
    · obtain ⟨x, y, f2, f3, rfl, rfl, rx, ry⟩ := rps_two r1
      simp only [Rp] at rx ry
      obtain ⟨a, xs, g1, rfl, rfl, h1, h2⟩ := rx
      obtain ⟨b, ys, g2, rfl, rfl, h3, h4⟩ := ry
      exact ⟨a, b, xs, ys, rfl, .inl ⟨.of h1, .of h3, q _ _ H1 _ hR e1 s1 (iter_zip (walk_zip rfl) h2 h4 (fun z hz => List.mem_append_left _ (List.mem_cons_of_mem _ hz)) (fun z hz => List.mem_append_right _ (List.mem_cons_of_mem _ hz))
        (fun H' _ k => ⟨.of (by rw [k a (by simp)]; exact h1), .of (by rw [k b (by simp)]; exact h3)⟩) n1) n1 th f1⟩⟩
    · obtain ⟨x, y, f2, f3, rfl, rfl, rx, ry⟩ := rps_two r1
      simp only [Rp] at rx ry
      obtain ⟨a, xs, rfl, h1, h2⟩ := rx
      obtain ⟨b, ys, rfl, h3, h4⟩ := ry
      exact ⟨a, b, xs, ys, rfl, .inr ⟨h1.t, h3.t, q _ _ H1 _ hR e1 s1 (iter_zip walk_zipT h2 h4 (fun z hz => List.mem_append_left _ hz) (fun z hz => List.mem_append_right _ hz)
        (fun H' tk _ => ⟨tk.sq h1.t, tk.sq h3.t⟩) n1) n1 th f1⟩⟩
    · exact False.elim hR
end
end Z
set_option Elab.async false
set_option linter.all false
set_option maxRecDepth 100000
set_option maxHeartbeats 4000000
/-! Z15: the truth of a value; xs[i] = e. -/
namespace Z
open PySem PySem.Spec PyProof.Rows L2
section
variable {K : PySem.W.Frag} {S : Option (Addr × Addr)}
def tru (d : D) (R : Bool → Prop) : Prop := match d with
  | .none => R false
  | .bool b => R b
  | .int i => R (i != 0)
  | .list xs => R (!xs.isEmpty)
  | .tuple xs => R (!xs.isEmpty)
  | .str z => z.length ≤ 10000000 ∧ R ((z.length : Int) != 0)
  | _ => False
def dTru (m : DM) : DMt := fun ρ R => m ρ fun d => tru d R
end
/-- a loop that folds: I, what holds at each state -/
theorem forD_fold {α τ : Type} {mg : DMg} {mb : DMS} {F : List Nat} {R : DEnds} (enc : α → D) (step : τ → α → τ) (I : τ → En → Prop) : ∀ (ys : List α) (t : τ) (ρ : En), I t ρ →
    (∀ y ∈ ys, ∀ t ρ (Nx Bk : En → Prop), I t ρ → (∀ ρ', I (step t y) (hide F ρ') → Nx ρ') → mg (enc y) ρ fun ρ1 => mb ρ1 ⟨Nx, R.rt, Bk, Nx⟩) → (∀ ρ, I (ys.foldl step t) ρ → R.nx ρ) → forD mg mb F R (ys.map enc) ρ
  | [], t, ρ, h0, _, hd => hd ρ h0
  | y :: ys, t, ρ, h0, hs, hd => hs y (List.mem_cons_self ..) t ρ _ _ h0 fun ρ' h' => forD_fold enc step I ys (step t y) (hide F ρ') h' (fun z hz => hs z (List.mem_cons_of_mem _ hz)) hd
/-- .. whose turns all go on to the next one -/
theorem forD_nx {mg : DMg} {mb : DMS} {F : List Nat} {R : DEnds} (I : Nat → En → Prop) (xs : List D) (n : Nat) (ρ : En) (h0 : I n ρ)
    (hs : ∀ i x ρ (E : DEnds), xs[i]? = some x → I (n + i) ρ → (∀ ρ', I (n + i + 1) (hide F ρ') → E.nx ρ') → mg x ρ fun ρ1 => mb ρ1 E) (hd : ∀ ρ, I (n + xs.length) ρ → R.nx ρ) : forD mg mb F R xs ρ :=
  forD_inv I xs n ρ h0 (fun i x ρ Nx hx hI hN => hs i x ρ _ hx hI hN) hd
theorem range_at {n : Nat} {i : Nat} {x : D} (h : (rangeD 0 n 1)[i]? = some x) : i < n ∧ x = .int ((i : Nat) : Int) := by
  have hi : i < n := by
    have := (List.getElem?_eq_some_iff.mp h).1
    rwa [rangeD_len] at this
  refine ⟨hi, ?_⟩
  unfold rangeD at h
  rw [List.getElem?_map, List.getElem?_range hi] at h
  have := Option.some.inj h
  rw [← this]
  simp
end Z
set_option Elab.async false
set_option linter.all false
set_option maxRecDepth 100000
set_option maxHeartbeats 4000000
/-! Z16: max, min, abs, chains, is None. -/
namespace Z
open PySem PySem.Spec PyProof.Rows L2
section
variable {K : PySem.W.Frag} {S : Option (Addr × Addr)}
def f2L (f : Int → Int → Int) : List D → (D → Prop) → Prop := fun ds R => match ds with
  | [x, y] => asI x fun i => asI y fun j => R (.int (f i j))
  | _ => False
def fAbs : List D → (D → Prop) → Prop := fun ds R => match ds with
  | [.int i] => R (.int (if i < 0 then -i else i))
  | _ => False
/-- x is None -/
def isNone : D → Bool
  | .none => true
  | _ => false
def fIsN (neg : Bool) : D → D → (D → Prop) → Prop := fun x y R => match y with
  | .none => R (.bool (if neg then !isNone x else isNone x))
  | _ => False
/-- x op y op' z -/
def dChain (f f' : D → D → (D → Prop) → Prop) (ma mb mc : DM) : DM := fun ρ R => ma ρ fun x => mb ρ fun y => f x y fun z => asB z fun k => cond k (mc ρ fun w => f' y w R) (R (.bool false))
theorem de_chain {r r' : R2} {f f' : D → D → (D → Prop) → Prop} {ta tb tc : TE} {ma mb mc : DM} {U V W : List Nat} (h : OpD K S r f) (h' : OpD K S r' f') (ha : DE K S ta ma U) (hb : DE K S tb mb V) (hc : DE K S tc mc W) : DE K S (tChain r r' ta tb tc) (dChain f f' ma mb mc) [] := fun G H ρ σ fps E R hm Q q =>
  ha G H ρ σ fps E _ hm _ fun d v H1 fp hR e1 s1 r1 n1 f1 => hb G H1 ρ σ fps (E.step e1 s1) _ hR _ fun e w H2 gp hR2 e2 s2 r2 n2 f2 =>
    h H2 v w d e fp gp s2 (r1.ext n1 e2 s1) n1 r2 n2 _ hR2 _ fun z u H3 kp hz e3 s3 r3 n3 nd fr => by
      obtain ⟨k, rfl, hk⟩ := asB_ok hz
      have e13 := e1.trans (e2.trans e3)
      refine ⟨k, rp_bl r3, ?_⟩
      cases k with
      | true => exact iteT (hc G H3 ρ σ fps (E.step e13 s3) _ hk _ fun c x H4 hp hR4 e4 s4 r4 n4 f4 => h' H4 w x e c gp hp s4 ((r2.ext n2 e3 s2).ext n2 e4 s3) n2 r4 n4 _ hR4 _ fun z' u' H5 lp hz5 e5 s5 r5 n5 nd5 fr5 =>
          q z' u' H5 lp hz5 (e13.trans (e4.trans e5)) s5 r5 n5 (.fresh (fun a ha => (e13.trans e4).free (fr5 a ha) (n5 a ha)) nd5))
      | false => exact iteF (q (.bool false) (.bl false) H3 [] hk e13 s3 (bl_rp H3) .nil (.fresh (fun a ha => by cases ha) List.nodup_nil))
end
end Z
set_option Elab.async false
set_option linter.all false
set_option maxRecDepth 100000
set_option maxHeartbeats 4000000
/-! Z17: zip(a, b, strict=True) of sequences of one length. -/
set_option Elab.async false
set_option linter.all false
set_option maxRecDepth 100000
set_option maxHeartbeats 4000000
/-! Z18: zip(a, b, strict=True) over the layer: lists and tuples of one length. -/
namespace Z
open PySem PySem.Spec PyProof.Rows L2
def ItIs (k : Bool) (h : Heap) (it a : Addr) (i : Nat) : Prop := if k then h.IsTupleIter it a i else h.IsListIter it a i
section
variable {X : Cx} {pins : List (Addr × Obj)} {σ : L2.St} {H : Hp} {s : Shared}
theorem ItIs.at {k : Bool} {h h' : Heap} {it a : Addr} {i : Nat} (x : ItIs k h it a i) (e : ∀ o, h.get? it = some o → h'.get? it = some o) : ItIs k h' it a i := by
  cases k with
  | true => exact Heap.IsTupleIter.at x e
  | false => exact Heap.IsListIter.at x e
end
section
variable {K : PySem.W.Frag} {S : Option (Addr × Addr)}
def dZipS (ms : DMs) : DMs := fun ρ R => ms ρ fun ds => match ds with
  | [.list xs, .list ys] => xs.length = ys.length ∧ R (zipD xs ys)
  | [.tuple xs, .tuple ys] => xs.length = ys.length ∧ R (zipD xs ys)
  | [.list xs, .tuple ys] => xs.length = ys.length ∧ R (zipD xs ys)
  | [.tuple xs, .list ys] => xs.length = ys.length ∧ R (zipD xs ys)
  | _ => False
end
end Z
set_option Elab.async false
set_option linter.all false
set_option maxRecDepth 100000
set_option maxHeartbeats 4000000
/-! Z19: x[i] = e, x an own list. -/
namespace Z
open PySem PySem.Spec PyProof.Rows L2
section
variable {K : PySem.W.Frag} {S : Option (Addr × Addr)}
theorem Rps.set {c : Zc} {H : Hp} {y : D} {w : V} {fp : List Addr} (hw : Rp c H y w fp) : ∀ {ds : List D} {xs : List V} {gp : List Addr} {j : Nat}, Rps c H ds xs gp → j < ds.length →
    ∃ gp', Rps c H (ds.set j y) (xs.set j w) gp' ∧ (∀ b ∈ gp', b ∈ gp ∨ b ∈ fp) ∧ (gp.Nodup → fp.Nodup → (∀ b ∈ gp, b ∉ fp) → gp'.Nodup)
  | [], _, _, _, _, hj => absurd hj (Nat.not_lt_zero _)
  | d :: ds, xs, gp, 0, h, _ => by
    simp only [Rps] at h
    obtain ⟨x, ys, f1, f2, rfl, rfl, h1, h2⟩ := h
    refine ⟨fp ++ f2, .cons hw h2, fun b hb => ?_, fun n1 n2 n3 => ?_⟩
    · rcases List.mem_append.mp hb with z | z
      · exact .inr z
      · exact .inl (List.mem_append_right _ z)
    · exact List.nodup_append.mpr ⟨n2, (List.nodup_append.mp n1).2.1, fun a ha b hb e => n3 b (List.mem_append_right _ hb) (e ▸ ha)⟩
  | d :: ds, xs, gp, j + 1, h, hj => by
    simp only [Rps] at h
    obtain ⟨x, ys, f1, f2, rfl, rfl, h1, h2⟩ := h
    obtain ⟨g', k1, k2, k3⟩ := Rps.set hw (j := j) h2 (by simpa using hj)
    refine ⟨f1 ++ g', .cons h1 k1, fun b hb => ?_, fun n1 n2 n3 => ?_⟩
    · rcases List.mem_append.mp hb with z | z
      · exact .inl (List.mem_append_left _ z)
      · rcases k2 b z with z | z
        · exact .inl (List.mem_append_right _ z)
        · exact .inr z
    · obtain ⟨m1, m2, m3⟩ := List.nodup_append.mp n1
      refine List.nodup_append.mpr ⟨m1, k3 m2 n2 fun b hb => n3 b (List.mem_append_right _ hb), fun a ha b hb e => ?_⟩
      subst e
      rcases k2 a hb with z | z
      · exact m3 a ha a z rfl
      · exact n3 a (List.mem_append_left _ ha) z
/-- x[i] = e -/
def sSetI (i : Nat) (mi me : DM) : DMS := fun ρ R => me ρ fun y => ownL ρ[i]? fun ds => mi ρ fun d => asI d fun k => ∃ j, ixN ds.length k = some j ∧ j < ds.length ∧ R.nx (ρ.set i (.own (.list (ds.set j y))))
theorem ds_setI (i : Nat) {te ti : TE} {me mi : DM} {U : List Nat} (he : DE K S te me []) (hi : DE K S ti mi U) : DS K S (tAsg te (gSub (tVar i) ti rSetL)) (sSetI i mi me) [i] := fun G H ρ σ fps E R hm D d => by
  refine he G H ρ σ fps E _ hm _ fun y w H1 fp hR e1 s1 ry ny fy => ?_
  have E1 := E.step e1 s1
  obtain ⟨ds, hiS, hm2⟩ := ownL_ok hR
  obtain ⟨v, ev, r, n, nd, g⟩ := E1.ok i _ hiS
  have r' := r
  simp only [Rp] at r'
  obtain ⟨a, xs, gp, rfl, ef, hL, rs⟩ := r'
  refine ⟨.ref a, ev, hi G H1 ρ σ fps E1 _ hm2 _ fun dk wk H2 fk hk e2 s2 rk nk fyk => ?_⟩
  obtain ⟨k, rfl, j, hj, hjl, hN⟩ := asI_ok hk
  have E2 := E1.step e2 s2
  have han : ¬ Zc.has ⟨K, S⟩ a := n a (by rw [ef]; exact List.mem_cons_self ..)
  have hL2 : H2 a = some (.lst xs) := e2 a _ hL han
  have gpn : ∀ b ∈ gp, b ∈ fps i := fun b hb => by rw [ef]; exact List.mem_cons_of_mem _ hb
  have ndc : (a :: gp).Nodup := by rw [← ef]; exact nd
  have hag : a ∉ gp := (List.nodup_cons.mp ndc).1
  have il : i < ρ.length := (List.getElem?_eq_some_iff.mp hiS).1
  have offH : ∀ b ∈ fps i, b ∉ fp := fun b hb z => by
    obtain ⟨o, ho, _⟩ := E.thereAt il b hb
    rw [fy.off b z] at ho
    cases ho
  have hafp : a ∉ fp := offH a (by rw [ef]; exact List.mem_cons_self ..)
  have rs2 := rs.ext (fun b hb => n b (gpn b hb)) e2 s1
  have ry2 := ry.ext ny e2 s1
  obtain ⟨g', k1, k2, k3⟩ := Rps.set ry2 rs2 hjl
  refine ⟨a, xs, k, j, rfl, rp_int rk, hL2, by rw [rs.len]; exact hj, ?_⟩
  have tk : Tk H2 (upd H2 a (.lst (xs.set j w))) := fun b u hu hf => by
    rw [upd_ne fun z => by rw [z, hL2] at hu; cases hu; exact hf]
    exact hu
  have rr : Rp ⟨K, S⟩ (upd H2 a (.lst (xs.set j w))) (.list (ds.set j y)) (.ref a) (a :: g') := by
    simp only [Rp]
    refine ⟨a, xs.set j w, g', rfl, rfl, upd_same, ?_⟩
    refine k1.mono tk _ _ _ fun b hb => upd_ne fun z => ?_
    rcases k2 b hb with z' | z'
    · exact hag (z ▸ z')
    · exact hafp (z ▸ z')
  refine d.nx _ σ _ _ hN (E2.change hiS ev (by rw [ef]; exact List.mem_cons_self ..) rr (fun b hb => ?_) ?_) ⟨rfl, fun _ _ => rfl⟩
  · rcases List.mem_cons.mp hb with z | hb
    · rw [z, ef]; exact .inl (List.mem_cons_self ..)
    · rcases k2 b hb with z | z
      · exact .inl (gpn b z)
      · refine .inr ⟨back_none E.ext (fy.off b z) (ny b z), ny b z, fun q hq hb' => ?_⟩
        obtain ⟨o, ho, _⟩ := E.thereAt hq b hb'
        rw [fy.off b z] at ho
        cases ho
  · refine List.nodup_cons.mpr ⟨fun z => ?_, k3 (List.nodup_cons.mp ndc).2 (fy.2 rfl) fun b hb z => offH b (gpn b hb) z⟩
    rcases k2 a z with z' | z'
    · exact hag z'
    · exact hafp z'
theorem ixN_nat {n j : Nat} (h : j < n) : ixN n ((j : Nat) : Int) = some j := by
  unfold ixN
  rw [if_pos (by omega), if_pos (by omega)]
  rfl
end
end Z
set_option Elab.async false
set_option linter.all false
set_option maxRecDepth 100000
set_option maxHeartbeats 4000000
/-! Z20: sum of a tuple, tuple(range), stars in displays, all, any. -/
namespace Z
open PySem PySem.Spec PyProof.Rows L2
/-! ### sum -/
def rSumA (K : PySem.W.Frag) : List V → Hp → VK → Prop := fun vs H Q => ∃ (a : Addr) (ns : List Int), vs = [V.ref a] ∧ (SqL K H a (ns.map V.int) ∨ SqT K H a (ns.map V.int)) ∧ Q (.int ns.sum) H
theorem cr_sumA {X : Cx} (hc : X.calm = true) : CallR X (.builtin "sum") (rSumA X.K) := fun pins s σ H vs us Q I r h => by
  obtain ⟨a, ns, rfl, hs, q⟩ := h
  rcases hs with hs | hs
  · exact cr_sum hc pins s σ H _ us Q I r ⟨a, ns, rfl, hs, q⟩
  · obtain ⟨its, rv, ht, _⟩ := I.tuple hs
    rw [Vals.ref1 r]
    have ht' : s.heap.IsTuple a its.toArray := ht
    obtain ⟨xs, e⟩ := rv.ints.allInts.items
    have hn : numsOf (intItems xs).toList = ns := by rw [← e]; exact rv.ints.numsOf
    rw [nums_intItems] at hn
    rw [e] at ht'
    refine PySem.W.ktm_sumG (I.ok.hd hc) ht' fun h' tk t' hk => ?_
    rw [preSum_eq, List.take_of_length_le (by simp), hn]
    exact ⟨.int _, H, I.kept hk, ⟨_, rfl⟩, q⟩
/-! ### tuple(range) -/
section
variable {K : PySem.W.Frag} {S : Option (Addr × Addr)}
/-- sum of a list, a tuple of ints -/
def fSumA : List D → (D → Prop) → Prop := fun ds R => match ds with
  | [.list xs] => ∃ ns : List Int, xs = ns.map .int ∧ R (.int ns.sum)
  | [.tuple xs] => ∃ ns : List Int, xs = ns.map .int ∧ R (.int ns.sum)
  | _ => False
theorem cd_sumA : CallD K S (rSumA K) fSumA := .pure fun H xs ds fp r R hf Q q => by
  unfold fSumA at hf
  split at hf
  · obtain ⟨ns, rfl, hR⟩ := hf
    obtain ⟨x, rfl, rx⟩ := rps_one r
    simp only [Rp] at rx
    obtain ⟨a, ys, gp, rfl, rfl, h1, h2⟩ := rx
    obtain ⟨rfl, rfl⟩ := rps_ints h2
    exact ⟨a, ns, rfl, .inl (.of h1), q _ _ hR int_rp⟩
  · obtain ⟨ns, rfl, hR⟩ := hf
    obtain ⟨x, rfl, rx⟩ := rps_one r
    simp only [Rp] at rx
    obtain ⟨a, ys, rfl, h1, h2⟩ := rx
    obtain ⟨rfl, rfl⟩ := rps_ints h2
    exact ⟨a, ns, rfl, .inr h1.t, q _ _ hR int_rp⟩
  · exact hf.elim
def dTupRg (m : DM) : DM := fun ρ R => m ρ fun d => asI d fun j => (-1000000000 ≤ j ∧ j ≤ 10000000) ∧ R (.tuple (rangeD 0 j.toNat 1))
/-! ### *e in a display -/
def asSeq (d : D) (k : List D → Prop) : Prop := match d with
  | .list xs => k xs
  | .tuple xs => k xs
  | _ => False
def dStar (m : DM) (ms : DMs) : DMs := fun ρ R => m ρ fun d => asSeq d fun xs => ms ρ fun ds => R (xs ++ ds)
/-! ### all, any -/
def fAll : List D → (D → Prop) → Prop := fun ds R => match ds with
  | [.list xs] => ∃ bs : List Bool, xs = bs.map .bool ∧ R (.bool (bs.all id))
  | _ => False
def fAny : List D → (D → Prop) → Prop := fun ds R => match ds with
  | [.list xs] => ∃ bs : List Bool, xs = bs.map .bool ∧ R (.bool (bs.any id))
  | _ => False
/-! ### three at once -/
def sPar3 (i j l : Nat) (ms : DMs) : DMS := fun ρ R => ms ρ fun ds => match ds with
  | [x, y, z] => R.nx (((ρ.set i (.own x)).set j (.own y)).set l (.own z))
  | _ => False
end
end Z
set_option Elab.async false
set_option linter.all false
set_option maxRecDepth 100000
set_option maxHeartbeats 4000000
/-! Z21: isinstance, list + list of any data. -/
namespace Z
open PySem PySem.Spec PyProof.Rows L2
def isInt : D → Bool
  | .int _ => true
  | .bool _ => true
  | _ => false
def isBool : D → Bool
  | .bool _ => true
  | _ => false
def isStr : D → Bool
  | .str _ => true
  | _ => false
def isTuple : D → Bool
  | .tuple _ => true
  | _ => false
def isList : D → Bool
  | .list _ => true
  | .dict kvs => isFrz kvs
  | _ => false
def isDict : D → Bool
  | .dict kvs => !isFrz kvs
  | _ => false
section
variable {K : PySem.W.Frag} {S : Option (Addr × Addr)}
/-- no dict whose keys are tuples -/
def noFrz : D → Prop
  | .dict kvs => isFrz kvs = true ∨ (kvs.all fun p => !isTuple p.1) = true
  | _ => True
def fIsi (f : D → Bool) (d : D) (R : D → Prop) : Prop := match d with
  | .dict kvs => (isFrz kvs = true ∨ (kvs.all fun p => !isTuple p.1) = true) ∧ R (.bool (f (.dict kvs)))
  | .none => R (.bool (f .none))
  | .bool b => R (.bool (f (.bool b)))
  | .int i => R (.bool (f (.int i)))
  | .str x => R (.bool (f (.str x)))
  | .list ds => R (.bool (f (.list ds)))
  | .tuple ds => R (.bool (f (.tuple ds)))
def dIsi (f : D → Bool) (m : DM) : DM := fun ρ R => m ρ fun d => fIsi f d R
/-! ### list + list, whatever they hold -/
def dAddN (ma mb : DM) : DM := fun ρ R => ma ρ fun x => mb ρ fun y => match x with
  | .list a => match y with
    | .list b => a.length + b.length ≤ 10000000 ∧ R (.list (a ++ b))
    | _ => False
  | _ => False
end
end Z
set_option Elab.async false
set_option linter.all false
set_option maxRecDepth 100000
set_option maxHeartbeats 4000000
/-! Z22: dict(pairs) whose keys are tuples of ints: sorted of it, how many keys. -/
namespace Z
open PySem PySem.Spec PyProof.Rows L2
/-! ### the dict -/
/-- a dict with such keys, in this sequence -/
def KdO (a : Addr) (ks : List Value) : HO := .ext fun h => (a == sysModules) = false ∧ ks.length ≤ 10000000 ∧ ∃ es ep, h.DictRaw a es ep ∧ es.toList.map (·.key) = ks
/-! ### sorted of it, its length -/
theorem KdO.ok {X : Cx} {pins : List (Addr × Obj)} {s : Shared} {σ : L2.St} {H : Hp} (I : Inv X pins σ H s) {p : Addr} {ks : List Value} (h : H p = some (KdO p ks)) : (p == sysModules) = false ∧ ks.length ≤ 10000000 ∧ ∃ es ep, s.heap.DictRaw p es ep ∧ es.toList.map (·.key) = ks :=
  (show ObjOk X.prog X.w H s.heap p (KdO p ks) from I.hok p _ h).1
/-! ### over data -/
section
variable {K : PySem.W.Frag} {S : Option (Addr × Addr)}
theorem rps_ofInts {c : Zc} {H : Hp} : ∀ ns : List Int, Rps c H (ns.map .int) (ns.map V.int) []
  | [] => .nil
  | n :: ns => Rps.cons (int_rp H) (rps_ofInts ns)
theorem rps_keys {c : Zc} {H : Hp} : ∀ {bs : List (Addr × List Int)}, (∀ x ∈ bs, SqD c.K H x.1 (x.2.map V.int)) → Rps c H (bs.map fun x => tI x.2) (bs.map fun x => V.ref x.1) []
  | [], _ => .nil
  | b :: bs, h => by
    have r : Rp c H (tI b.2) (.ref b.1) [] := by
      show Rp c H (.tuple (b.2.map .int)) _ _
      simp only [Rp]
      exact ⟨b.1, _, rfl, h b (List.mem_cons_self ..), rps_ofInts b.2⟩
    exact Rps.cons r (rps_keys fun x hx => h x (List.mem_cons_of_mem _ hx))
/-- a list of pairs whose first ones are tuples of ints -/
def asPairs (d : D) (k : List (List Int) → Prop) : Prop := match d with
  | .list ps => ∃ qs : List (List Int × D), ps = qs.map (fun q => .tuple [tI q.1, q.2]) ∧ (∀ q ∈ qs, solid q.2 = true) ∧ qs.length ≤ 10000000 ∧ ∀ ks : List (List Int), ks.Nodup → (∀ n, n ∈ ks ↔ n ∈ qs.map (·.1)) → k ks
  | _ => False
def dSortDict (m : DM) : DM := fun ρ R => m ρ fun d => asPairs d fun ks => SortOk (ks.map tI) ∧ R (.list (sortD false (ks.map tI)))
def dLenDict (m : DM) : DM := fun ρ R => m ρ fun d => asPairs d fun ks => R (.int ((ks.length : Nat) : Int))
end
/-! ### max of a list, a tuple -/
section
variable {K : PySem.W.Frag} {S : Option (Addr × Addr)}
def fMaxA : List D → (D → Prop) → Prop := fun ds R => match ds with
  | [.list xs] => ∃ ns : List Int, xs = ns.map .int ∧ 0 < ns.length ∧ ∀ m, m ∈ ns → (∀ y, y ∈ ns → y ≤ m) → R (.int m)
  | [.tuple xs] => ∃ ns : List Int, xs = ns.map .int ∧ 0 < ns.length ∧ ∀ m, m ∈ ns → (∀ y, y ∈ ns → y ≤ m) → R (.int m)
  | _ => False
end
end Z
set_option Elab.async false
set_option linter.all false
set_option maxRecDepth 100000
set_option maxHeartbeats 4000000
/-! Z23: xs[::-1] of lists and tuples. -/
namespace Z
open PySem PySem.Spec PyProof.Rows L2
section
variable {K : PySem.W.Frag} {S : Option (Addr × Addr)}
def fRev (d : D) (R : D → Prop) : Prop := match d with
  | .list ds => solids ds = true ∧ R (.list ds.reverse)
  | .tuple ds => solids ds = true ∧ R (.tuple ds.reverse)
  | _ => False
def dRev (m : DM) : DM := fun ρ R => m ρ fun d => fRev d R
theorem Rps.snoc {c : Zc} {H : Hp} {d : D} {x : V} (hx : Rp c H d x []) : ∀ {ds : List D} {xs : List V}, Rps c H ds xs [] → Rps c H (ds ++ [d]) (xs ++ [x]) []
  | [], xs, h => by
    simp only [Rps] at h
    rw [h.1]
    exact Rps.cons hx (by simp [Rps])
  | d :: ds, xs, h => by
    simp only [Rps] at h
    obtain ⟨x', ys, f1, f2, rfl, e, h1, h2⟩ := h
    obtain ⟨rfl, rfl⟩ := List.append_eq_nil_iff.mp e.symm
    exact Rps.cons h1 (Rps.snoc hx h2)
end
end Z
set_option Elab.async false
set_option linter.all false
set_option maxRecDepth 100000
set_option maxHeartbeats 4000000
/-! Z24: dicts whose keys are ints and whose values are noughts: {}, d.update(dict(pairs)), len(d). -/
namespace Z
open PySem PySem.Spec PyProof.Rows L2
def d0D (ks : List Int) : D := .dict (ks.map fun k => (.int k, .int 0))
/-! ### d.update(e) -/
/-! ### len(d) -/
section
variable {K : PySem.W.Frag} {S : Option (Addr × Addr)}
def d0New : DM := fun _ R => R (d0D [])
/-- a list of pairs (int, nought) -/
def pairs0 (ns : List Int) : D := .list (ns.map fun k => .tuple [.int k, .int 0])
def rDictP (K : PySem.W.Frag) : List V → Hp → VK → Prop := fun xs H Q => ∃ (a : Addr) (ps : List Addr) (kvs : List (Key × V)), xs = [.ref a] ∧ SqL K H a (ps.map V.ref) ∧ Paired (fun p kv => SqT K H p [kV kv.1, kv.2]) ps kvs ∧
    ∀ p, H p = none → Q (.ref p) (upd H p (.dK (mergeK [] kvs)))
/-- the slot holds a dict of noughts -/
def own0 (s : Option Sl) (k : List Int → Prop) : Prop := ∃ ks, s = some (.own (d0D ks)) ∧ k ks
def sUpd0 (i : Nat) (m : DM) : DMS := fun ρ R => own0 ρ[i]? fun ks => m ρ fun d => ∃ ns : List Int, d = pairs0 ns ∧ ks.length + ns.length ≤ 10000000 ∧ ∀ us : List Int, us.Nodup → (∀ x, x ∈ us ↔ x ∈ ks ∨ x ∈ ns) → us.length ≤ ks.length + ns.length → R.nx (ρ.set i (.own (d0D us)))
/-- len(d), d of noughts -/
def dLen0 (m : DM) : DM := fun ρ R => m ρ fun d => ∃ ks : List Int, d = d0D ks ∧ R (.int ((ks.length : Nat) : Int))
end
end Z
set_option Elab.async false
set_option linter.all false
set_option maxRecDepth 100000
set_option maxHeartbeats 4000000
/-! Z25: lists that never change any more. -/
namespace Z
open PySem PySem.Spec PyProof.Rows L2
section
variable {K : PySem.W.Frag} {S : Option (Addr × Addr)}
def fFrz (d : D) (R : D → Prop) : Prop := match d with
  | .list ds => solids ds = true ∧ R (frzD ds)
  | _ => False
def dFrz (m : DM) : DM := fun ρ R => m ρ fun d => fFrz d R
/-! ### reads -/
theorem sql_frz {K : PySem.W.Frag} {H : Hp} {a : Addr} {xs : List V} (h : ∃ o, H a = some (.frz o (.lst xs))) : SqL K H a xs := .inl (.inr h)
/-- x[i] -/
def fIxF (x y : D) (R : D → Prop) : Prop := match x with
  | .dict kvs => asI y fun i => ∃ ds d, .dict kvs = frzD ds ∧ atI ds i = some d ∧ R d
  | .none => fIx .none y R
  | .bool b => fIx (.bool b) y R
  | .int i => fIx (.int i) y R
  | .str s => fIx (.str s) y R
  | .list ds => fIx (.list ds) y R
  | .tuple ds => fIx (.tuple ds) y R
theorem fIxF_tup {ds : List D} {y : D} {R : D → Prop} : fIxF (.tuple ds) y R = fIx (.tuple ds) y R := rfl
theorem fIxF_list {ds : List D} {y : D} {R : D → Prop} : fIxF (.list ds) y R = fIx (.list ds) y R := rfl
/-- a list, of either kind -/
def IsL (d : D) (ds : List D) : Prop := d = .list ds ∨ d = frzD ds
theorem IsL.rp {c : Zc} {H : Hp} {d : D} {ds : List D} {v : V} {fp : List Addr} (l : IsL d ds) (r : Rp c H d v fp) :
    ∃ a xs gp, v = .ref a ∧ SqL c.K H a xs ∧ Rps c H ds xs gp ∧ (∀ b ∈ gp, b ∈ fp) ∧ ∀ H', Tk H H' → (∀ b ∈ fp, H' b = H b) → SqL c.K H' a xs := by
  rcases l with rfl | rfl
  · simp only [Rp] at r
    obtain ⟨a, xs, gp, rfl, rfl, ha, hv⟩ := r
    exact ⟨a, xs, gp, rfl, .of ha, hv, fun b hb => List.mem_cons_of_mem _ hb, fun H' _ k => .of (by rw [k a (List.mem_cons_self ..)]; exact ha)⟩
  · obtain ⟨a, xs, rfl, rfl, ⟨o, ho⟩, h2⟩ := rp_frz.mp r
    exact ⟨a, xs, [], rfl, sql_frz ⟨o, ho⟩, h2, fun b hb => hb, fun H' t _ => sql_frz ⟨o, t a _ ho trivial⟩⟩
/-- zip of two lists, of either kind -/
def dZipF (ms : DMs) : DMs := fun ρ R => ms ρ fun ds => ∃ x y xs ys, ds = [x, y] ∧ IsL x xs ∧ IsL y ys ∧ R (zipD xs ys)
/-- x.index(k) of a list of either kind -/
def dIndexF (m : DM) (ms : DMs) : DM := fun ρ R => m ρ fun d => ∃ xs, IsL d xs ∧ ms ρ fun ys => ∃ (k : Int) (ns : List Int), ys = [.int k] ∧ xs = ns.map .int ∧ k ∈ ns ∧ R (.int (ns.idxOf k : Nat))
end
end Z
set_option Elab.async false
set_option linter.all false
set_option maxRecDepth 100000
set_option maxHeartbeats 4000000
/-! Z26: sorted(dict(pairs)), the keys ints. -/
namespace Z
open PySem PySem.Spec PyProof.Rows L2
section
variable {K : PySem.W.Frag} {S : Option (Addr × Addr)}
/-- sorted(dict(pairs)), the keys ints -/
def dSortDict0 (m : DM) : DM := fun ρ R => m ρ fun d => ∃ ns : List Int, d = pairs0 ns ∧ ∀ ks : List Int, ks.Nodup → (∀ x, x ∈ ks ↔ x ∈ ns) → ks.length ≤ ns.length → SortOk (ks.map fun k => (.int k : D)) ∧ R (.list (sortD false (ks.map fun k => (.int k : D))))
end
end Z
set_option Elab.async false
set_option linter.all false
set_option maxRecDepth 100000
set_option maxHeartbeats 4000000
/-! Z27: x = xs.pop(k), xs an own list of what never changes. -/
namespace Z
open PySem PySem.Spec PyProof.Rows L2
section
variable {K : PySem.W.Frag} {S : Option (Addr × Addr)}
theorem Rps.erase {c : Zc} {H : Hp} : ∀ {ds : List D} {xs : List V} (j : Nat), Rps c H ds xs [] → Rps c H (ds.eraseIdx j) (xs.eraseIdx j) []
  | [], xs, j, h => by
    simp only [Rps] at h
    rw [h.1]
    simp [Rps]
  | d :: ds, xs, 0, h => by
    simp only [Rps] at h
    obtain ⟨x, ys, f1, f2, rfl, e, h1, h2⟩ := h
    obtain ⟨rfl, rfl⟩ := List.append_eq_nil_iff.mp e.symm
    exact h2
  | d :: ds, xs, j + 1, h => by
    simp only [Rps] at h
    obtain ⟨x, ys, f1, f2, rfl, e, h1, h2⟩ := h
    obtain ⟨rfl, rfl⟩ := List.append_eq_nil_iff.mp e.symm
    exact Rps.cons h1 (Rps.erase j h2)
def sPopAt (j i : Nat) (m : DM) : DMS := fun ρ R => ownL ρ[i]? fun ds => m ρ fun d => asI d fun k => 0 ≤ k ∧ k < ds.length ∧ ds.length ≤ 10000000 ∧ solids ds = true ∧ ∃ y, ds[k.toNat]? = some y ∧ R.nx ((ρ.set i (.own (.list (ds.eraseIdx k.toNat)))).set j (.own y))
theorem ds_popAt (j i : Nat) {te : TE} {m : DM} {U : List Nat} (h : DE K S te m U) : DS K S (tAsg (tBM K "list" rPopAt (tVar i) (tCons te tNil)) (gName j)) (sPopAt j i m) [j, i] := fun G H ρ σ fps E R hm D d => by
  obtain ⟨ds, hi, hm⟩ := ownL_ok hm
  obtain ⟨v, ev, r, n, nd, g⟩ := E.ok i _ hi
  have r' := r
  simp only [Rp] at r'
  obtain ⟨a, xs, gp, rfl, ef, hL, rs⟩ := r'
  refine ⟨.ref a, ev, .inl ⟨rfl, xs, .of hL⟩, h G H ρ σ fps E _ hm _ fun y w H1 fp hR e1 s1 ry ny fy => ?_⟩
  obtain ⟨k, rfl, k0, k1, kz, hs, z, hz, hN⟩ := asI_ok hR
  have z0 := rs.solid _ _ _ hs
  subst z0
  have han : ¬ Zc.has ⟨K, S⟩ a := n a (by rw [ef]; exact List.mem_cons_self ..)
  have hL1 : H1 a = some (.lst xs) := e1 a _ hL han
  have E1 := E.step e1 s1
  have rs1 : Rps ⟨K, S⟩ H1 ds xs [] := rs.ext .nil e1 E.src
  obtain ⟨x, gp2, hx, rx, sub, _⟩ := rs1.at hz
  have g0 : gp2 = [] := List.eq_nil_iff_forall_not_mem.mpr fun b hb => by cases sub b hb
  subst g0
  refine ⟨a, xs, k, k.toNat, x, rfl, by rw [rp_int ry], hL1, by omega, ?_, ?_, hx, ?_⟩
  · omega
  · rw [rs.len]
    exact PyProof.Rows.seqIndex_at k0 k1
  have tk : Tk H1 (upd H1 a (.lst (xs.eraseIdx k.toNat))) := fun b u hu hf => by
    rw [upd_ne fun z => by rw [z, hL1] at hu; cases hu; exact hf]
    exact hu
  have rr : Rp ⟨K, S⟩ (upd H1 a (.lst (xs.eraseIdx k.toNat))) (.list (ds.eraseIdx k.toNat)) (.ref a) [a] := by
    simp only [Rp]
    exact ⟨a, _, [], rfl, rfl, upd_same, (rs1.erase k.toNat).mono tk _ _ _ fun b hb => by cases hb⟩
  have E2 := E1.change hi ev (by rw [ef]; exact List.mem_cons_self ..) rr (fun b hb => by rw [List.mem_singleton.mp hb, ef]; exact .inl (List.mem_cons_self ..)) (by simp)
  have E3 := E2.setOwn (rx.mono tk _ _ _ fun b hb => by cases hb) (fun b hb => by cases hb) List.nodup_nil (fun b hb => by cases hb) j fun q hq _ b hb => by cases hb
  exact d.nx _ _ _ _ hN E3 ⟨by simp, fun q hq => List.getElem?_set_ne fun e => hq (by simp [e])⟩
end
end Z
set_option Elab.async false
set_option linter.all false
set_option maxRecDepth 100000
set_option maxHeartbeats 4000000
/-! Z28: return (x, y) of two own values; zip(.., strict=True) of lists of either kind. -/
namespace Z
open PySem PySem.Spec PyProof.Rows L2
section
variable {K : PySem.W.Frag} {S : Option (Addr × Addr)}
def sRet2 (i j : Nat) : DMS := fun ρ R => match ρ[i]? with
  | some (.own d) => match ρ[j]? with
    | some (.own e) => i ≠ j ∧ R.rt (.tuple [d, e])
    | _ => False
  | _ => False
/-- zip(x, y, strict=True) of lists of either kind -/
def dZipSF (ms : DMs) : DMs := fun ρ R => ms ρ fun ds => ∃ x y xs ys, ds = [x, y] ∧ IsL x xs ∧ IsL y ys ∧ xs.length = ys.length ∧ R (zipD xs ys)
end
end Z
set_option Elab.async false
set_option linter.all false
set_option maxRecDepth 100000
set_option maxHeartbeats 4000000
/-! Z29: values of all kinds that never change: repr of them, == of a tuple with (), {} that never changes. -/
namespace Z
open PySem PySem.Spec PyProof.Rows L2
mutual
/-- as it is shown -/
def thaw : D → D
  | .none => .none
  | .bool b => .bool b
  | .int i => .int i
  | .str x => .str x
  | .list ds => .list (thaws ds)
  | .tuple ds => .tuple (thaws ds)
  | .dict kvs => if isFrz kvs = true then .list (thawk kvs).tail else .dict []
def thaws : List D → List D
  | [] => []
  | d :: ds => thaw d :: thaws ds
def thawk : List (D × D) → List D
  | [] => []
  | (_, d) :: r => thaw d :: thawk r
end
mutual
/-- whether it is such a value -/
def canT : D → Bool
  | .none => true
  | .bool _ => true
  | .int _ => true
  | .str _ => true
  | .list ds => canTs ds
  | .tuple ds => canTs ds
  | .dict kvs => (isFrz kvs && canTk kvs) || (isFrd kvs && kvs.length == 1)
def canTs : List D → Bool
  | [] => true
  | d :: ds => canT d && canTs ds
def canTk : List (D × D) → Bool
  | [] => true
  | (_, d) :: r => canT d && canTk r
end
theorem thaws_map : ∀ ds : List D, thaws ds = ds.map thaw
  | [] => by simp [thaws]
  | d :: ds => by simp [thaws, thaws_map ds]
theorem thawk_frz (ds : List D) (k : D) : thawk (ds.map fun d => (k, d)) = ds.map thaw := by
  induction ds with
  | nil => simp [thawk]
  | cons d ds ih => simp [thawk, ih]
theorem thaw_frz (ds : List D) : thaw (frzD ds) = .list (ds.map thaw) := by
  unfold frzD frzK
  simp only [thaw, thawk, thawk_frz]
  rfl
theorem thaw_frd : thaw (frdD []) = .dict [] := by
  unfold frdD frdK
  simp only [thaw]
  rfl
theorem isFrz_cons {kvs : List (D × D)} (h : isFrz kvs = true) : ∃ r, kvs = (.bool true, .none) :: r := by
  unfold isFrz at h
  split at h
  · exact ⟨_, rfl⟩
  · cases h
theorem isFrd_cons {kvs : List (D × D)} (h : isFrd kvs = true) : ∃ r, kvs = (.bool false, .none) :: r := by
  unfold isFrd at h
  split at h
  · exact ⟨_, rfl⟩
  · cases h
/-- such a value, shown by at most w signs, at most k deep -/
structure OkT (k w : Nat) (d : D) : Prop where
  can : canT d = true
  depth : (thaw d).depth ≤ k
  show' : (thaw d).showable = true
  len : (thaw d).shown.length ≤ w
section
variable {K : PySem.W.Frag} {S : Option (Addr × Addr)}
def fReprU : List D → (D → Prop) → Prop := fun ds R => match ds with
  | [d] => OkT 40 10000000 d ∧ R (.str (thaw d).shown)
  | _ => False
/-! ### x == () -/
end
section
variable {K : PySem.W.Frag} {S : Option (Addr × Addr)}
def fEqE (neg : Bool) : D → D → (D → Prop) → Prop := fun x y R => match x with
  | .tuple xs => y = .tuple [] ∧ R (.bool (if neg then !xs.isEmpty else xs.isEmpty))
  | _ => False
/-! ### {} that never changes -/
end
end Z
set_option Elab.async false
set_option linter.all false
set_option maxRecDepth 100000
set_option maxHeartbeats 4000000
/-! Z30: list + list of either kind; two targets at once through tuples, both own. -/
namespace Z
open PySem PySem.Spec PyProof.Rows L2
section
variable {K : PySem.W.Frag} {S : Option (Addr × Addr)}
/-- x, y = a, b by way of a tuple -/
theorem ds_parG (i j : Nat) {t : TA} {ms : DMs} (h : DA K S t ms []) (hij : i ≠ j := by decide) : DS K S (tAsg (tTupF t) (gTup K 2 (gCons (gName i) (gCons (gName j) gNil)))) (sPar i j ms) [i, j] := fun G H ρ σ fps E R hm D d =>
  h G H ρ σ fps E _ hm _ fun ds vs H1 fp hR e1 s1 r n f => by
    split at hR
    · rename_i x y
      simp only [Rps] at r
      obtain ⟨v, ys, g1, g2, rfl, rfl, r1, w, zs, g3, g4, rfl, rfl, r2, rfl, rfl⟩ := r
      rw [List.append_nil] at f n
      have nd := f.2 rfl
      obtain ⟨nd1, nd2, nd3⟩ := List.nodup_append.mp nd
      refine ⟨lim_ok (by simp), fun p o hp ho => ?_⟩
      have e2 := Ext.new (c := ⟨K, S⟩) (o := .frz o (.tup [v, w])) hp
      have s2 := s1.new (o := .frz o (.tup [v, w])) hp
      have E1 := E.step (e1.trans e2) s2
      have fr : ∀ a ∈ g1 ++ g3, ∀ k, k < ρ.length → a ∉ fps k := fun a ha k hk hb => by
        obtain ⟨o', ho', _⟩ := E.thereAt hk a hb
        rw [f.off a ha] at ho'
        cases ho'
      have gn : ∀ a ∈ g1 ++ g3, G a = none := fun a ha => back_none E.ext (f.off a ha) (n a ha)
      have n1 : NoS ⟨K, S⟩ g1 := fun a ha => n a (List.mem_append_left _ ha)
      have n3 : NoS ⟨K, S⟩ g3 := fun a ha => n a (List.mem_append_right _ ha)
      refine ⟨p, [v, w], rfl, SqD.t (.new ho), rfl, v, [w], rfl, ?_⟩
      refine ⟨w, [], rfl, ?_⟩
      refine ⟨rfl, ?_⟩
      have E2 := E1.setOwn (r1.ext n1 e2 s1) n1 nd1 (fun a ha => gn a (List.mem_append_left _ ha)) i fun k hk _ a ha hb => fr a (List.mem_append_left _ ha) k hk hb
      have E3 := E2.setOwn (r2.ext n3 e2 s1) n3 nd2 (fun a ha => gn a (List.mem_append_right _ ha)) j fun k hk hkj a ha hb => by
        by_cases hki : k = i
        · simp only [if_pos hki] at hb
          exact nd3 a hb a ha rfl
        · simp only [if_neg hki] at hb
          exact fr a (List.mem_append_right _ ha) k (by simpa using hk) hb
      refine d.nx _ _ _ _ hR E3 ⟨by simp, fun k hk => ?_⟩
      have k1 : j ≠ k := fun e => hk (by simp [e])
      have k2 : i ≠ k := fun e => hk (by simp [e])
      rw [List.getElem?_set_ne k1, List.getElem?_set_ne k2]
    · exact hR.elim
/-- the items of a list that never changes -/
def dItemsZ (m : DM) : DMs := fun ρ R => m ρ fun d => ∃ xs, d = frzD xs ∧ R xs
/-- how long a list of either kind is -/
def fLenF : List D → (D → Prop) → Prop := fun ds R => match ds with
  | [d] => ∃ xs, IsL d xs ∧ R (.int ((xs.length : Nat) : Int))
  | _ => False
end
end Z
set_option Elab.async false
set_option linter.all false
/-! G1: rows over two marks; reduced bases are told by their span. Plain Lean. -/
namespace Z
def xr (a b : List Bool) : List Bool := List.zipWith (fun x y => x ^^ y) a b
def gt (v : List Bool) (p : Nat) : Bool := v.getD p false
def lead (r : List Bool) : Nat := r.idxOf true
def nul (n : Nat) : List Bool := List.replicate n false
theorem xr_len {a b : List Bool} (h : a.length = b.length) : (xr a b).length = a.length := by simp [xr, h]
theorem gt_xr {a b : List Bool} (h : a.length = b.length) (p : Nat) : gt (xr a b) p = (gt a p ^^ gt b p) := by
  unfold gt xr
  rw [List.getD_eq_getElem?_getD, List.getD_eq_getElem?_getD, List.getD_eq_getElem?_getD, List.getElem?_zipWith]
  by_cases hp : p < a.length
  · rw [List.getElem?_eq_getElem hp, List.getElem?_eq_getElem (h ▸ hp)]
    rfl
  · rw [List.getElem?_eq_none (by omega), List.getElem?_eq_none (by omega)]
    rfl
theorem gt_nul (n p : Nat) : gt (nul n) p = false := by
  unfold gt nul
  rw [List.getD_eq_getElem?_getD, List.getElem?_replicate]
  split <;> rfl
theorem gt_out {a : List Bool} {p : Nat} (h : a.length ≤ p) : gt a p = false := by
  unfold gt
  rw [List.getD_eq_getElem?_getD, List.getElem?_eq_none h]
  rfl
theorem row_ext {a b : List Bool} (h : a.length = b.length) (e : ∀ p, gt a p = gt b p) : a = b := by
  apply List.ext_getElem h
  intro i h1 h2
  have := e i
  unfold gt at this
  rw [List.getD_eq_getElem?_getD, List.getD_eq_getElem?_getD, List.getElem?_eq_getElem h1, List.getElem?_eq_getElem h2] at this
  exact this
theorem nul_len (n : Nat) : (nul n).length = n := List.length_replicate ..
theorem xr_nul {a : List Bool} {n : Nat} (h : a.length = n) : xr a (nul n) = a := row_ext (by rw [xr_len (by rw [nul_len]; exact h)]) fun p => by rw [gt_xr (by rw [nul_len]; exact h), gt_nul, Bool.xor_false]
theorem xr_assoc {a b c : List Bool} (h : a.length = b.length) (k : b.length = c.length) : xr (xr a b) c = xr a (xr b c) :=
  row_ext (by rw [xr_len (by rw [xr_len h, h, k]), xr_len h, xr_len (by rw [xr_len k, h])]) fun p => by
    rw [gt_xr (by rw [xr_len h, h, k]), gt_xr h, gt_xr (by rw [xr_len k, h]), gt_xr k, Bool.xor_assoc]
theorem xr_comm {a b : List Bool} (h : a.length = b.length) : xr a b = xr b a := row_ext (by rw [xr_len h, xr_len h.symm, h]) fun p => by rw [gt_xr h, gt_xr h.symm, Bool.xor_comm]
theorem xr_self {a : List Bool} : xr a a = nul a.length := row_ext (by rw [xr_len rfl, nul_len]) fun p => by rw [gt_xr rfl, gt_nul, Bool.xor_self]
theorem lead_gt {r : List Bool} (h : true ∈ r) : gt r (lead r) = true := by
  unfold gt lead
  have hl := List.idxOf_lt_length_iff.mpr h
  rw [List.getD_eq_getElem?_getD, List.getElem?_eq_getElem hl]
  exact List.getElem_idxOf hl
theorem lead_below {r : List Bool} {q : Nat} (h : q < lead r) : gt r q = false := by
  unfold lead at h
  cases e : gt r q with
  | false => rfl
  | true =>
    exfalso
    unfold gt at e
    rw [List.getD_eq_getElem?_getD] at e
    cases hq : r[q]? with
    | none => rw [hq] at e; cases e
    | some b =>
      rw [hq] at e
      have eb : b = true := e
      subst eb
      induction r generalizing q with
      | nil => simp at hq
      | cons x xs ih =>
        cases q with
        | zero =>
          simp at hq
          subst hq
          simp at h
        | succ q =>
          cases x with
          | true => simp at h
          | false =>
            simp [List.idxOf_cons] at h
            exact ih h (by simpa using hq)
theorem lead_le {r : List Bool} {q : Nat} (h : gt r q = true) : lead r ≤ q := Nat.le_of_not_lt fun z => by rw [lead_below z] at h; cases h
/-- the sums of rows of B -/
inductive Sp (n : Nat) (B : List (List Bool)) : List Bool → Prop
  | zero : Sp n B (nul n)
  | add {b v : List Bool} : b ∈ B → Sp n B v → Sp n B (xr b v)
def Len (n : Nat) (B : List (List Bool)) : Prop := ∀ b ∈ B, b.length = n
section
variable {n : Nat} {B C : List (List Bool)}
theorem Sp.len (h : Len n B) {v : List Bool} (s : Sp n B v) : v.length = n := by
  induction s with
  | zero => exact nul_len n
  | add hb _ ih => rw [xr_len (by rw [h _ hb, ih]), h _ hb]
theorem Sp.mem (h : Len n B) {b : List Bool} (hb : b ∈ B) : Sp n B b := by
  have := Sp.add hb (Sp.zero (n := n) (B := B))
  rwa [xr_nul (h b hb)] at this
theorem Sp.xr (h : Len n B) {u v : List Bool} (s : Sp n B u) (t : Sp n B v) : Sp n B (xr u v) := by
  induction s with
  | zero => rw [xr_comm (by rw [nul_len, t.len h]), xr_nul (t.len h)]; exact t
  | @add b w hb hw ih =>
    rw [xr_assoc (by rw [h b hb, hw.len h]) (by rw [hw.len h, t.len h])]
    exact .add hb ih
theorem Sp.sub (hC : Len n C) (h : ∀ b ∈ B, Sp n C b) {v : List Bool} (s : Sp n B v) : Sp n C v := by
  induction s with
  | zero => exact .zero
  | add hb _ ih => exact (h _ hb).xr hC ih
theorem Sp.mono (h : ∀ b ∈ B, b ∈ C) {v : List Bool} (s : Sp n B v) : Sp n C v := by
  induction s with
  | zero => exact .zero
  | add hb _ ih => exact .add (h _ hb) ih
/-- each lead stands in its own row alone -/
structure Red (n : Nat) (B : List (List Bool)) : Prop where
  len : Len n B
  ne : ∀ b ∈ B, true ∈ b
  un : ∀ b ∈ B, ∀ c ∈ B, b ≠ c → gt b (lead c) = false
  nd : B.Nodup
def par (f : List Bool → Bool) : List (List Bool) → Nat → Bool
  | [], _ => false
  | b :: B, p => (f b && gt b p) ^^ par f B p
theorem par_congr {f g : List Bool → Bool} {p : Nat} : ∀ {B : List (List Bool)}, (∀ b ∈ B, f b = g b) → par f B p = par g B p
  | [], _ => rfl
  | b :: B, h => by
    unfold par
    rw [h b (List.mem_cons_self ..), par_congr fun c hc => h c (List.mem_cons_of_mem _ hc)]
theorem par_none {f : List Bool → Bool} {p : Nat} : ∀ {B : List (List Bool)}, (∀ b ∈ B, f b = true → gt b p = false) → par f B p = false
  | [], _ => rfl
  | b :: B, h => by
    unfold par
    rw [par_none fun c hc => h c (List.mem_cons_of_mem _ hc)]
    cases e : f b with
    | false => rfl
    | true => rw [h b (List.mem_cons_self ..) e]; rfl
theorem par_some {f : List Bool → Bool} {p : Nat} (h : par f B p = true) : ∃ b ∈ B, f b = true ∧ gt b p = true := Classical.byContradiction fun z => by
  have := par_none (f := f) (p := p) (B := B) fun b hb hf => by
    cases e : gt b p with
    | false => rfl
    | true => exact (z ⟨b, hb, hf, e⟩).elim
  rw [this] at h
  cases h
theorem par_flip {f g : List Bool → Bool} {p : Nat} {b : List Bool} : ∀ {B : List (List Bool)}, B.Nodup → b ∈ B → (∀ c ∈ B, c ≠ b → f c = g c) → f b = !g b → par f B p = (gt b p ^^ par g B p)
  | [], _, hb, _, _ => by cases hb
  | c :: B, nd, hb, h, hf => by
    unfold par
    have nd' := List.nodup_cons.mp nd
    by_cases e : c = b
    · subst e
      rw [hf, par_congr (g := g) fun d hd => h d (List.mem_cons_of_mem _ hd) fun z => nd'.1 (z ▸ hd)]
      cases g c <;> cases gt c p <;> cases par g B p <;> rfl
    · have hb' : b ∈ B := (List.mem_cons.mp hb).resolve_left (Ne.symm e)
      rw [h c (List.mem_cons_self ..) e, par_flip nd'.2 hb' (fun d hd => h d (List.mem_cons_of_mem _ hd)) hf]
      cases g c <;> cases gt c p <;> cases gt b p <;> cases par g B p <;> rfl
/-- a sum is told by its marks at the leads -/
theorem Red.tell (r : Red n B) {v : List Bool} (s : Sp n B v) (p : Nat) : gt v p = par (fun b => gt v (lead b)) B p := by
  induction s with
  | zero =>
    rw [gt_nul, par_none]
    intro b _ z
    rw [gt_nul] at z
    cases z
  | @add b w hb hw ih =>
    have hl : b.length = w.length := by rw [r.len b hb, hw.len r.len]
    rw [gt_xr hl, ih]
    refine (par_flip (g := fun c => gt w (lead c)) r.nd hb (fun c hc hne => ?_) ?_).symm
    · show gt (Z.xr b w) (lead c) = gt w (lead c)
      rw [gt_xr hl, r.un b hb c hc (Ne.symm hne), Bool.false_xor]
    · show gt (Z.xr b w) (lead b) = !gt w (lead b)
      rw [gt_xr hl, lead_gt (r.ne b hb), Bool.true_xor]
theorem Red.same (r : Red n B) {u v : List Bool} (hu : Sp n B u) (hv : Sp n B v) (h : ∀ b ∈ B, gt u (lead b) = gt v (lead b)) : u = v :=
  row_ext (by rw [hu.len r.len, hv.len r.len]) fun p => by rw [r.tell hu, r.tell hv]; exact par_congr h
theorem Red.leads (r : Red n B) {v : List Bool} (s : Sp n B v) (h : true ∈ v) : ∃ b ∈ B, lead b = lead v := by
  have h1 := lead_gt h
  rw [r.tell s] at h1
  obtain ⟨b, hb, h2, h3⟩ := par_some h1
  exact ⟨b, hb, Nat.le_antisymm (lead_le h3) (lead_le h2)⟩
theorem Red.sub (r : Red n B) (q : Red n C) (h : ∀ v, Sp n B v ↔ Sp n C v) : ∀ b ∈ B, b ∈ C := fun b hb => by
  obtain ⟨c, hc, hl⟩ := q.leads ((h b).mp (Sp.mem r.len hb)) (r.ne b hb)
  have e : b = c := r.same (Sp.mem r.len hb) ((h c).mpr (Sp.mem q.len hc)) fun b' hb' => by
    by_cases e : b = b'
    · subst e
      rw [lead_gt (r.ne b hb), ← hl, lead_gt (q.ne c hc)]
    · rw [r.un b hb b' hb' e]
      obtain ⟨c', hc', hl'⟩ := q.leads ((h b').mp (Sp.mem r.len hb')) (r.ne b' hb')
      have hne : c ≠ c' := fun z => by
        have h1 := r.un b hb b' hb' e
        rw [← hl', ← z, hl, lead_gt (r.ne b hb)] at h1
        cases h1
      rw [← hl', q.un c hc c' hc' hne]
  rw [e]
  exact hc
/-- the reduced base of what rows span, by ascending leads -/
structure Rref (n : Nat) (rows B : List (List Bool)) : Prop where
  red : Red n B
  asc : B.Pairwise (fun a b => lead a < lead b)
  span : ∀ v, Sp n B v ↔ Sp n rows v
end
end Z
set_option Elab.async false
set_option linter.all false
/-! G2: two ways to a reduced base. Plain Lean. -/
namespace Z
section
variable {n : Nat} {B C : List (List Bool)}
theorem pigeon : ∀ (n : Nat) (l : List Nat), l.Nodup → (∀ x ∈ l, x < n) → l.length ≤ n
  | 0, l, _, h => by
    cases l with
    | nil => simp
    | cons x xs => exact absurd (h x (List.mem_cons_self ..)) (Nat.not_lt_zero _)
  | n + 1, l, nd, h => by
    have ih := pigeon n (l.erase n) (nd.erase n) fun x hx => by
      have h1 := h x (List.mem_of_mem_erase hx)
      have h2 : x ≠ n := fun e => by rw [e] at hx; exact (List.Nodup.not_mem_erase nd) hx
      omega
    by_cases hm : n ∈ l
    · have := List.length_erase_of_mem hm
      omega
    · rw [List.erase_of_not_mem hm] at ih
      omega
/-! ### row by row -/
/-- r, freed of head's mark at p -/
def clr (p : Nat) (head r : List Bool) : List Bool := if gt r p then xr r head else r
theorem clr_len {p : Nat} {head r : List Bool} (h : head.length = n) (k : r.length = n) : (clr p head r).length = n := by
  unfold clr
  split
  · rw [xr_len (by rw [h, k]), k]
  · exact k
theorem clr_at {p : Nat} {head r : List Bool} (h : head.length = n) (k : r.length = n) (hp : gt head p = true) : gt (clr p head r) p = false := by
  unfold clr
  split
  · rename_i q
    rw [gt_xr (by rw [h, k]), q, hp]
    rfl
  · rename_i q
    simpa using q
theorem clr_other {p q : Nat} {head r : List Bool} (h : head.length = n) (k : r.length = n) (hq : gt head q = false) : gt (clr p head r) q = gt r q := by
  unfold clr
  split
  · rw [gt_xr (by rw [h, k]), hq, Bool.xor_false]
  · rfl
theorem clr_sp {p : Nat} {head r : List Bool} (hL : Len n C) (h : Sp n C head) (k : Sp n C r) : Sp n C (clr p head r) := by
  unfold clr
  split
  · exact k.xr hL h
  · exact k
theorem sp_clr {p : Nat} {head r : List Bool} (hL : Len n C) (l1 : head.length = n) (l2 : r.length = n) (h : Sp n C head) (k : Sp n C (clr p head r)) : Sp n C r := by
  unfold clr at k
  split at k
  · have := k.xr hL h
    rw [xr_assoc (by rw [l1, l2]) rfl, xr_self, l1, xr_nul l2] at this
    exact this
  · exact k
/-- put in a sequence by leads -/
theorem Rref.of_perm {rows S : List (List Bool)} (r : Red n B) (h : ∀ v, Sp n B v ↔ Sp n rows v) (p : S.Perm B) (asc : S.Pairwise fun a b => lead a < lead b) : Rref n rows S := by
  have m : ∀ b, b ∈ S ↔ b ∈ B := fun b => p.mem_iff
  refine ⟨⟨fun b hb => r.len b ((m b).mp hb), fun b hb => r.ne b ((m b).mp hb), fun b hb c hc => r.un b ((m b).mp hb) c ((m c).mp hc), p.nodup_iff.mpr r.nd⟩, asc, fun v => ?_⟩
  exact (show Sp n S v ↔ Sp n B v from ⟨fun s => s.mono fun b => (m b).mp, fun s => s.mono fun b => (m b).mpr⟩).trans (h v)
/-! ### place by place -/
end
end Z
set_option Elab.async false
set_option linter.all false
set_option maxRecDepth 100000
set_option maxHeartbeats 4000000
/-! G3: rows of marks below two as data. -/
namespace Z
open PySem PySem.Spec PyProof.Rows L2
def bI (b : Bool) : Int := if b then 1 else 0
theorem eqvAll_ints : ∀ xs ys : List Int, PyData.eqvAll (xs.map .int) (ys.map .int) = decide (xs = ys)
  | [], [] => by simp [PyData.eqvAll]
  | [], _ :: _ => by simp [PyData.eqvAll]
  | _ :: _, [] => by simp [PyData.eqvAll]
  | x :: xs, y :: ys => by
    simp only [List.map_cons, PyData.eqvAll, PyData.eqv, eqvAll_ints xs ys]
    by_cases h : x = y <;> by_cases k : xs = ys <;> simp [h, k]
theorem plain_ints (xs : List Int) : PyData.plainAll (xs.map .int) = true := plainAll_of fun d hd => by
  obtain ⟨x, _, rfl⟩ := List.mem_map.mp hd
  simp [PyData.plain, PyData.canLay0]
theorem depth_ints0 (xs : List Int) : PyData.depthAll (xs.map .int) = 0 := PySem.W.depth_ints xs
/-! ### sorted rows -/
/-! ### walks over rows -/
theorem zipD_map {α β : Type} (f : α → D) (g : β → D) : ∀ (xs : List α) (ys : List β), zipD (xs.map f) (ys.map g) = (xs.zip ys).map fun p => .tuple [f p.1, g p.2]
  | [], _ => rfl
  | _ :: _, [] => rfl
  | x :: xs, y :: ys => by
    have := zipD_map f g xs ys
    unfold zipD at this ⊢
    rw [List.map_cons, List.map_cons, List.zipWith_cons_cons, List.zip_cons_cons, List.map_cons, this]
theorem solid_mem : ∀ {xs : List D}, solids xs = true → ∀ x ∈ xs, solid x = true
  | y :: ys, h, x, hx => by
    simp only [solids, Bool.and_eq_true] at h
    rcases List.mem_cons.mp hx with rfl | hx
    · exact h.1
    · exact solid_mem h.2 x hx
theorem at_mem {xs : List D} {k : Int} (k0 : 0 ≤ k) (k1 : k < xs.length) : ∃ x, x ∈ xs ∧ atI xs k = some x := by
  obtain ⟨j, rfl⟩ := Int.eq_ofNat_of_zero_le k0
  have hj : j < xs.length := by omega
  exact ⟨xs[j], List.getElem_mem hj, atI_ok (List.getElem?_eq_getElem hj) rfl⟩
theorem perm_map {α β : Type} {f : α → β} {as bs : List β} (p : as.Perm bs) : ∀ {F : List α}, bs = F.map f → ∃ G : List α, G.Perm F ∧ as = G.map f := by
  induction p with
  | nil => exact fun h => ⟨_, List.Perm.refl _, h⟩
  | cons x _ ih =>
    intro F h
    cases F with
    | nil => cases h
    | cons a F =>
      rw [List.map_cons, List.cons.injEq] at h
      obtain ⟨G, g1, g2⟩ := ih h.2
      exact ⟨a :: G, g1.cons a, by rw [List.map_cons, h.1, g2]⟩
  | swap x y l =>
    intro F h
    match F, h with
    | a :: b :: F, h =>
      rw [List.map_cons, List.map_cons, List.cons.injEq, List.cons.injEq] at h
      exact ⟨b :: a :: F, List.Perm.swap a b F, by rw [List.map_cons, List.map_cons, h.1, h.2.1, h.2.2]⟩
  | trans _ _ ih1 ih2 =>
    intro F h
    obtain ⟨G, g1, g2⟩ := ih2 h
    obtain ⟨G', g3, g4⟩ := ih1 g2
    exact ⟨G', g3.trans g1, g4⟩
theorem fEq_eq {x : Str} {R : D → Prop} (h : R (.bool false)) : fEq true (.str x) (.str x) R := fEq_str (by simpa using h)
theorem cutL_take {α : Type} (xs : List α) (k : Nat) : cutL xs none (some (k : Int)) = xs.take k := by
  unfold cutL
  rw [HT.sIx_none, HT.sIx_nat, List.drop_zero, Nat.sub_zero]
  rcases Nat.le_total k xs.length with h | h
  · rw [Nat.min_eq_left h]
  · rw [Nat.min_eq_right h, List.take_of_length_le (Nat.le_refl _), List.take_of_length_le h]
end Z
set_option Elab.async false
set_option linter.all false
/-! G4: rows by numbers. -/
namespace Z
section
variable {n : Nat} {B S : List (List Bool)}
def bN (b : Bool) : Nat := if b then 1 else 0
/-! ### numbers ascend as rows do -/
/-! ### all sums -/
/-! ### independent rows -/
end
end Z
set_option Elab.async false
set_option linter.all false
/-! G5: even rows. -/
namespace Z
section
variable {n : Nat} {B S T : List (List Bool)}
/-! ### the free rows -/
/-! ### how many -/
theorem nodup_sub_len {α : Type} [BEq α] [LawfulBEq α] : ∀ (A M : List α), A.Nodup → (∀ a ∈ A, a ∈ M) → A.length ≤ M.length
  | [], M, _, _ => Nat.zero_le _
  | a :: A, M, nd, hs => by
    have nd' := List.nodup_cons.mp nd
    have ha := hs a (List.mem_cons_self ..)
    have ih := nodup_sub_len A (M.erase a) nd'.2 fun b hb => (List.mem_erase_of_ne fun e => nd'.1 (by rw [← e]; exact hb)).mpr (hs b (List.mem_cons_of_mem _ hb))
    have := List.length_erase_of_mem ha
    have := List.length_pos_of_mem ha
    simp only [List.length_cons]
    omega
/-! ### all rows -/
theorem asc_same {α : Type} {key : α → List Int} : ∀ {A B : List α}, A.Pairwise (fun a b => key a < key b) → B.Pairwise (fun a b => key a < key b) → (∀ x, x ∈ A ↔ x ∈ B) → A = B
  | [], [], _, _, _ => rfl
  | [], c :: C, _, _, h => by have := (h c).mpr (List.mem_cons_self ..); cases this
  | b :: B, [], _, _, h => by have := (h b).mp (List.mem_cons_self ..); cases this
  | b :: B, c :: C, hB, hC, h => by
    rw [List.pairwise_cons] at hB hC
    have irr : ∀ a : List Int, ¬ a < a := fun a => List.lt_irrefl a
    have e : b = c := by
      rcases List.mem_cons.mp ((h b).mp (List.mem_cons_self ..)) with z | z
      · exact z
      · rcases List.mem_cons.mp ((h c).mpr (List.mem_cons_self ..)) with y | y
        · exact y.symm
        · exact (irr _ (List.lt_trans (hB.1 c y) (hC.1 b z))).elim
    subst e
    rw [asc_same hB.2 hC.2 fun d => ⟨fun hd => ?_, fun hd => ?_⟩]
    · rcases List.mem_cons.mp ((h d).mp (List.mem_cons_of_mem _ hd)) with z | z
      · have := hB.1 d hd
        rw [z] at this
        exact (irr _ this).elim
      · exact z
    · rcases List.mem_cons.mp ((h d).mpr (List.mem_cons_of_mem _ hd)) with z | z
      · have := hC.1 d hd
        rw [z] at this
        exact (irr _ this).elim
      · exact z
end
/-! ### as data -/
open PySem PySem.Spec PyProof.Rows L2
abbrev natD (k : Nat) : D := .int ((k : Nat) : Int)
theorem rangeD_nats (n : Nat) : rangeD 0 n 1 = (List.range n).map natD := by
  apply List.ext_getElem?
  intro i
  rcases Nat.lt_or_ge i n with z | z
  · rw [List.getElem?_map, List.getElem?_range z]
    cases e : (rangeD 0 n 1)[i]? with
    | none =>
      rw [List.getElem?_eq_none_iff, rangeD_len] at e
      omega
    | some x =>
      rw [(range_at e).2]
      rfl
  · rw [List.getElem?_eq_none (by rw [rangeD_len]; omega), List.getElem?_eq_none (by rw [List.length_map, List.length_range]; exact z)]
theorem any_nats (x : Nat) : ∀ L : List Nat, ((L.map natD).any fun z => PyData.eqv z (natD x)) = L.contains x
  | [] => rfl
  | k :: L => by
    rw [List.map_cons, List.any_cons, any_nats x L, List.contains_cons]
    congr 1
    show PyData.eqv (.int _) (.int _) = _
    simp only [PyData.eqv]
    rw [Bool.eq_iff_iff]
    simp only [beq_iff_eq, decide_eq_true_eq]
    omega
theorem plain_nats (L : List Nat) : PyData.plainAll (L.map natD) = true := plainAll_of fun d hd => by
  obtain ⟨x, _, rfl⟩ := List.mem_map.mp hd
  simp [PyData.plain, PyData.canLay0]
theorem depth_nats (L : List Nat) : PyData.depthAll (L.map natD) = 0 := by
  have := PySem.W.depth_ints (L.map fun k => ((k : Nat) : Int))
  rw [List.map_map] at this
  exact this
theorem fIn_natsL {neg : Bool} {x : Nat} {L : List Nat} {R : D → Prop} (h : R (.bool (if neg then !L.contains x else L.contains x))) : fIn neg (natD x) (.list (L.map natD)) R :=
  ⟨by simp [PyData.plain, PyData.canLay0], plain_nats L, by rw [depth_nats]; simp, by rw [any_nats]; exact h⟩
theorem solids_nats (L : List Nat) : solids (L.map natD) = true := solids_of fun k _ => solid_int _
theorem ix0 {x : D} {xs : List D} {P : D → Prop} : (∃ d, atI (x :: xs) 0 = some d ∧ P d) = P x :=
  propext ⟨fun ⟨d, e, h⟩ => by
    have e' : atI (x :: xs) 0 = some x := atI_ok (j := 0) rfl rfl
    rw [e'] at e
    rw [← Option.some.inj e] at h
    exact h, fun h => ⟨x, atI_ok (j := 0) rfl rfl, h⟩⟩
theorem ix1 {x y : D} {xs : List D} {P : D → Prop} : (∃ d, atI (x :: y :: xs) 1 = some d ∧ P d) = P y :=
  propext ⟨fun ⟨d, e, h⟩ => by
    have e' : atI (x :: y :: xs) 1 = some y := atI_ok (j := 1) rfl rfl
    rw [e'] at e
    rw [← Option.some.inj e] at h
    exact h, fun h => ⟨y, atI_ok (j := 1) rfl rfl, h⟩⟩
/-- a list of ones is empty -/
theorem fEq_ones_nil {α : Type} {neg : Bool} {B : List α} {R : D → Prop} (h : R (.bool (if neg then !B.isEmpty else B.isEmpty))) : fEq neg (.list (B.map fun _ => (.int 1 : D))) (.list []) R := by
  refine ⟨?_, by simp [PyData.plain, PyData.plainAll], ?_, ?_⟩
  · simp only [PyData.plain]
    exact plainAll_of fun d hd => by
      obtain ⟨x, _, rfl⟩ := List.mem_map.mp hd
      simp [PyData.plain, PyData.canLay0]
  · simp only [PyData.depth, PyData.depthAll]; omega
  · have e : PyData.eqv (.list (B.map fun _ => (.int 1 : D))) (.list []) = B.isEmpty := by cases B <;> simp [PyData.eqv, PyData.eqvAll]
    rw [e]
    exact h
end Z
set_option Elab.async false
set_option linter.all false
set_option maxRecDepth 100000
set_option maxHeartbeats 4000000
/-! G6: sums and meets of codes. -/
namespace Z
section
variable {n : Nat} {A B C S T U : List (List Bool)}
theorem len_app (h : Len n A) (k : Len n B) : Len n (A ++ B) := fun b hb => (List.mem_append.mp hb).elim (h b) (k b)
theorem sp_left {v : List Bool} (s : Sp n A v) : Sp n (A ++ B) v := s.mono fun b hb => List.mem_append_left _ hb
end
open PySem PySem.Spec PyProof.Rows L2
end Z
set_option Elab.async false
set_option linter.all false
set_option maxRecDepth 100000
set_option maxHeartbeats 4000000
/-! G7: rows seen at places; kernels and images. -/
namespace Z
/-- a map of rows that keeps sums -/
structure Lin (n m : Nat) (f : List Bool → List Bool) : Prop where
  len : ∀ v, v.length = n → (f v).length = m
  add : ∀ u v, u.length = n → v.length = n → f (xr u v) = xr (f u) (f v)
  zer : f (nul n) = nul m
section
variable {n m : Nat} {A B C S T U : List (List Bool)} {f : List Bool → List Bool}
theorem Lin.sp (h : Lin n m f) (hB : Len n B) (w : List Bool) : Sp m (B.map f) w ↔ ∃ u, Sp n B u ∧ w = f u := by
  constructor
  · intro s
    induction s with
    | zero => exact ⟨nul n, .zero, h.zer.symm⟩
    | @add b v hb hv ih =>
      obtain ⟨c, hc, rfl⟩ := List.mem_map.mp hb
      obtain ⟨u, hu, rfl⟩ := ih
      exact ⟨xr c u, .add hc hu, (h.add c u (hB c hc) (hu.len hB)).symm⟩
  · rintro ⟨u, hu, rfl⟩
    induction hu with
    | zero => rw [h.zer]; exact .zero
    | @add b v hb hv ih =>
      rw [h.add b v (hB b hb) (hv.len hB)]
      exact .add (List.mem_map.mpr ⟨b, hb, rfl⟩) ih
/-! ### places -/
def atP (P : List Nat) (v : List Bool) : List Bool := P.map fun p => gt v p
/-! ### the code left at places -/
end
open PySem PySem.Spec PyProof.Rows L2
end Z
set_option Elab.async false
set_option linter.all false
set_option maxRecDepth 100000
set_option maxHeartbeats 4000000
/-! G8: rows made of rows, bases changed. -/
namespace Z
section
variable {n k : Nat} {A B C S T : List (List Bool)}
/-- the places of the marks -/
def idxs (c : List Bool) : List Nat := (List.range c.length).filter fun i => gt c i
theorem mem_idxs {c : List Bool} {i : Nat} : i ∈ idxs c ↔ gt c i = true := by
  unfold idxs
  rw [List.mem_filter, List.mem_range]
  refine ⟨fun z => z.2, fun z => ⟨Nat.lt_of_not_le fun h => (by rw [gt_out h] at z; cases z), z⟩⟩
theorem idxs_lt {c : List Bool} {i : Nat} (h : i ∈ idxs c) : i < c.length := by
  unfold idxs at h
  exact List.mem_range.mp (List.mem_filter.mp h).1
/-! ### a base with another row -/
/-! ### rows taken down by others -/
end
open PySem PySem.Spec PyProof.Rows L2
/-! ### as data -/
theorem dataLe_nats : PySem.W.dataLe (β := Nat) false natD = fun a b => decide (a ≤ b) := by
  funext a b
  show (!PySem.W.dataLt (.int ((b : Nat) : Int)) (.int ((a : Nat) : Int))) = _
  rw [PySem.W.dataLt_int]
  by_cases h : b < a
  · have h1 : (b : Int) < (a : Int) := by omega
    have h2 : ¬ a ≤ b := by omega
    simp [h1, h2]
  · have h1 : ¬ (b : Int) < (a : Int) := by omega
    have h2 : a ≤ b := by omega
    simp [h1, h2]
theorem sortOk_nats {L : List Nat} (h : L.length ≤ 10000000) : SortOk (L.map natD) := by
  refine ⟨plain_nats L, PySem.W.AllAlike.of (fun a b => ?_), .inr fun d hd => ?_, by simpa using h, by rw [depth_nats]; omega⟩
  · show PySem.W.alike (.int _) (.int _) = true
    simp only [PySem.W.alike]
  · obtain ⟨x, _, rfl⟩ := List.mem_map.mp hd
    exact ⟨(by intro z; cases z), (by intro xs z; cases z)⟩
theorem cutL_drop {α : Type} (xs : List α) (k : Nat) : cutL xs (some (k : Int)) none = xs.drop k := by
  unfold cutL
  rw [HT.sIx_none, HT.sIx_nat]
  rcases Nat.le_total k xs.length with h | h
  · rw [Nat.min_eq_left h, List.take_of_length_le (by rw [List.length_drop]; omega)]
  · rw [Nat.min_eq_right h, Nat.sub_self, List.take_zero, List.drop_eq_nil_of_le h]
end Z
set_option Elab.async false
set_option linter.all false
set_option maxRecDepth 100000
set_option maxHeartbeats 4000000
/-! G9: rows of any marks. -/
namespace Z
open PySem PySem.Spec PyProof.Rows L2
/-! ### sorted rows -/
theorem dataLe_tI : PySem.W.dataLe (β := List Int) false tI = fun a b => decide (a ≤ b) := by
  funext a b
  show (!PySem.W.dataLt (.tuple (b.map .int)) (.tuple (a.map .int))) = _
  rw [PySem.W.dataLt_tuple]
  show (!PySem.W.rowLt (b.map .int) (a.map .int)) = _
  rw [PySem.W.dataLt_ints]
  by_cases h : b < a
  · have h' : ¬ a ≤ b := fun r => List.not_lt.mpr r h
    simp [h, h']
  · have h' : a ≤ b := List.not_lt.mp h
    simp [h, h']
def upI (L : List (List Int)) : List (List Int) := L.mergeSort (PySem.W.dataLe false tI)
theorem sortD_tI (L : List (List Int)) : sortD false (L.map tI) = (upI L).map tI := by
  have := List.map_mergeSort (r := PySem.W.dataLe (β := List Int) false tI) (s := PySem.W.dataLe false id) (f := tI) (l := L) (fun a _ b' _ => rfl)
  exact this.symm
theorem upI_perm (L : List (List Int)) : (upI L).Perm L := List.mergeSort_perm _ _
theorem upI_asc (L : List (List Int)) : (upI L).Pairwise fun a b => a ≤ b := by
  have t := PySem.W.sortLe_total (PyProof.Rows.listOrd PyProof.Rows.itemOrd) false (fun r : List Int => PySem.W.keyToks (tI r))
  have pw : (upI L).Pairwise fun x y => PySem.W.dataLe false tI x y = true := List.pairwise_mergeSort t.trans (fun a b => by rw [Bool.or_eq_true]; exact t.total a b) L
  refine pw.imp fun {a b} z => ?_
  rw [dataLe_tI] at z
  exact of_decide_eq_true z
theorem upI_strict {L : List (List Int)} (nd : L.Nodup) : (upI L).Pairwise fun a b => a < b := by
  refine ((upI_asc L).and ((upI_perm L).nodup_iff.mpr nd)).imp fun {a b} z => ?_
  refine Classical.byContradiction fun y => ?_
  exact z.2 (List.le_antisymm z.1 (List.not_lt.mp y))
theorem sortOk_tI {L : List (List Int)} (h : ∀ r ∈ L, r ≠ []) (k : L.length ≤ 10000000) : SortOk (L.map tI) := by
  have pl : ∀ r : List Int, (tI r).plain = true := fun r => by
    show PyData.plain (.tuple _) = true
    simp only [PyData.plain]
    exact plain_ints _
  have dp : ∀ r : List Int, (tI r).depth = 1 := fun r => by
    show PyData.depth (.tuple _) = 1
    simp only [PyData.depth]
    rw [depth_ints0]
  refine ⟨plainAll_of fun d hd => ?_, PySem.W.AllAlike.of (fun a b => ?_), .inl fun d hd => ?_, by simpa using k, Nat.le_trans (depthAll_of (k := 1) fun d hd => ?_) (by decide)⟩
  · obtain ⟨r, _, rfl⟩ := List.mem_map.mp hd
    exact pl r
  · show PySem.W.alike (.tuple _) (.tuple _) = true
    simp only [PySem.W.alike]
    exact PySem.W.alike_ints _ _
  · obtain ⟨r, hr, rfl⟩ := List.mem_map.mp hd
    cases r with
    | nil => exact (h _ hr rfl).elim
    | cons x xs => exact ⟨_, _, rfl⟩
  · obtain ⟨r, _, rfl⟩ := List.mem_map.mp hd
    exact Nat.le_of_eq (dp r)
/-! ### the greatest mark -/
end Z
set_option Elab.async false
set_option linter.all false
set_option maxRecDepth 100000
set_option maxHeartbeats 4000000
/-! G10: rows as numbers, place k for 2 to the k. -/
namespace Z
open PySem PySem.Spec PyProof.Rows L2
section
variable {n m : Nat} {A B C S T U : List (List Bool)} {f : List Bool → List Bool}
def numB : List Bool → Nat
  | [] => 0
  | b :: bs => bN b + 2 * numB bs
/-- the last place with a mark -/
def top : List Bool → Nat
  | [] => 0
  | b :: bs => if bs.contains true then top bs + 1 else 0
/-! ### numbers solved -/
end
end Z
set_option Elab.async false
set_option linter.all false
set_option maxRecDepth 100000
set_option maxHeartbeats 4000000
/-! G11: ranks at places, widths. -/
set_option Elab.async false
set_option linter.all false
set_option maxRecDepth 100000
set_option maxHeartbeats 4000000
/-! G12: how many rows of a code are noughts on places, or beside them; how many sums they have. -/
set_option Elab.async false
set_option linter.all false
set_option maxRecDepth 100000
set_option maxHeartbeats 4000000
/-! G13: heads with their places, as data. -/
namespace Z
open PySem PySem.Spec PyProof.Rows L2
section
variable {n : Nat} {B S : List (List Bool)}
def bitsD (r : List Bool) : List D := r.map fun b => .int (bI b)
def headD (r : List Bool) : D := .tuple [.int ((lead r : Nat) : Int), frzD (bitsD r)]
end
end Z
set_option Elab.async false
set_option linter.all false
set_option maxRecDepth 100000
set_option maxHeartbeats 4000000
/-! G14: values of all kinds: how great they are, how they may be bent; what is a tuple of numbers below a bound, a row. -/
namespace Z
open PySem PySem.Spec PyProof.Rows L2
mutual
/-- an upper bound on how many signs show it -/
def wg : D → Nat
  | .none => 5
  | .bool _ => 6
  | .int _ => 15
  | .str x => (PyData.str x).shown.length
  | .list ds => wgs ds + 4
  | .tuple ds => wgs ds + 4
  | .dict kvs => wgk kvs + 4
def wgs : List D → Nat
  | [] => 0
  | d :: ds => wg d + 2 + wgs ds
def wgk : List (D × D) → Nat
  | [] => 0
  | (_, d) :: r => wg d + 2 + wgk r
end
mutual
/-- what never changes, its ints at most m either way -/
def good (m : Nat) : D → Bool
  | .none => true
  | .bool _ => true
  | .int i => decide (i.natAbs ≤ m)
  | .str _ => true
  | .list _ => false
  | .tuple ds => goods m ds
  | .dict kvs => (isFrz kvs && goodk m kvs) || (isFrd kvs && kvs.length == 1)
def goods (m : Nat) : List D → Bool
  | [] => true
  | d :: ds => good m d && goods m ds
def goodk (m : Nat) : List (D × D) → Bool
  | [] => true
  | (_, d) :: r => good m d && goodk m r
end
theorem goods_all {m : Nat} : ∀ {ds : List D}, goods m ds = true ↔ ∀ d ∈ ds, good m d = true
  | [] => by simp [goods]
  | d :: ds => by simp [goods, goods_all]
mutual
theorem good_can {m : Nat} : ∀ d : D, good m d = true → canT d = true
  | .none, _ => by simp [canT]
  | .bool _, _ => by simp [canT]
  | .int _, _ => by simp [canT]
  | .str _, _ => by simp [canT]
  | .list _, h => by simp [good] at h
  | .tuple ds, h => by
    simp only [canT]
    exact goods_can ds (by simpa only [good] using h)
  | .dict kvs, h => by
    simp only [good, Bool.or_eq_true, Bool.and_eq_true] at h
    simp only [canT, Bool.or_eq_true, Bool.and_eq_true]
    exact h.imp (fun z => ⟨z.1, goodk_can kvs z.2⟩) id
theorem goods_can {m : Nat} : ∀ ds : List D, goods m ds = true → canTs ds = true
  | [], _ => by simp [canTs]
  | d :: ds, h => by
    simp only [goods, Bool.and_eq_true] at h
    simp only [canTs, good_can d h.1, goods_can ds h.2, Bool.and_self]
theorem goodk_can {m : Nat} : ∀ ds : List (D × D), goodk m ds = true → canTk ds = true
  | [], _ => by simp [canTk]
  | (_, d) :: ds, h => by
    simp only [goodk, Bool.and_eq_true] at h
    simp only [canTk, good_can d h.1, goodk_can ds h.2, Bool.and_self]
end
mutual
theorem good_solid {m : Nat} : ∀ d : D, good m d = true → solid d = true
  | .none, _ => by simp [solid]
  | .bool _, _ => by simp [solid]
  | .int _, _ => by simp [solid]
  | .str _, _ => by simp [solid]
  | .list _, h => by simp [good] at h
  | .tuple ds, h => by
    simp only [solid]
    exact goods_solid ds (by simpa only [good] using h)
  | .dict kvs, h => by
    simp only [good, Bool.or_eq_true, Bool.and_eq_true] at h
    rcases h with ⟨z, _⟩ | ⟨z, _⟩
    · obtain ⟨r, rfl⟩ := isFrz_cons z
      simp [solid, isSrc, isFrz]
    · obtain ⟨r, rfl⟩ := isFrd_cons z
      simp [solid, isSrc, isFrd]
theorem goods_solid {m : Nat} : ∀ ds : List D, goods m ds = true → solids ds = true
  | [], _ => by simp [solids]
  | d :: ds, h => by
    simp only [goods, Bool.and_eq_true] at h
    simp only [solids, good_solid d h.1, goods_solid ds h.2, Bool.and_self]
end
mutual
theorem good_mono {m m' : Nat} (hm : m ≤ m') : ∀ d : D, good m d = true → good m' d = true
  | .none, _ => by simp [good]
  | .bool _, _ => by simp [good]
  | .int i, h => by
    simp only [good, decide_eq_true_eq] at h ⊢
    omega
  | .str _, _ => by simp [good]
  | .list _, h => by simp [good] at h
  | .tuple ds, h => by
    simp only [good]
    exact goods_mono hm ds (by simpa only [good] using h)
  | .dict kvs, h => by
    simp only [good, Bool.or_eq_true, Bool.and_eq_true] at h ⊢
    exact h.imp (fun z => ⟨z.1, goodk_mono hm kvs z.2⟩) id
theorem goods_mono {m m' : Nat} (hm : m ≤ m') : ∀ ds : List D, goods m ds = true → goods m' ds = true
  | [], _ => by simp [goods]
  | d :: ds, h => by
    simp only [goods, Bool.and_eq_true] at h ⊢
    exact ⟨good_mono hm d h.1, goods_mono hm ds h.2⟩
theorem goodk_mono {m m' : Nat} (hm : m ≤ m') : ∀ ds : List (D × D), goodk m ds = true → goodk m' ds = true
  | [], _ => by simp [goodk]
  | (_, d) :: ds, h => by
    simp only [goodk, Bool.and_eq_true] at h ⊢
    exact ⟨good_mono hm d h.1, goodk_mono hm ds h.2⟩
end
theorem log_small {i : Int} (h : i.natAbs ≤ 100000000000) : i.natAbs.log2 < 1920 := log2_small (Nat.lt_of_le_of_lt h (by decide))
mutual
theorem good_show {m : Nat} (hm : m ≤ 100000000000) : ∀ d : D, good m d = true → (thaw d).showable = true ∧ (thaw d).shown.length ≤ wg d
  | .none, _ => by
    simp only [thaw, wg]
    exact ⟨by decide, by decide⟩
  | .bool b, _ => by
    simp only [thaw, wg]
    cases b <;> exact ⟨by decide, by decide⟩
  | .int i, h => by
    simp only [good, decide_eq_true_eq] at h
    simp only [thaw, wg, PyData.showable, decide_eq_true_eq]
    exact ⟨log_small (Nat.le_trans h hm), Nat.le_trans (PyData.shown_int_le (show i.natAbs < 10 ^ 12 from Nat.lt_of_le_of_lt (Nat.le_trans h hm) (by decide))) (by decide)⟩
  | .str x, _ => by
    simp only [thaw, wg, PyData.showable]
    exact ⟨trivial, Nat.le_refl _⟩
  | .list _, h => by simp [good] at h
  | .tuple ds, h => by
    obtain ⟨h1, h2⟩ := goods_show hm ds (by simpa only [good] using h)
    simp only [thaw, wg, PyData.showable, PyData.shown]
    refine ⟨h1, Nat.le_trans (tupleText_len_le _) ?_⟩
    omega
  | .dict kvs, h => by
    simp only [good, Bool.or_eq_true, Bool.and_eq_true] at h
    rcases h with ⟨z, hk⟩ | ⟨z, hl⟩
    · obtain ⟨r, rfl⟩ := isFrz_cons z
      simp only [goodk, Bool.and_eq_true] at hk
      obtain ⟨h1, h2⟩ := goodk_show hm r hk.2
      have e : thaw (.dict ((.bool true, .none) :: r)) = .list (thawk r) := by simp only [thaw, if_pos z, thawk, List.tail_cons]
      rw [e]
      simp only [wg, wgk, PyData.showable, PyData.shown]
      refine ⟨h1, Nat.le_trans (listText_len_le _) ?_⟩
      omega
    · obtain ⟨r, rfl⟩ := isFrd_cons z
      obtain rfl : r = [] := by simpa using hl
      rw [show thaw (.dict [(.bool false, .none)]) = .dict [] from thaw_frd]
      simp only [wg, wgk]
      exact ⟨by decide, by decide⟩
theorem goods_show {m : Nat} (hm : m ≤ 100000000000) : ∀ ds : List D, goods m ds = true → PyData.showableAll (thaws ds) = true ∧ ((PyData.shownAll (thaws ds)).map (·.length)).sum + 2 * (PyData.shownAll (thaws ds)).length ≤ wgs ds
  | [], _ => by simp [thaws, PyData.showableAll, PyData.shownAll, wgs]
  | d :: ds, h => by
    simp only [goods, Bool.and_eq_true] at h
    obtain ⟨a1, a2⟩ := good_show hm d h.1
    obtain ⟨b1, b2⟩ := goods_show hm ds h.2
    simp only [thaws, PyData.showableAll, PyData.shownAll, wgs, a1, b1, List.map_cons, List.sum_cons, List.length_cons]
    exact ⟨rfl, by omega⟩
theorem goodk_show {m : Nat} (hm : m ≤ 100000000000) : ∀ ds : List (D × D), goodk m ds = true → PyData.showableAll (thawk ds) = true ∧ ((PyData.shownAll (thawk ds)).map (·.length)).sum + 2 * (PyData.shownAll (thawk ds)).length ≤ wgk ds
  | [], _ => by simp [thawk, PyData.showableAll, PyData.shownAll, wgk]
  | (_, d) :: ds, h => by
    simp only [goodk, Bool.and_eq_true] at h
    obtain ⟨a1, a2⟩ := good_show hm d h.1
    obtain ⟨b1, b2⟩ := goodk_show hm ds h.2
    simp only [thawk, PyData.showableAll, PyData.shownAll, wgk, a1, b1, List.map_cons, List.sum_cons, List.length_cons]
    exact ⟨rfl, by omega⟩
end
/-- a value of any kind that never changes: ints at most m either way, at most k deep, shown by at most L signs -/
structure Vl (m k L : Nat) (d : D) : Prop where
  good : good m d = true
  dep : (thaw d).depth ≤ k
  wt : wg d ≤ L
theorem Vl.ok {m k L : Nat} {d : D} (h : Vl m k L d) (hm : m ≤ 100000000000) (hk : k ≤ 40) (hL : L ≤ 10000000) : OkT 40 10000000 d :=
  ⟨good_can _ h.good, Nat.le_trans h.dep hk, (good_show hm _ h.good).1, Nat.le_trans (good_show hm _ h.good).2 (Nat.le_trans h.wt hL)⟩
theorem Vl.solid {m k L : Nat} {d : D} (h : Vl m k L d) : solid d = true := good_solid _ h.good
theorem Vl.mono {m k L m' k' L' : Nat} {d : D} (h : Vl m k L d) (a : m ≤ m') (b : k ≤ k') (c : L ≤ L') : Vl m' k' L' d := ⟨good_mono a _ h.good, Nat.le_trans h.dep b, Nat.le_trans h.wt c⟩
theorem wgs_len : ∀ ds : List D, 2 * ds.length ≤ wgs ds
  | [] => by simp [wgs]
  | d :: ds => by
    have := wgs_len ds
    simp only [wgs, List.length_cons]
    omega
theorem depthAll_le {k : Nat} : ∀ {ds : List D}, PyData.depthAll (thaws ds) ≤ k ↔ ∀ d ∈ ds, (thaw d).depth ≤ k
  | [] => by simp [thaws, PyData.depthAll]
  | d :: ds => by
    simp only [thaws, PyData.depthAll, List.mem_cons, forall_eq_or_imp, Nat.max_le, depthAll_le]
/-- a tuple of such -/
theorem Vl.tuple {m k L : Nat} {ds : List D} (h : ∀ d ∈ ds, ∃ l, Vl m k l d) (w : wgs ds + 4 ≤ L) : Vl m (k + 1) L (.tuple ds) := by
  refine ⟨?_, ?_, ?_⟩
  · simp only [Z.good]
    exact goods_all.mpr fun d hd => let ⟨l, hl⟩ := h d hd; hl.good
  · simp only [thaw, PyData.depth]
    have : PyData.depthAll (thaws ds) ≤ k := depthAll_le.mpr fun d hd => let ⟨l, hl⟩ := h d hd; hl.dep
    omega
  · simp only [wg]
    exact w
theorem Vl.frz {m k L : Nat} {ds : List D} (h : ∀ d ∈ ds, ∃ l, Vl m k l d) (w : wgs ds + 15 ≤ L) : Vl m (k + 1) L (frzD ds) := by
  have gk : ∀ es : List D, (∀ d ∈ es, ∃ l, Vl m k l d) → goodk m (es.map fun d => (.bool true, d)) = true := fun es => by
    induction es with
    | nil => intro _; simp [goodk]
    | cons e es ih =>
      intro h
      simp only [List.map_cons, goodk, Bool.and_eq_true]
      exact ⟨let ⟨l, hl⟩ := h e (List.mem_cons_self ..); hl.good, ih fun d hd => h d (List.mem_cons_of_mem _ hd)⟩
  have wk : ∀ es : List D, wgk (es.map fun d => ((.bool true : D), d)) = wgs es := fun es => by
    induction es with
    | nil => simp [wgk, wgs]
    | cons e es ih => simp only [List.map_cons, wgk, wgs, ih]
  refine ⟨?_, ?_, ?_⟩
  · unfold frzD frzK
    simp only [Z.good, goodk, gk ds h]
    rfl
  · rw [thaw_frz]
    simp only [PyData.depth]
    have : PyData.depthAll (thaws ds) ≤ k := depthAll_le.mpr fun d hd => let ⟨l, hl⟩ := h d hd; hl.dep
    rw [thaws_map] at this
    omega
  · unfold frzD frzK
    simp only [wg, wgk, wk]
    omega
theorem Vl.parts {m k L : Nat} {ds : List D} (h : Vl m k L (.tuple ds)) : 1 ≤ k ∧ wgs ds + 4 ≤ L ∧ ∀ d ∈ ds, Vl m (k - 1) (wg d) d := by
  have h1 := h.good
  have h2 := h.dep
  have h3 := h.wt
  simp only [Z.good] at h1
  simp only [thaw, PyData.depth] at h2
  simp only [wg] at h3
  have h4 := goods_all.mp h1
  have h5 : PyData.depthAll (thaws ds) ≤ k - 1 := by omega
  exact ⟨by omega, h3, fun d hd => ⟨h4 d hd, depthAll_le.mp h5 d hd, Nat.le_refl _⟩⟩
theorem Vl.isi {m k L : Nat} {d : D} (h : Vl m k L d) : noFrz d := by
  cases d with
  | dict kvs =>
    have := h.good
    simp only [Z.good, Bool.or_eq_true, Bool.and_eq_true] at this
    rcases this with ⟨z, _⟩ | ⟨z, hl⟩
    · exact .inl z
    · obtain ⟨r, rfl⟩ := isFrd_cons z
      obtain rfl : r = [] := by simpa using hl
      exact .inr rfl
  | _ => trivial
theorem Vl.none {m k : Nat} : Vl m k 5 .none := ⟨by simp [Z.good], by simp [thaw, PyData.depth], by simp [wg]⟩
theorem Vl.bool {m k : Nat} {b : Bool} : Vl m k 6 (.bool b) := ⟨by simp [Z.good], by simp [thaw, PyData.depth], by simp [wg]⟩
theorem Vl.int {m k : Nat} {i : Int} (h : i.natAbs ≤ m) : Vl m k 15 (.int i) := ⟨by simp [Z.good, h], by simp [thaw, PyData.depth], by simp [wg]⟩
theorem Vl.str {m k : Nat} {x : Str} {L : Nat} (h : (PyData.str x).shown.length ≤ L) : Vl m k L (.str x) := ⟨by simp [Z.good], by simp [thaw, PyData.depth], by simpa [wg] using h⟩
theorem Vl.inner {m k L : Nat} {d : D} (h : Vl m k L d) (hL : L ≤ 10000000) : noFrz d ∧ ∀ xs, d = .tuple xs → xs.length ≤ 10000000 ∧ ∀ x ∈ xs, noFrz x := ⟨h.isi, fun xs e => by
  subst e
  obtain ⟨_, a, b⟩ := h.parts
  have := wgs_len xs
  exact ⟨by omega, fun x hx => (b x hx).isi⟩⟩
/-- a value and what lies in it has a type that is known, and is not too long -/
def inner (d : D) : Prop := noFrz d ∧ ∀ xs, d = .tuple xs → xs.length ≤ 10000000 ∧ ∀ x ∈ xs, noFrz x
/-! ### tuples of numbers below a bound; rows -/
end Z
set_option Elab.async false
set_option linter.all false
set_option maxRecDepth 100000
set_option maxHeartbeats 4000000
/-! G15: told faults; sums of rows with some numbers; what is short. -/
namespace Z
open PySem L2
theorem ok_nats {ns : List Nat} {m : Nat} (h : ∀ n ∈ ns, n ≤ 1000000) (hl : ns.length ≤ m) : Ok 1 (m * 15 + 3) (.tuple (ns.map natD)) := Ok.tuple (k := 0) (w := 13) (fun d hd => by
  obtain ⟨n, hn, rfl⟩ := List.mem_map.mp hd
  exact Ok.int (by have := h n hn; omega)) (by rw [List.length_map]; exact hl)
end Z
set_option Elab.async false
set_option linter.all false
set_option maxHeartbeats 1000000
/-! G16: rows led place by place (stepped), ranks by columns, numbers of lots. Plain Lean. -/
namespace Z
open PySem
section
variable {n m : Nat} {B X : List (List Bool)}
theorem sp_perm {P Q : List (List Bool)} (p : P.Perm Q) {v : List Bool} : Sp n P v ↔ Sp n Q v := ⟨fun s => s.mono fun b hb => p.mem_iff.mp hb, fun s => s.mono fun b hb => p.mem_iff.mpr hb⟩
theorem sp_clear {p : Nat} {r : List Bool} (hr : r.length = n) (hX : Len n X) {v : List Bool} : Sp n (r :: X.map (clr p r)) v ↔ Sp n (r :: X) v := by
  have l1 : Len n (r :: X) := fun b hb => by
    rcases List.mem_cons.mp hb with rfl | hb
    · exact hr
    · exact hX b hb
  have l2 : Len n (r :: X.map (clr p r)) := fun b hb => by
    rcases List.mem_cons.mp hb with rfl | hb
    · exact hr
    · obtain ⟨c, hc, rfl⟩ := List.mem_map.mp hb
      exact clr_len hr (hX c hc)
  have h1 : Sp n (r :: X) r := Sp.mem l1 (List.mem_cons_self ..)
  have h2 : Sp n (r :: X.map (clr p r)) r := Sp.mem l2 (List.mem_cons_self ..)
  constructor
  · refine fun s => s.sub l1 fun b hb => ?_
    rcases List.mem_cons.mp hb with rfl | hb
    · exact h1
    · obtain ⟨c, hc, rfl⟩ := List.mem_map.mp hb
      exact clr_sp l1 h1 (Sp.mem l1 (List.mem_cons_of_mem _ hc))
  · refine fun s => s.sub l2 fun b hb => ?_
    rcases List.mem_cons.mp hb with rfl | hb
    · exact h2
    · exact sp_clr l2 hr (hX b hb) h2 (Sp.mem l2 (List.mem_cons_of_mem _ (List.mem_map.mpr ⟨b, hb, rfl⟩)))
/-- one place -/
def stepHL (st : List (Nat × List Bool) × List (List Bool)) (p : Nat) : List (Nat × List Bool) × List (List Bool) :=
  match st.2.zipIdx.filter fun q => gt q.1 p with
  | [] => st
  | q :: _ => ((st.1.map fun a => (a.1, clr p q.1 a.2)) ++ [(p, q.1)], (st.2.eraseIdx q.2).map (clr p q.1))
structure HL (n : Nat) (B : List (List Bool)) (Q : List Nat) (H : List (Nat × List Bool)) (L : List (List Bool)) : Prop where
  lenH : Len n (H.map (·.2))
  lenL : Len n L
  sp : ∀ v, Sp n (H.map (·.2) ++ L) v ↔ Sp n B v
  zer : ∀ q ∈ Q, ∀ r ∈ L, gt r q = false
  one : ∀ a ∈ H, a.1 ∈ Q ∧ gt a.2 a.1 = true
  apart : H.Pairwise fun a b => gt a.2 b.1 = false ∧ gt b.2 a.1 = false
  many : H.length + L.length = B.length
  up : (H.map (·.1)).Sublist Q
theorem HL.start (hB : Len n B) : HL n B [] [] B := ⟨fun b hb => (by cases hb), hB, fun v => Iff.rfl, fun q hq => (by cases hq), fun a ha => (by cases ha), .nil, by simp, by simp⟩
theorem zipIdx_get {α : Type} {L : List α} {q : α × Nat} (h : q ∈ L.zipIdx) : ∃ hq : q.2 < L.length, L[q.2] = q.1 := by
  obtain ⟨x, j⟩ := q
  have := List.mem_zipIdx h
  refine ⟨by omega, ?_⟩
  have := this.2.2
  simp only [Nat.sub_zero] at this
  exact this.symm
theorem perm_at {α : Type} : ∀ (L : List α) (j : Nat) (h : j < L.length), L.Perm (L[j] :: L.eraseIdx j)
  | a :: L, 0, _ => List.Perm.refl _
  | a :: L, j + 1, h => by
    have ih := perm_at L j (by simpa using h)
    exact (ih.cons a).trans (List.Perm.swap ..)
theorem HL.step {Q : List Nat} {H : List (Nat × List Bool)} {L : List (List Bool)} (h : HL n B Q H L) (p : Nat) : HL n B (Q ++ [p]) (stepHL (H, L) p).1 (stepHL (H, L) p).2 := by
  unfold stepHL
  simp only
  cases e : L.zipIdx.filter fun q => gt q.1 p with
  | nil =>
    refine ⟨h.lenH, h.lenL, h.sp, fun q hq r hr => ?_, fun a ha => ⟨List.mem_append_left _ (h.one a ha).1, (h.one a ha).2⟩, h.apart, h.many, h.up.trans (List.sublist_append_left ..)⟩
    rcases List.mem_append.mp hq with hq | hq
    · exact h.zer q hq r hr
    · rw [List.mem_singleton.mp hq]
      obtain ⟨j, hj, rfl⟩ := List.mem_iff_getElem.mp hr
      have := List.filter_eq_nil_iff.mp e (L[j], j) (List.mem_zipIdx_iff_getElem?.mpr (List.getElem?_eq_getElem hj))
      simpa using this
  | cons q more =>
    have hm : q ∈ L.zipIdx.filter fun q => gt q.1 p := by rw [e]; exact List.mem_cons_self ..
    obtain ⟨hz, hg⟩ := List.mem_filter.mp hm
    obtain ⟨hj, ej⟩ := zipIdx_get hz
    obtain ⟨r, j⟩ := q
    simp only at hz hg hj ej ⊢
    have hr : r ∈ L := by rw [← ej]; exact List.getElem_mem hj
    have lr := h.lenL r hr
    have pe : L.Perm (r :: L.eraseIdx j) := by have := perm_at L j hj; rw [ej] at this; exact this
    have le : Len n (L.eraseIdx j) := fun b hb => h.lenL b (List.mem_of_mem_eraseIdx hb)
    have lH : ∀ a ∈ H, a.2.length = n := fun a ha => h.lenH _ (List.mem_map.mpr ⟨a, ha, rfl⟩)
    have er : ∀ a ∈ H, gt (clr p r a.2) a.1 = gt a.2 a.1 := fun a ha => clr_other lr (lH a ha) (h.zer _ (h.one a ha).1 r hr)
    refine ⟨fun b hb => ?_, fun b hb => ?_, fun v => ?_, fun q hq b hb => ?_, fun a ha => ?_, ?_, ?_, ?_⟩
    · rw [List.map_append, List.map_map] at hb
      rcases List.mem_append.mp hb with hb | hb
      · obtain ⟨a, ha, rfl⟩ := List.mem_map.mp hb
        exact clr_len lr (lH a ha)
      · simp only [List.map_cons, List.map_nil, List.mem_singleton] at hb
        rw [hb]
        exact lr
    · obtain ⟨c, hc, rfl⟩ := List.mem_map.mp hb
      exact clr_len lr (le c hc)
    · rw [← h.sp v]
      have lX : Len n (H.map (·.2) ++ L.eraseIdx j) := len_app h.lenH le
      have p1 : (H.map (·.2) ++ L).Perm (r :: (H.map (·.2) ++ L.eraseIdx j)) := (List.Perm.append_left _ pe).trans List.perm_middle
      have p2 : (((H.map fun a => (a.1, clr p r a.2)) ++ [(p, r)]).map (·.2) ++ (L.eraseIdx j).map (clr p r)).Perm (r :: (H.map (·.2) ++ L.eraseIdx j).map (clr p r)) := by
        have e : ((H.map fun a => (a.1, clr p r a.2)) ++ [(p, r)]).map (·.2) ++ (L.eraseIdx j).map (clr p r) = (H.map (·.2)).map (clr p r) ++ r :: (L.eraseIdx j).map (clr p r) := by
          simp [List.map_map, Function.comp_def]
        rw [e, List.map_append]
        exact List.perm_middle
      rw [sp_perm p2, sp_clear lr lX, sp_perm p1]
    · obtain ⟨c, hc, rfl⟩ := List.mem_map.mp hb
      have hcL := List.mem_of_mem_eraseIdx hc
      rcases List.mem_append.mp hq with hq | hq
      · rw [clr_other lr (h.lenL c hcL) (h.zer q hq r hr)]
        exact h.zer q hq c hcL
      · rw [List.mem_singleton.mp hq]
        exact clr_at lr (h.lenL c hcL) hg
    · rcases List.mem_append.mp ha with ha | ha
      · obtain ⟨b, hb, rfl⟩ := List.mem_map.mp ha
        exact ⟨List.mem_append_left _ (h.one b hb).1, by rw [er b hb]; exact (h.one b hb).2⟩
      · rw [List.mem_singleton.mp ha]
        exact ⟨List.mem_append_right _ (List.mem_singleton.mpr rfl), hg⟩
    · refine List.pairwise_append.mpr ⟨List.pairwise_map.mpr (h.apart.imp_of_mem fun {a b} ha hb z => ?_), List.pairwise_singleton _ _, fun a ha b hb => ?_⟩
      · simp only
        rw [clr_other lr (lH a ha) (h.zer _ (h.one b hb).1 r hr), clr_other lr (lH b hb) (h.zer _ (h.one a ha).1 r hr)]
        exact z
      · rw [List.mem_singleton.mp hb]
        obtain ⟨c, hc, rfl⟩ := List.mem_map.mp ha
        exact ⟨clr_at lr (lH c hc) hg, h.zer _ (h.one c hc).1 r hr⟩
    · have := h.many
      have := pe.length_eq
      simp only [List.length_append, List.length_map, List.length_cons, List.length_nil] at *
      omega
    · rw [List.map_append, List.map_map]
      exact h.up.append (List.Sublist.refl _)
end
end Z
set_option Elab.async false
set_option linter.all false
set_option maxHeartbeats 1000000
/-! G17: columns taken one by one; lots of places by numbers. Plain Lean. -/
namespace Z
open PySem
section
variable {n m : Nat} {B X : List (List Bool)}
def redT (H : List (Nat × List Bool)) (v : List Bool) : List Bool := H.foldl (fun l a => clr a.1 a.2 l) v
def addT (H : List (Nat × List Bool)) (v : List Bool) : List (Nat × List Bool) := match idxs (redT H v) with
  | [] => H
  | k :: _ => H ++ [(k, redT H v)]
structure TT (m : Nat) (X : List (List Bool)) (H : List (Nat × List Bool)) : Prop where
  len : Len m (H.map (·.2))
  one : ∀ a ∈ H, gt a.2 a.1 = true
  low : H.Pairwise fun a b => gt b.2 a.1 = false
  sp : ∀ v, Sp m (H.map (·.2)) v ↔ Sp m X v
  lt : ∀ a ∈ H, a.1 < m
theorem TT.nil : TT m [] [] := ⟨fun b hb => (by cases hb), fun a ha => (by cases ha), .nil, fun v => Iff.rfl, fun a ha => (by cases ha)⟩
theorem redT_ok : ∀ (H : List (Nat × List Bool)), Len m (H.map (·.2)) → (∀ a ∈ H, gt a.2 a.1 = true) → H.Pairwise (fun a b => gt b.2 a.1 = false) → ∀ v : List Bool, v.length = m →
    (redT H v).length = m ∧ (∀ a ∈ H, gt (redT H v) a.1 = false) ∧ (∀ p, (∀ a ∈ H, gt a.2 p = false) → gt (redT H v) p = gt v p) ∧ (∀ C, Len m C → (∀ a ∈ H, Sp m C a.2) → (Sp m C (redT H v) ↔ Sp m C v))
  | [], _, _, _, v, lv => ⟨lv, fun a ha => (by cases ha), fun p _ => rfl, fun C _ _ => Iff.rfl⟩
  | a :: H, l, one, low, v, lv => by
    have low := List.pairwise_cons.mp low
    have la : a.2.length = m := l _ (List.mem_cons_self ..)
    obtain ⟨h1, h2, h3, h4⟩ := redT_ok H (fun b hb => l b (List.mem_cons_of_mem _ hb)) (fun b hb => one b (List.mem_cons_of_mem _ hb)) low.2 (clr a.1 a.2 v) (clr_len la lv)
    refine ⟨h1, fun b hb => ?_, fun p hp => ?_, fun C lC hC => ?_⟩
    · rcases List.mem_cons.mp hb with rfl | hb
      · show gt (redT H (clr b.1 b.2 v)) b.1 = false
        rw [h3 b.1 low.1, clr_at la lv (one _ (List.mem_cons_self ..))]
      · exact h2 b hb
    · show gt (redT H (clr a.1 a.2 v)) p = gt v p
      rw [h3 p fun b hb => hp b (List.mem_cons_of_mem _ hb), clr_other la lv (hp a (List.mem_cons_self ..))]
    · have ha := hC a (List.mem_cons_self ..)
      refine (h4 C lC fun b hb => hC b (List.mem_cons_of_mem _ hb)).trans ⟨fun s => sp_clr lC la lv ha s, fun s => clr_sp lC ha s⟩
theorem TT.add {H : List (Nat × List Bool)} (h : TT m X H) (hX : Len m X) {v : List Bool} (hv : v.length = m) : TT m (X ++ [v]) (addT H v) := by
  obtain ⟨h1, h2, h3, h4⟩ := redT_ok H h.len h.one h.low v hv
  have lXv : Len m (X ++ [v]) := len_app hX fun b hb => by rw [List.mem_singleton.mp hb]; exact hv
  have inX : ∀ a ∈ H, Sp m (X ++ [v]) a.2 := fun a ha => sp_left ((h.sp _).mp (Sp.mem h.len (List.mem_map.mpr ⟨a, ha, rfl⟩)))
  have sv : Sp m (X ++ [v]) (redT H v) := (h4 _ lXv inX).mpr (Sp.mem lXv (by simp))
  unfold addT
  cases e : idxs (redT H v) with
  | nil =>
    have z : redT H v = nul m := row_ext (by rw [h1, nul_len]) fun p => by
      rw [gt_nul]
      cases g : gt (redT H v) p with
      | false => rfl
      | true => have := mem_idxs.mpr g; rw [e] at this; cases this
    have sH : Sp m (H.map (·.2)) v := (h4 _ h.len fun a ha => Sp.mem h.len (List.mem_map.mpr ⟨a, ha, rfl⟩)).mp (by rw [z]; exact .zero)
    refine ⟨h.len, h.one, h.low, fun w => (h.sp w).trans ⟨sp_left, fun s => s.sub hX fun b hb => ?_⟩, h.lt⟩
    rcases List.mem_append.mp hb with hb | hb
    · exact Sp.mem hX hb
    · rw [List.mem_singleton.mp hb]
      exact (h.sp v).mp sH
  | cons k more =>
    have g : gt (redT H v) k = true := mem_idxs.mp (by rw [e]; exact List.mem_cons_self ..)
    have lA : Len m ((H ++ [(k, redT H v)]).map (·.2)) := fun b hb => by
      rw [List.map_append] at hb
      rcases List.mem_append.mp hb with hb | hb
      · exact h.len b hb
      · simp only [List.map_cons, List.map_nil, List.mem_singleton] at hb
        rw [hb]
        exact h1
    refine ⟨lA, fun a ha => ?_, List.pairwise_append.mpr ⟨h.low, List.pairwise_singleton _ _, fun a ha b hb => ?_⟩, fun w => ⟨fun s => s.sub lXv fun b hb => ?_, fun s => s.sub lA fun b hb => ?_⟩, fun a ha => ?_⟩
    · rcases List.mem_append.mp ha with ha | ha
      · exact h.one a ha
      · rw [List.mem_singleton.mp ha]
        exact g
    · rw [List.mem_singleton.mp hb]
      exact h2 a ha
    · rw [List.map_append] at hb
      rcases List.mem_append.mp hb with hb | hb
      · obtain ⟨a, ha, rfl⟩ := List.mem_map.mp hb
        exact inX a ha
      · simp only [List.map_cons, List.map_nil, List.mem_singleton] at hb
        rw [hb]
        exact sv
    · have inA : ∀ a ∈ H, Sp m ((H ++ [(k, redT H v)]).map (·.2)) a.2 := fun a ha => Sp.mem lA (List.mem_map.mpr ⟨a, List.mem_append_left _ ha, rfl⟩)
      rcases List.mem_append.mp hb with hb | hb
      · refine ((h.sp b).mpr (Sp.mem hX hb)).sub lA fun c hc => ?_
        obtain ⟨a, ha, rfl⟩ := List.mem_map.mp hc
        exact inA a ha
      · rw [List.mem_singleton.mp hb]
        exact (h4 _ lA inA).mp (Sp.mem lA (by simp))
    · rcases List.mem_append.mp ha with ha | ha
      · exact h.lt a ha
      · rw [List.mem_singleton.mp ha]
        have := idxs_lt (mem_idxs.mpr g)
        rw [h1] at this
        exact this
end
end Z
set_option Elab.async false
set_option linter.all false
set_option maxHeartbeats 1000000
/-! G18: steps as data. -/
namespace Z
open PySem PySem.Spec PyProof.Rows L2
theorem erase_map {α β : Type} (f : α → β) : ∀ (L : List α) (j : Nat), (L.map f).eraseIdx j = (L.eraseIdx j).map f
  | [], _ => rfl
  | _ :: _, 0 => rfl
  | a :: L, j + 1 => by
    show f a :: (L.map f).eraseIdx j = f a :: (L.eraseIdx j).map f
    rw [erase_map f L j]
end Z
set_option Elab.async false
set_option linter.all false
set_option maxHeartbeats 1000000
/-! G19: lists of numbers compared; tables of ranks. -/
namespace Z
open PySem PySem.Spec PyProof.Rows L2
theorem eqvAll_nats (L M : List Nat) : PyData.eqvAll (L.map natD) (M.map natD) = decide (L = M) := by
  have e : ∀ L : List Nat, L.map natD = (L.map fun n => ((n : Nat) : Int)).map PyData.int := fun L => by rw [List.map_map]; rfl
  rw [e L, e M, eqvAll_ints]
  by_cases h : L = M
  · rw [h]; simp
  · have : ¬ (L.map fun n => ((n : Nat) : Int)) = M.map fun n => ((n : Nat) : Int) := fun z => h (List.map_inj_right (fun a b => by omega) |>.mp z)
    rw [decide_eq_false this, decide_eq_false h]
theorem fEq_natsL {neg : Bool} {L M : List Nat} {R : D → Prop} (h : R (.bool (if neg then !decide (L = M) else decide (L = M)))) : fEq neg (.list (L.map natD)) (.list (M.map natD)) R := by
  refine ⟨?_, ?_, ?_, ?_⟩
  · simp only [PyData.plain]; exact plain_nats L
  · simp only [PyData.plain]; exact plain_nats M
  · simp only [PyData.depth, depth_nats]; omega
  · have e : PyData.eqv (.list (L.map natD)) (.list (M.map natD)) = decide (L = M) := by
      simp only [PyData.eqv]
      exact eqvAll_nats L M
    rw [e]
    exact h
end Z
set_option Elab.async false
set_option linter.all false
set_option maxHeartbeats 1000000
/-! G20: rows below a row, sums over them there and back; rows told by ranks. Plain Lean. -/
set_option Elab.async false
set_option linter.all false
set_option maxHeartbeats 1000000
/-! G21: rows told by ranks. Plain Lean. -/
set_option Elab.async false
set_option linter.all false
set_option maxRecDepth 100000
set_option maxHeartbeats 4000000
/-! Z31: three cells at once. -/
set_option Elab.async false
set_option linter.all false
set_option maxRecDepth 100000
set_option maxHeartbeats 4000000
/-! Z32: xs += ys (an own list grows by a new one). -/
namespace Z
open PySem PySem.Spec PyProof.Rows L2
section
variable {K : PySem.W.Frag} {S : Option (Addr × Addr)}
def sAugL (i : Nat) (m : DM) : DMS := fun ρ R => ownL ρ[i]? fun ds => m ρ fun y => asL y fun es => solids es = true ∧ ds.length + es.length ≤ 10000000 ∧ R.nx (ρ.set i (.own (.list (ds ++ es))))
/-- tuple(list), of either kind -/
def fTupleF : List D → (D → Prop) → Prop := fun ds R => match ds with
  | [d] => ∃ es, IsL d es ∧ solids es = true ∧ R (.tuple es)
  | _ => False
end
end Z
set_option Elab.async false
set_option linter.all false
set_option maxHeartbeats 1000000
/-! G22: what places tell a place. Plain Lean. -/
set_option Elab.async false
set_option linter.all false
set_option maxRecDepth 100000
set_option maxHeartbeats 4000000
/-! Z33: xs == [], xs != [] for lists of any data. -/
namespace Z
open PySem PySem.Spec PyProof.Rows L2
section
variable {K : PySem.W.Frag} {S : Option (Addr × Addr)}
def fEqLE (neg : Bool) : D → D → (D → Prop) → Prop := fun x y R => ∃ xs, IsL x xs ∧ y = .list [] ∧ R (.bool (if neg then !xs.isEmpty else xs.isEmpty))
end
end Z
set_option Elab.async false
set_option linter.all false
set_option maxHeartbeats 1000000
/-! G23: the first fault of anything as what tells a place. Plain Lean. -/
set_option Elab.async false
set_option linter.all false
set_option maxRecDepth 100000
set_option maxHeartbeats 4000000
/-! G24: values of all kinds, the ints wide (printed by mkG24.py from G14). -/
namespace Z
namespace Wd
open PySem PySem.Spec PyProof.Rows L2
theorem shown_int32 {i : Int} (h : i.natAbs < 10 ^ 32) : (PyData.shown (.int i)).length ≤ 33 := by
  have e := int_text_length_le10 (k := 32) (by decide) h
  show (Str.ofString (toString i)).length ≤ 33
  rw [PySem.ofString_length]; exact e
mutual
/-- an upper bound on how many signs show it -/
def wg : D → Nat
  | .none => 5
  | .bool _ => 6
  | .int _ => 36
  | .str x => (PyData.str x).shown.length
  | .list ds => wgs ds + 4
  | .tuple ds => wgs ds + 4
  | .dict kvs => wgk kvs + 4
def wgs : List D → Nat
  | [] => 0
  | d :: ds => wg d + 2 + wgs ds
def wgk : List (D × D) → Nat
  | [] => 0
  | (_, d) :: r => wg d + 2 + wgk r
end
mutual
/-- what never changes, its ints at most m either way -/
def good (m : Nat) : D → Bool
  | .none => true
  | .bool _ => true
  | .int i => decide (i.natAbs ≤ m)
  | .str _ => true
  | .list _ => false
  | .tuple ds => goods m ds
  | .dict kvs => (isFrz kvs && goodk m kvs) || (isFrd kvs && kvs.length == 1)
def goods (m : Nat) : List D → Bool
  | [] => true
  | d :: ds => good m d && goods m ds
def goodk (m : Nat) : List (D × D) → Bool
  | [] => true
  | (_, d) :: r => good m d && goodk m r
end
theorem goods_all {m : Nat} : ∀ {ds : List D}, goods m ds = true ↔ ∀ d ∈ ds, good m d = true
  | [] => by simp [goods]
  | d :: ds => by simp [goods, goods_all]
mutual
theorem good_can {m : Nat} : ∀ d : D, good m d = true → canT d = true
  | .none, _ => by simp [canT]
  | .bool _, _ => by simp [canT]
  | .int _, _ => by simp [canT]
  | .str _, _ => by simp [canT]
  | .list _, h => by simp [good] at h
  | .tuple ds, h => by
    simp only [canT]
    exact goods_can ds (by simpa only [good] using h)
  | .dict kvs, h => by
    simp only [good, Bool.or_eq_true, Bool.and_eq_true] at h
    simp only [canT, Bool.or_eq_true, Bool.and_eq_true]
    exact h.imp (fun z => ⟨z.1, goodk_can kvs z.2⟩) id
theorem goods_can {m : Nat} : ∀ ds : List D, goods m ds = true → canTs ds = true
  | [], _ => by simp [canTs]
  | d :: ds, h => by
    simp only [goods, Bool.and_eq_true] at h
    simp only [canTs, good_can d h.1, goods_can ds h.2, Bool.and_self]
theorem goodk_can {m : Nat} : ∀ ds : List (D × D), goodk m ds = true → canTk ds = true
  | [], _ => by simp [canTk]
  | (_, d) :: ds, h => by
    simp only [goodk, Bool.and_eq_true] at h
    simp only [canTk, good_can d h.1, goodk_can ds h.2, Bool.and_self]
end
mutual
theorem good_solid {m : Nat} : ∀ d : D, good m d = true → solid d = true
  | .none, _ => by simp [solid]
  | .bool _, _ => by simp [solid]
  | .int _, _ => by simp [solid]
  | .str _, _ => by simp [solid]
  | .list _, h => by simp [good] at h
  | .tuple ds, h => by
    simp only [solid]
    exact goods_solid ds (by simpa only [good] using h)
  | .dict kvs, h => by
    simp only [good, Bool.or_eq_true, Bool.and_eq_true] at h
    rcases h with ⟨z, _⟩ | ⟨z, _⟩
    · obtain ⟨r, rfl⟩ := isFrz_cons z
      simp [solid, isSrc, isFrz]
    · obtain ⟨r, rfl⟩ := isFrd_cons z
      simp [solid, isSrc, isFrd]
theorem goods_solid {m : Nat} : ∀ ds : List D, goods m ds = true → solids ds = true
  | [], _ => by simp [solids]
  | d :: ds, h => by
    simp only [goods, Bool.and_eq_true] at h
    simp only [solids, good_solid d h.1, goods_solid ds h.2, Bool.and_self]
end
mutual
theorem good_mono {m m' : Nat} (hm : m ≤ m') : ∀ d : D, good m d = true → good m' d = true
  | .none, _ => by simp [good]
  | .bool _, _ => by simp [good]
  | .int i, h => by
    simp only [good, decide_eq_true_eq] at h ⊢
    omega
  | .str _, _ => by simp [good]
  | .list _, h => by simp [good] at h
  | .tuple ds, h => by
    simp only [good]
    exact goods_mono hm ds (by simpa only [good] using h)
  | .dict kvs, h => by
    simp only [good, Bool.or_eq_true, Bool.and_eq_true] at h ⊢
    exact h.imp (fun z => ⟨z.1, goodk_mono hm kvs z.2⟩) id
theorem goods_mono {m m' : Nat} (hm : m ≤ m') : ∀ ds : List D, goods m ds = true → goods m' ds = true
  | [], _ => by simp [goods]
  | d :: ds, h => by
    simp only [goods, Bool.and_eq_true] at h ⊢
    exact ⟨good_mono hm d h.1, goods_mono hm ds h.2⟩
theorem goodk_mono {m m' : Nat} (hm : m ≤ m') : ∀ ds : List (D × D), goodk m ds = true → goodk m' ds = true
  | [], _ => by simp [goodk]
  | (_, d) :: ds, h => by
    simp only [goodk, Bool.and_eq_true] at h ⊢
    exact ⟨good_mono hm d h.1, goodk_mono hm ds h.2⟩
end
theorem log_small {i : Int} (h : i.natAbs ≤ (10 ^ 31)) : i.natAbs.log2 < 1920 := log2_small (Nat.lt_of_le_of_lt h (by decide))
mutual
theorem good_show {m : Nat} (hm : m ≤ (10 ^ 31)) : ∀ d : D, good m d = true → (thaw d).showable = true ∧ (thaw d).shown.length ≤ wg d
  | .none, _ => by
    simp only [thaw, wg]
    exact ⟨by decide, by decide⟩
  | .bool b, _ => by
    simp only [thaw, wg]
    cases b <;> exact ⟨by decide, by decide⟩
  | .int i, h => by
    simp only [good, decide_eq_true_eq] at h
    simp only [thaw, wg, PyData.showable, decide_eq_true_eq]
    exact ⟨log_small (Nat.le_trans h hm), Nat.le_trans (shown_int32 (show i.natAbs < 10 ^ 32 from Nat.lt_of_le_of_lt (Nat.le_trans h hm) (by decide))) (by decide)⟩
  | .str x, _ => by
    simp only [thaw, wg, PyData.showable]
    exact ⟨trivial, Nat.le_refl _⟩
  | .list _, h => by simp [good] at h
  | .tuple ds, h => by
    obtain ⟨h1, h2⟩ := goods_show hm ds (by simpa only [good] using h)
    simp only [thaw, wg, PyData.showable, PyData.shown]
    refine ⟨h1, Nat.le_trans (tupleText_len_le _) ?_⟩
    omega
  | .dict kvs, h => by
    simp only [good, Bool.or_eq_true, Bool.and_eq_true] at h
    rcases h with ⟨z, hk⟩ | ⟨z, hl⟩
    · obtain ⟨r, rfl⟩ := isFrz_cons z
      simp only [goodk, Bool.and_eq_true] at hk
      obtain ⟨h1, h2⟩ := goodk_show hm r hk.2
      have e : thaw (.dict ((.bool true, .none) :: r)) = .list (thawk r) := by simp only [thaw, if_pos z, thawk, List.tail_cons]
      rw [e]
      simp only [wg, wgk, PyData.showable, PyData.shown]
      refine ⟨h1, Nat.le_trans (listText_len_le _) ?_⟩
      omega
    · obtain ⟨r, rfl⟩ := isFrd_cons z
      obtain rfl : r = [] := by simpa using hl
      rw [show thaw (.dict [(.bool false, .none)]) = .dict [] from thaw_frd]
      simp only [wg, wgk]
      exact ⟨by decide, by decide⟩
theorem goods_show {m : Nat} (hm : m ≤ (10 ^ 31)) : ∀ ds : List D, goods m ds = true → PyData.showableAll (thaws ds) = true ∧ ((PyData.shownAll (thaws ds)).map (·.length)).sum + 2 * (PyData.shownAll (thaws ds)).length ≤ wgs ds
  | [], _ => by simp [thaws, PyData.showableAll, PyData.shownAll, wgs]
  | d :: ds, h => by
    simp only [goods, Bool.and_eq_true] at h
    obtain ⟨a1, a2⟩ := good_show hm d h.1
    obtain ⟨b1, b2⟩ := goods_show hm ds h.2
    simp only [thaws, PyData.showableAll, PyData.shownAll, wgs, a1, b1, List.map_cons, List.sum_cons, List.length_cons]
    exact ⟨rfl, by omega⟩
theorem goodk_show {m : Nat} (hm : m ≤ (10 ^ 31)) : ∀ ds : List (D × D), goodk m ds = true → PyData.showableAll (thawk ds) = true ∧ ((PyData.shownAll (thawk ds)).map (·.length)).sum + 2 * (PyData.shownAll (thawk ds)).length ≤ wgk ds
  | [], _ => by simp [thawk, PyData.showableAll, PyData.shownAll, wgk]
  | (_, d) :: ds, h => by
    simp only [goodk, Bool.and_eq_true] at h
    obtain ⟨a1, a2⟩ := good_show hm d h.1
    obtain ⟨b1, b2⟩ := goodk_show hm ds h.2
    simp only [thawk, PyData.showableAll, PyData.shownAll, wgk, a1, b1, List.map_cons, List.sum_cons, List.length_cons]
    exact ⟨rfl, by omega⟩
end
/-- a value of any kind that never changes: ints at most m either way, at most k deep, shown by at most L signs -/
structure Vl (m k L : Nat) (d : D) : Prop where
  good : good m d = true
  dep : (thaw d).depth ≤ k
  wt : wg d ≤ L
theorem Vl.ok {m k L : Nat} {d : D} (h : Vl m k L d) (hm : m ≤ (10 ^ 31)) (hk : k ≤ 40) (hL : L ≤ 10000000) : OkT 40 10000000 d :=
  ⟨good_can _ h.good, Nat.le_trans h.dep hk, (good_show hm _ h.good).1, Nat.le_trans (good_show hm _ h.good).2 (Nat.le_trans h.wt hL)⟩
theorem Vl.solid {m k L : Nat} {d : D} (h : Vl m k L d) : solid d = true := good_solid _ h.good
theorem Vl.mono {m k L m' k' L' : Nat} {d : D} (h : Vl m k L d) (a : m ≤ m') (b : k ≤ k') (c : L ≤ L') : Vl m' k' L' d := ⟨good_mono a _ h.good, Nat.le_trans h.dep b, Nat.le_trans h.wt c⟩
theorem wgs_len : ∀ ds : List D, 2 * ds.length ≤ wgs ds
  | [] => by simp [wgs]
  | d :: ds => by
    have := wgs_len ds
    simp only [wgs, List.length_cons]
    omega
theorem depthAll_le {k : Nat} : ∀ {ds : List D}, PyData.depthAll (thaws ds) ≤ k ↔ ∀ d ∈ ds, (thaw d).depth ≤ k
  | [] => by simp [thaws, PyData.depthAll]
  | d :: ds => by
    simp only [thaws, PyData.depthAll, List.mem_cons, forall_eq_or_imp, Nat.max_le, depthAll_le]
/-- a tuple of such -/
theorem Vl.tuple {m k L : Nat} {ds : List D} (h : ∀ d ∈ ds, ∃ l, Vl m k l d) (w : wgs ds + 4 ≤ L) : Vl m (k + 1) L (.tuple ds) := by
  refine ⟨?_, ?_, ?_⟩
  · simp only [Z.Wd.good]
    exact goods_all.mpr fun d hd => let ⟨l, hl⟩ := h d hd; hl.good
  · simp only [thaw, PyData.depth]
    have : PyData.depthAll (thaws ds) ≤ k := depthAll_le.mpr fun d hd => let ⟨l, hl⟩ := h d hd; hl.dep
    omega
  · simp only [wg]
    exact w
theorem Vl.frz {m k L : Nat} {ds : List D} (h : ∀ d ∈ ds, ∃ l, Vl m k l d) (w : wgs ds + 15 ≤ L) : Vl m (k + 1) L (frzD ds) := by
  have gk : ∀ es : List D, (∀ d ∈ es, ∃ l, Vl m k l d) → goodk m (es.map fun d => (.bool true, d)) = true := fun es => by
    induction es with
    | nil => intro _; simp [goodk]
    | cons e es ih =>
      intro h
      simp only [List.map_cons, goodk, Bool.and_eq_true]
      exact ⟨let ⟨l, hl⟩ := h e (List.mem_cons_self ..); hl.good, ih fun d hd => h d (List.mem_cons_of_mem _ hd)⟩
  have wk : ∀ es : List D, wgk (es.map fun d => ((.bool true : D), d)) = wgs es := fun es => by
    induction es with
    | nil => simp [wgk, wgs]
    | cons e es ih => simp only [List.map_cons, wgk, wgs, ih]
  refine ⟨?_, ?_, ?_⟩
  · unfold frzD frzK
    simp only [Z.Wd.good, goodk, gk ds h]
    rfl
  · rw [thaw_frz]
    simp only [PyData.depth]
    have : PyData.depthAll (thaws ds) ≤ k := depthAll_le.mpr fun d hd => let ⟨l, hl⟩ := h d hd; hl.dep
    rw [thaws_map] at this
    omega
  · unfold frzD frzK
    simp only [wg, wgk, wk]
    omega
theorem Vl.parts {m k L : Nat} {ds : List D} (h : Vl m k L (.tuple ds)) : 1 ≤ k ∧ wgs ds + 4 ≤ L ∧ ∀ d ∈ ds, Vl m (k - 1) (wg d) d := by
  have h1 := h.good
  have h2 := h.dep
  have h3 := h.wt
  simp only [Z.Wd.good] at h1
  simp only [thaw, PyData.depth] at h2
  simp only [wg] at h3
  have h4 := goods_all.mp h1
  have h5 : PyData.depthAll (thaws ds) ≤ k - 1 := by omega
  exact ⟨by omega, h3, fun d hd => ⟨h4 d hd, depthAll_le.mp h5 d hd, Nat.le_refl _⟩⟩
theorem Vl.isi {m k L : Nat} {d : D} (h : Vl m k L d) : noFrz d := by
  cases d with
  | dict kvs =>
    have := h.good
    simp only [Z.Wd.good, Bool.or_eq_true, Bool.and_eq_true] at this
    rcases this with ⟨z, _⟩ | ⟨z, hl⟩
    · exact .inl z
    · obtain ⟨r, rfl⟩ := isFrd_cons z
      obtain rfl : r = [] := by simpa using hl
      exact .inr rfl
  | _ => trivial
theorem Vl.none {m k : Nat} : Vl m k 5 .none := ⟨by simp [Z.Wd.good], by simp [thaw, PyData.depth], by simp [wg]⟩
theorem Vl.bool {m k : Nat} {b : Bool} : Vl m k 6 (.bool b) := ⟨by simp [Z.Wd.good], by simp [thaw, PyData.depth], by simp [wg]⟩
theorem Vl.int {m k : Nat} {i : Int} (h : i.natAbs ≤ m) : Vl m k 36 (.int i) := ⟨by simp [Z.Wd.good, h], by simp [thaw, PyData.depth], by simp [wg]⟩
theorem Vl.str {m k : Nat} {x : Str} {L : Nat} (h : (PyData.str x).shown.length ≤ L) : Vl m k L (.str x) := ⟨by simp [Z.Wd.good], by simp [thaw, PyData.depth], by simpa [wg] using h⟩
theorem Vl.inner {m k L : Nat} {d : D} (h : Vl m k L d) (hL : L ≤ 10000000) : noFrz d ∧ ∀ xs, d = .tuple xs → xs.length ≤ 10000000 ∧ ∀ x ∈ xs, noFrz x := ⟨h.isi, fun xs e => by
  subst e
  obtain ⟨_, a, b⟩ := h.parts
  have := wgs_len xs
  exact ⟨by omega, fun x hx => (b x hx).isi⟩⟩
end Wd
end Z
set_option Elab.async false
set_option linter.all false
set_option maxHeartbeats 1000000
/-! G25: a place is told by others just if the rank stays. Plain Lean. -/
set_option Elab.async false
set_option linter.all false
set_option maxRecDepth 100000
set_option maxHeartbeats 4000000
/-! Z34: dicts of any keys at the layer: what is held at a key, what is stored. -/
namespace Z
open PySem PySem.Spec PyProof.Rows L2
mutual
/-- the value stands for the key -/
inductive KeyAt (K : PySem.W.Frag) (H : Hp) : NestedKey → V → Prop
  | none : KeyAt K H .none .non
  | num (i : Int) : KeyAt K H (.num i) (.int i)
  | tup {a : Addr} {xs : List V} {ks : List NestedKey} : SqT K H a xs → KeyAll K H ks xs → KeyAt K H (.tup ks) (.ref a)
inductive KeyAll (K : PySem.W.Frag) (H : Hp) : List NestedKey → List V → Prop
  | nil : KeyAll K H [] []
  | cons {k : NestedKey} {x : V} {ks : List NestedKey} {xs : List V} : KeyAt K H k x → KeyAll K H ks xs → KeyAll K H (k :: ks) (x :: xs)
end
section
variable {X : Cx} {pins : List (Addr × Obj)} {σ : L2.St} {H : Hp} {s : Shared}
mutual
theorem key_is (I : Inv X pins σ H s) : ∀ (k : NestedKey) (v : V) (u : Value), KeyAt X.K H k v → RelV v u → NestedIs s.heap k u
  | .none, _, _, h, r => by
    cases h
    cases (show _ = _ from r)
    exact .none
  | .num i, _, _, h, r => by
    cases h
    obtain ⟨t, rfl⟩ := r
    exact .int _ _
  | .text x, _, _, h, _ => by cases h
  | .tup ks, _, _, h, r => by
    cases h with
    | tup hT hA =>
      cases r
      obtain ⟨its, rv, ⟨o, ho, hc, n, hd⟩, _⟩ := I.tuple hT
      exact .tup ho hc hd (keys_is I ks _ _ hA rv)
theorem keys_is (I : Inv X pins σ H s) : ∀ (ks : List NestedKey) (vs : List V) (us : List Value), KeyAll X.K H ks vs → Vals vs us → NestedAll s.heap ks us
  | [], _, _, h, r => by
    cases h
    cases r
    exact .nil
  | k :: ks, _, _, h, r => by
    cases h with
    | cons h1 h2 =>
      cases r with
      | cons r1 r2 => exact .cons (key_is I k _ _ h1 r1) (keys_is I ks _ _ h2 r2)
end
end
/-- a key that is a tuple -/
structure XKey (K : PySem.W.Frag) (H : Hp) (k : NestedKey) (v : V) : Prop where
  ky : KeyAt K H k v
  dp : k.depth ≤ 8
  hs : ∀ w, k.hash w = hk k
def rowAt (rows : List Row) (k : NestedKey) : Option V := (rows.find? fun r => decide (r.1 = k)).map (·.2.2)
def rowPut (rows : List Row) (k : NestedKey) (y : Addr) (v : V) : List Row :=
  if (rowAt rows k).isSome then rows.map (fun r => if r.1 = k then (r.1, r.2.1, v) else r) else rows ++ [(k, y, v)]
theorem rowAt_none {rows : List Row} {k : NestedKey} (h : (rowAt rows k).isSome ≠ true) : k ∉ rows.map (·.1) := fun hm => by
  obtain ⟨r, hr, rfl⟩ := List.mem_map.mp hm
  apply h
  unfold rowAt
  rw [Option.isSome_map, List.find?_isSome]
  exact ⟨r, hr, by simp⟩
theorem rowPut_keys (rows : List Row) (k : NestedKey) (y : Addr) (v : V) : (rowPut rows k y v).map (·.1) = if (rowAt rows k).isSome then rows.map (·.1) else rows.map (·.1) ++ [k] := by
  unfold rowPut
  split
  · rw [List.map_map]
    refine List.map_congr_left fun r _ => ?_
    simp only [Function.comp]
    split <;> rfl
  · rw [List.map_append]; rfl
/-- rows as they stand -/
abbrev XRel : List Row → List (NestedKey × Addr × Value) → Prop := Paired fun r x => x.1 = r.1 ∧ x.2.1 = r.2.1 ∧ RelV r.2.2 x.2.2
theorem XRel.val {rows : List Row} {xs : List (NestedKey × Addr × Value)} (r : XRel rows xs) (k : NestedKey) : RelO (rowAt rows k) ((atKey xs k).map (·.2)) := by
  induction r with
  | nil => exact True.intro
  | @cons p q ps qs h t ih =>
    obtain ⟨h1, _, h2⟩ := h
    by_cases e : p.1 = k
    · have e' : q.1 = k := h1.trans e
      have b : atKey (q :: qs) k = some q.2 := by simp [atKey, List.find?_cons, e']
      have c : rowAt (p :: ps) k = some p.2.2 := by simp [rowAt, List.find?_cons, e]
      rw [c, b]; exact h2
    · have e' : ¬ q.1 = k := fun z => e (h1.symm.trans z)
      have b : atKey (q :: qs) k = atKey qs k := by simp [atKey, List.find?_cons, e']
      have c : rowAt (p :: ps) k = rowAt ps k := by simp [rowAt, List.find?_cons, e]
      rw [c, b]; exact ih
theorem XRel.put {rows : List Row} {xs : List (NestedKey × Addr × Value)} (r : XRel rows xs) (k : NestedKey) {b : Addr} {y : V} {u : Value} (ry : RelV y u) : XRel (rowPut rows k b y) (storedH xs k b u) := by
  have e : (rowAt rows k).isSome = (atKey xs k).isSome := by rw [(r.val k).isSome_eq, Option.isSome_map]
  unfold rowPut storedH
  rw [e]
  by_cases q : (atKey xs k).isSome = true
  · rw [if_pos q, if_pos q]
    clear e q
    induction r with
    | nil => exact .nil
    | @cons p q ps qs h t ih =>
      rw [List.map_cons, List.map_cons]
      refine .cons ?_ ih
      obtain ⟨h1, h2, h3⟩ := h
      unfold putAt
      by_cases e : p.1 = k
      · rw [if_pos e, if_pos (h1.trans e)]; exact ⟨h1, h2, ry⟩
      · rw [if_neg e, if_neg (fun z => e (h1.symm.trans z))]; exact ⟨h1, h2, h3⟩
  · rw [if_neg q, if_neg q]; exact Paired.snoc r ⟨rfl, rfl, ry⟩
theorem XRel.len {rows : List Row} {xs : List (NestedKey × Addr × Value)} (r : XRel rows xs) : rows.length = xs.length := Paired.length r
/-- a dict whose keys are tuples, by its rows -/
def XAt (K : PySem.W.Frag) (H : Hp) (a : Addr) (rows : List Row) : Prop :=
  ((rows = [] ∧ Rd H a (.dK [])) ∨ (rows ≠ [] ∧ Rd H a (dX a rows))) ∧ (rows.map (·.1)).Nodup ∧ ∀ r ∈ rows, XKey K H r.1 (.ref r.2.1)
section
variable {X : Cx} {pins : List (Addr × Obj)} {σ : L2.St} {H : Hp} {s : Shared} {a : Addr} {rows : List Row}
theorem x_rel {w : World} {prog : Program} : ∀ {rows : List Row} {es : List DictEntry}, Paired RowIs rows es → (∀ r ∈ rows, r.1.hash w = hk r.1) → ∃ xs, XRel rows xs ∧ es = xs.map (entryOfKey (nestedKind prog w))
  | [], _, .nil, _ => ⟨[], .nil, rfl⟩
  | r :: rows, e :: es, .cons h t, hh => by
    obtain ⟨xs, h1, h2⟩ := x_rel (prog := prog) t fun r' hr' => hh r' (List.mem_cons_of_mem _ hr')
    obtain ⟨h3, h4, h5⟩ := h
    refine ⟨(r.1, r.2.1, e.val) :: xs, .cons ⟨rfl, rfl, h5⟩ h1, ?_⟩
    rw [List.map_cons, h2]
    congr 1
    obtain ⟨eh, ek, ev⟩ := e
    simp only at h3 h4
    unfold entryOfKey
    rw [h3, h4, ← hh r (List.mem_cons_self ..)]
    rfl
theorem x_obj (I : Inv X pins σ H s) (h : XAt X.K H a rows) : (a == sysModules) = false ∧ rows.length ≤ 10000000 ∧ ∃ xs, XRel rows xs ∧ s.heap.DictOfH (nestedKind X.prog X.w) a xs := by
  obtain ⟨h1, h2, h3⟩ := h
  rcases h1 with ⟨rfl, hR⟩ | ⟨hne, hR⟩
  · obtain ⟨_, hd, vs, rel, dd⟩ := dk_rd I.hok hR
    cases rel
    obtain ⟨es, ep, ⟨o, e1, e2, e3⟩, hsz, _⟩ := dd.raw
    refine ⟨hd, Nat.zero_le _, [], .nil, o, es, ep, e1, e2, e3, ?_, (fun x hx => by cases hx), List.nodup_nil⟩
    have : es = #[] := Array.eq_empty_of_size_eq_zero hsz
    rw [this]
    rfl
  · obtain ⟨⟨hm, hl, o, es, ep, e1, e2, e3, e4⟩, _⟩ := (show ObjOk X.prog X.w H s.heap a (dX a rows) from rd_of I.hok hR)
    obtain ⟨xs, r1, r2⟩ := x_rel (w := X.w) (prog := X.prog) e4 fun r hr => (h3 r hr).hs X.w
    have keys : ∀ {rows : List Row} {xs : List (NestedKey × Addr × Value)}, XRel rows xs → xs.map (·.1) = rows.map (·.1) := fun r => by
      induction r with
      | nil => rfl
      | cons h t ih => rw [List.map_cons, List.map_cons, ih, h.1]
    have every : ∀ {rows : List Row} {xs : List (NestedKey × Addr × Value)}, XRel rows xs → ∀ x ∈ xs, ∃ r ∈ rows, x.1 = r.1 ∧ x.2.1 = r.2.1 := fun r => by
      induction r with
      | nil => intro x hx; cases hx
      | @cons p q ps qs h t ih =>
        intro x hx
        rcases List.mem_cons.mp hx with rfl | hx
        · exact ⟨p, List.mem_cons_self .., h.1, h.2.1⟩
        · obtain ⟨r, hr, z⟩ := ih x hx
          exact ⟨r, List.mem_cons_of_mem _ hr, z⟩
    refine ⟨hm, hl, xs, r1, o, es, ep, e1, e2, e3, r2, fun x hx => ?_, by rw [keys r1]; exact h2⟩
    obtain ⟨r, hr, z1, z2⟩ := every r1 x hx
    rw [z1, z2]
    exact ⟨key_is I _ _ _ (h3 r hr).ky rfl, (h3 r hr).dp⟩
theorem x_key (I : Inv X pins σ H s) {k : NestedKey} {b : Addr} (h : XKey X.K H k (.ref b)) : (nestedKind X.prog X.w).is s.heap k b := ⟨key_is I _ _ _ h.ky rfl, h.dp⟩
end
/-- what the dict at a holds at the key y -/
def XGet (K : PySem.W.Frag) (H : Hp) (a : Addr) (y : V) (r : Option V) : Prop := DGet H a y r ∨ ∃ rows k b, XAt K H a rows ∧ y = .ref b ∧ XKey K H k y ∧ r = rowAt rows k
section
variable {X : Cx} {pins : List (Addr × Obj)} {σ : L2.St} {H : Hp} {s : Shared} {a : Addr} {y v d : V} {u r : Value} {o : Option V} {A : Around} {E : Value → Shared → Prop}
theorem room_n {A : Around} (hu : A.units + 16 < cLine) : A.in1.units + 8 < cLine := by
  show A.units + 1 + 8 < cLine
  omega
theorem x_getItem {Q : Value → Shared → Prop} (hu : A.units + 16 < cLine) (I : Inv X pins σ H s) (g : XGet X.K H a y (some v)) (ry : RelV y u) (h : ∀ w' s', Inv X pins σ H s' → RelV v w' → Q w' s') :
    wpAny (model X.prog X.w) A (getItem (.ref a) u) Q E s := by
  rcases g with g | ⟨rows, k, b, hx, rfl, hk, l⟩
  · exact d_getItem (by omega) I g ry h
  · cases ry
    obtain ⟨hd, hl, xs, rel, dd⟩ := x_obj I hx
    obtain ⟨w', hw, rw'⟩ := RelO.some_of (v := v) (o := (atKey xs k).map (·.2)) (by rw [l]; exact rel.val k)
    obtain ⟨p, hp, hp2⟩ := Option.map_eq_some_iff.mp hw
    refine wpAny_getItem_heap (knd := nestedKind X.prog X.w) (room_n hu) (x_key I hk) dd hp ?_
    rw [hp2]
    exact h w' _ (I.tok _) rw'
theorem x_in {Q : Value → Shared → Prop} (hu : A.units + 16 < cLine) (I : Inv X pins σ H s) (g : XGet X.K H a y o) (ry : RelV y u) (h : ∀ s', Inv X pins σ H s' → Q (.bool o.isSome) s') :
    wpAny (model X.prog X.w) A (compareOp .In u (.ref a)) Q E s := by
  rcases g with g | ⟨rows, k, b, hx, rfl, hk, l⟩
  · exact d_in (by omega) I g ry h
  · cases ry
    obtain ⟨hd, hl, xs, rel, dd⟩ := x_obj I hx
    refine wpAny_in_heap (knd := nestedKind X.prog X.w) (room_n hu) (x_key I hk) hd dd ?_
    have q := (rel.val k).isSome_eq.trans (Option.isSome_map (f := fun x : Addr × Value => x.2) (x := atKey xs k))
    rw [← q, ← l]
    exact h _ (I.tok _)
end
/-- a is a dict, whatever its keys -/
def IsX (K : PySem.W.Frag) (H : Hp) (a : Addr) : Prop := IsD H a ∨ ∃ rows, XAt K H a rows
theorem isX_at {X : Cx} {pins : List (Addr × Obj)} {σ : L2.St} {H : Hp} {s : Shared} {a : Addr} (I : Inv X pins σ H s) (d : IsX X.K H a) :
    s.TypeIs (.ref a) "dict" ∧ (∀ b, Value.ref a = .ref b → ∃ ob, s.heap.get? b = some ob ∧ ob.dict = none) ∧ (a == sysModules) = false := by
  rcases d with d | ⟨rows, hx⟩
  · exact isD_at I d
  · obtain ⟨hd, _, xs, _, dd⟩ := x_obj I hx
    refine ⟨dd.typeIs, fun b q => ?_, hd⟩
    cases q
    obtain ⟨ob, _, _, h1, h2, _⟩ := dd
    exact ⟨ob, h1, h2.2.1⟩
theorem XGet.isX {K : PySem.W.Frag} {H : Hp} {a : Addr} {y : V} {o : Option V} (h : XGet K H a y o) : IsX K H a := by
  rcases h with (⟨kvs, k, e, _⟩ | ⟨kvs, k, b, e, _⟩) | ⟨rows, _, _, e, _⟩
  · exact .inl (.inl ⟨kvs, e⟩)
  · exact .inl (.inr ⟨kvs, e⟩)
  · exact .inr ⟨rows, e⟩
/-! ### readings and rules -/
def tXGet (K : PySem.W.Frag) (td ty : TE) : TE := fun σ H Q => td σ H fun x H1 => ty σ H1 fun y H2 => ∃ a v, x = .ref a ∧ XGet K H2 a y (some v) ∧ Q v H2
def tXIn (K : PySem.W.Frag) (neg : Bool) (ty td : TE) : TE := fun σ H Q => ty σ H fun y H1 => td σ H1 fun x H2 => ∃ a o, x = .ref a ∧ XGet K H2 a y o ∧ Q (.bl (xor neg o.isSome)) H2
section
variable {X : Cx} {o i e f value : Expr} {pos pos' apos cpos : Pos} {td ty tv tx : TE}
theorem pe_xget (hu : X.A.units + 64 < cLine) (ho : PE X o td) (hi : PE X i ty) (hs : NoSl i) : PE X (.Subscript o i pos) (tXGet X.K td ty) := by
  refine ⟨fun pins s σ H Q I h => ?_⟩
  refine subD_of PySem.F.slot_dict_getitem.lookup hs (thn (ho.run pins s σ H _ I h) fun u s1 ⟨x, H1, I1, rx, q1⟩ => thn (hi.run pins s1 σ H1 _ I1 q1) fun iv s2 ⟨y, H2, I2, ry, a, v, ex, g, q2⟩ => ?_)
  subst ex
  obtain rfl : u = Value.ref a := rx
  exact ⟨(isX_at I2 g.isX).1, x_getItem (by omega) I2 g ry fun w' s3 I3 rw' => ⟨v, H2, I3, rw', q2⟩⟩
theorem pc_xin (hu : X.A.units + 64 < cLine) (hi : PE X i ty) (ho : PE X o td) : PC X .In i o (tXIn X.K false ty td) := by
  refine ⟨fun pins s σ H Q I h => ?_⟩
  refine thn (hi.run pins s σ H _ I h) fun iv s1 ⟨y, H1, I1, ry, q1⟩ => thn (ho.run pins s1 σ H1 _ I1 q1) fun u s2 ⟨x, H2, I2, rx, a, ov, ex, g, q2⟩ => ?_
  subst ex
  obtain rfl : u = Value.ref a := rx
  refine x_in (by omega) I2 g ry fun s3 I3 => ⟨.bl ov.isSome, H2, I3, rfl, ?_⟩
  cases hh : ov.isSome <;> rw [hh] at q2 <;> exact q2
end
end Z
set_option Elab.async false
set_option linter.all false
set_option maxRecDepth 100000
set_option maxHeartbeats 4000000
/-! Z35: dicts of any keys over data. -/
namespace Z
open PySem PySem.Spec PyProof.Rows L2
open Classical in
noncomputable def kFind (kvs : List (D × D)) (k : D) : Option D := (kvs.find? fun p => decide (p.1 = k)).map (·.2)
open Classical in
noncomputable def kRepl (kvs : List (D × D)) (k v : D) : List (D × D) := kvs.map fun p => if p.1 = k then (p.1, v) else p
noncomputable def kPut (kvs : List (D × D)) (k v : D) : List (D × D) := if (kFind kvs k).isSome then kRepl kvs k v else kvs ++ [(k, v)]
open Classical in
noncomputable def kSel (kvs : List (D × D)) (k : D) : List Bool := kvs.map fun p => decide (p.1 = k)
theorem kFind_pos {p : D × D} {kvs : List (D × D)} {k : D} (h : p.1 = k) : kFind (p :: kvs) k = some p.2 := by simp [kFind, List.find?_cons, h]
theorem kFind_neg {p : D × D} {kvs : List (D × D)} {k : D} (h : p.1 ≠ k) : kFind (p :: kvs) k = kFind kvs k := by simp [kFind, List.find?_cons, h]
theorem kRepl_keys (kvs : List (D × D)) (k v : D) : (kRepl kvs k v).map (·.1) = kvs.map (·.1) := by
  unfold kRepl
  rw [List.map_map]
  refine List.map_congr_left fun p _ => ?_
  simp only [Function.comp]
  split <;> rfl
theorem kPut_keys (kvs : List (D × D)) (k v : D) : (kPut kvs k v).map (·.1) = if (kFind kvs k).isSome then kvs.map (·.1) else kvs.map (·.1) ++ [k] := by
  unfold kPut
  split
  · exact kRepl_keys ..
  · rw [List.map_append]; rfl
/-! ### keys -/
mutual
theorem nkey_inj : ∀ (a b : D) (k : NestedKey), nkey a = some k → nkey b = some k → a = b
  | .none, b, k, h1, h2 => by
    simp only [nkey] at h1
    cases h1
    cases b <;> simp [nkey] at h2
    rfl
  | .int i, b, k, h1, h2 => by
    simp only [nkey] at h1
    cases h1
    cases b <;> simp [nkey] at h2
    rw [h2]
  | .tuple xs, b, k, h1, h2 => by
    simp only [nkey] at h1
    obtain ⟨ks, e, rfl⟩ := Option.map_eq_some_iff.mp h1
    cases b <;> simp [nkey] at h2
    rw [nkeys_inj xs _ ks e h2]
  | .bool _, _, _, h1, _ => by simp [nkey] at h1
  | .str _, _, _, h1, _ => by simp [nkey] at h1
  | .list _, _, _, h1, _ => by simp [nkey] at h1
  | .dict _, _, _, h1, _ => by simp [nkey] at h1
theorem nkeys_inj : ∀ (a b : List D) (ks : List NestedKey), nkeys a = some ks → nkeys b = some ks → a = b
  | [], b, ks, h1, h2 => by
    simp only [nkeys] at h1
    cases h1
    cases b with
    | nil => rfl
    | cons y ys =>
      simp only [nkeys] at h2
      split at h2
      · cases h2
      · cases h2
  | x :: xs, b, ks, h1, h2 => by
    simp only [nkeys] at h1
    split at h1
    · rename_i k ks' e1 e2
      cases h1
      cases b with
      | nil => simp [nkeys] at h2
      | cons y ys =>
        simp only [nkeys] at h2
        split at h2
        · rename_i k2 ks2 e3 e4
          cases h2
          rw [nkey_inj x y _ e1 e3, nkeys_inj xs ys _ e2 e4]
        · cases h2
    · cases h1
end
mutual
theorem nkey_hash (w : World) : ∀ (d : D) (k : NestedKey), nkey d = some k → k.hash w = hk k
  | .none, k, h => by
    simp only [nkey] at h
    cases h
    simp only [NestedKey.hash, hk]
  | .int i, k, h => by
    simp only [nkey] at h
    cases h
    simp only [NestedKey.hash, hk]
  | .tuple xs, k, h => by
    simp only [nkey] at h
    obtain ⟨ks, e, rfl⟩ := Option.map_eq_some_iff.mp h
    simp only [NestedKey.hash, hk]
    rw [nkeys_hash w xs ks e]
  | .bool _, _, h1 => by simp [nkey] at h1
  | .str _, _, h1 => by simp [nkey] at h1
  | .list _, _, h1 => by simp [nkey] at h1
  | .dict _, _, h1 => by simp [nkey] at h1
theorem nkeys_hash (w : World) : ∀ (d : List D) (ks : List NestedKey), nkeys d = some ks → NestedKey.hashes w ks = hks ks
  | [], ks, h => by
    simp only [nkeys] at h
    cases h
    simp only [NestedKey.hashes, hks]
  | x :: xs, ks, h => by
    simp only [nkeys] at h
    split at h
    · rename_i k ks' e1 e2
      cases h
      simp only [NestedKey.hashes, hks]
      rw [nkey_hash w x _ e1, nkeys_hash w xs _ e2]
    · cases h
end
section
variable {c : Zc} {H : Hp}
mutual
theorem rp_key : ∀ (d : D) (k : NestedKey) (v : V) (fp : List Addr), nkey d = some k → Rp c H d v fp → KeyAt c.K H k v ∧ fp = []
  | .none, k, v, fp, h, r => by
    simp only [nkey] at h
    cases h
    simp only [Rp] at r
    obtain ⟨rfl, rfl⟩ := r
    exact ⟨.none, rfl⟩
  | .int i, k, v, fp, h, r => by
    simp only [nkey] at h
    cases h
    simp only [Rp] at r
    obtain ⟨rfl, rfl⟩ := r
    exact ⟨.num i, rfl⟩
  | .tuple xs, k, v, fp, h, r => by
    simp only [nkey] at h
    obtain ⟨ks, e, rfl⟩ := Option.map_eq_some_iff.mp h
    simp only [Rp] at r
    obtain ⟨a, vs, rfl, hT, hr⟩ := r
    obtain ⟨h1, h2⟩ := rps_key xs ks vs fp e hr
    exact ⟨.tup hT.t h1, h2⟩
  | .bool _, _, _, _, h1, _ => by simp [nkey] at h1
  | .str _, _, _, _, h1, _ => by simp [nkey] at h1
  | .list _, _, _, _, h1, _ => by simp [nkey] at h1
  | .dict _, _, _, _, h1, _ => by simp [nkey] at h1
theorem rps_key : ∀ (ds : List D) (ks : List NestedKey) (vs : List V) (fp : List Addr), nkeys ds = some ks → Rps c H ds vs fp → KeyAll c.K H ks vs ∧ fp = []
  | [], ks, vs, fp, h, r => by
    simp only [nkeys] at h
    cases h
    simp only [Rps] at r
    obtain ⟨rfl, rfl⟩ := r
    exact ⟨.nil, rfl⟩
  | x :: xs, ks, vs, fp, h, r => by
    simp only [nkeys] at h
    split at h
    · rename_i k ks' e1 e2
      cases h
      simp only [Rps] at r
      obtain ⟨y, ys, f1, f2, rfl, rfl, r1, r2⟩ := r
      obtain ⟨h1, rfl⟩ := rp_key x _ _ _ e1 r1
      obtain ⟨h2, rfl⟩ := rps_key xs _ _ _ e2 r2
      exact ⟨.cons h1 h2, rfl⟩
    · cases h
end
end
/-- a key: an int, a text, a tuple of ints, Nones and such -/
def KeyOk (d : D) : Prop := (∃ k : Key, d = keyD k) ∨ ∃ (nk : NestedKey) (l : List NestedKey), nkey d = some nk ∧ nk = .tup l ∧ nk.depth ≤ 8
theorem isTuple_keyD (k : Key) : isTuple (keyD k) = false := by cases k <;> rfl
theorem isTuple_nkey {d : D} {l : List NestedKey} (h : nkey d = some (.tup l)) : isTuple d = true := by
  cases d <;> simp [nkey] at h
  rfl
theorem keyD_inj {a b : Key} (h : keyD a = keyD b) : a = b := by
  cases a <;> cases b <;> simp [keyD] at h <;> rw [h]
theorem rp_keyD {c : Zc} {H : Hp} {k : Key} {v : V} {fp : List Addr} (h : Rp c H (keyD k) v fp) : v = kV k ∧ fp = [] := by
  cases k with
  | inl i =>
    simp only [keyD, Rp] at h
    exact h
  | inr x =>
    simp only [keyD, Rp] at h
    exact h
/-! ### what a dict's object holds -/
def selX (bs : List Bool) (x : V) (xs : List V) : List V := List.zipWith (fun b x0 => cond b x x0) bs xs
section
variable {c : Zc} {H : Hp}
/-- the dict's entry at k -/
def Held (c : Zc) (H : Hp) (kvs : List (D × D)) (ys xs : List V) (gp : List Addr) (k d : D) (x : V) (fp : List Addr) : Prop :=
  ∃ A B ys1 y ys2 xs1 xs2 f1 f2, kvs = A ++ (k, d) :: B ∧ ys = ys1 ++ y :: ys2 ∧ xs = xs1 ++ x :: xs2 ∧ gp = f1 ++ (fp ++ f2) ∧ Rpk c H A ys1 xs1 f1 ∧ Rp c H k y [] ∧ Rp c H d x fp ∧ Rpk c H B ys2 xs2 f2
theorem Held.cons {k' d' k d : D} {y0 x0 x : V} {kvs : List (D × D)} {ys xs : List V} {f gp fp : List Addr} (rk : Rp c H k' y0 []) (rd : Rp c H d' x0 f) (h : Held c H kvs ys xs gp k d x fp) : Held c H ((k', d') :: kvs) (y0 :: ys) (x0 :: xs) (f ++ gp) k d x fp := by
  obtain ⟨A, B, ys1, y, ys2, xs1, xs2, f1, f2, rfl, rfl, rfl, rfl, h1, h2, h3, h4⟩ := h
  refine ⟨(k', d') :: A, B, y0 :: ys1, y, ys2, x0 :: xs1, xs2, f ++ f1, f2, rfl, rfl, rfl, by rw [List.append_assoc], ?_, h2, h3, h4⟩
  simp only [Rpk]
  exact ⟨y0, ys1, x0, xs1, f, f1, rfl, rfl, rfl, rk, rd, h1⟩
theorem Held.fits {k d : D} {x : V} {kvs : List (D × D)} {ys xs : List V} {gp fp : List Addr} (h : Held c H kvs ys xs gp k d x fp) : Rp c H d x fp ∧ (∀ b ∈ fp, b ∈ gp) ∧ (gp.Nodup → fp.Nodup) := by
  obtain ⟨A, B, ys1, y, ys2, xs1, xs2, f1, f2, rfl, rfl, rfl, rfl, h1, h2, h3, h4⟩ := h
  exact ⟨h3, fun b hb => List.mem_append_right _ (List.mem_append_left _ hb), fun n => (List.nodup_append.mp (List.nodup_append.mp n).2.1).1⟩
/-- what is found -/
def GetIs (c : Zc) (H : Hp) (kvs : List (D × D)) (ys xs : List V) (gp : List Addr) (k : D) (o : Option D) (r : Option V) : Prop := match o with
  | none => r = none
  | some d => ∃ x fp, r = some x ∧ Held c H kvs ys xs gp k d x fp
theorem GetIs.grow {c : Zc} {H : Hp} {kvs : List (D × D)} {ys xs : List V} {gp f : List Addr} {k k' d' : D} {y0 x0 : V} {o : Option D} {r : Option V} (h : GetIs c H kvs ys xs gp k o r) (rk : Rp c H k' y0 []) (rd : Rp c H d' x0 f) : GetIs c H ((k', d') :: kvs) (y0 :: ys) (x0 :: xs) (f ++ gp) k o r := by
  cases o with
  | none => exact h
  | some d =>
    obtain ⟨x, fp, h1, h2⟩ := h
    exact ⟨x, fp, h1, h2.cons rk rd⟩
theorem Held.head {k d : D} {y x : V} {kvs : List (D × D)} {ys xs : List V} {f gp : List Addr} (rk : Rp c H k y []) (rd : Rp c H d x f) (r : Rpk c H kvs ys xs gp) : Held c H ((k, d) :: kvs) (y :: ys) (x :: xs) (f ++ gp) k d x f :=
  ⟨[], kvs, [], y, ys, [], xs, [], gp, rfl, rfl, rfl, rfl, by simp [Rpk], rk, rd, r⟩
theorem find_dK {k0 : Key} : ∀ {kvs : List (D × D)} {kk : List Key} {ys xs : List V} {gp : List Addr}, kvs.map (·.1) = kk.map keyD → Rpk c H kvs ys xs gp → GetIs c H kvs ys xs gp (keyD k0) (kFind kvs (keyD k0)) (valV (kk.zip xs) k0)
  | [], kk, ys, xs, gp, e, r => by
    cases kk with
    | nil => rfl
    | cons j kk => cases e
  | p :: kvs, [], ys, xs, gp, e, r => by cases e
  | (k, d) :: kvs, j :: kk, ys, xs, gp, e, r => by
    rw [List.map_cons, List.map_cons] at e
    obtain ⟨e1, e2⟩ := List.cons.inj e
    simp only [Rpk] at r
    obtain ⟨y, ys', x, xs', f1, f2, rfl, rfl, rfl, h0, h1, h2⟩ := r
    by_cases hk : j = k0
    · have : k = keyD k0 := by rw [← hk]; exact e1
      subst this
      rw [kFind_pos rfl, List.zip_cons_cons, valV_pos hk]
      exact ⟨x, f1, rfl, .head h0 h1 h2⟩
    · have : (k, d).1 ≠ keyD k0 := fun z => hk (keyD_inj (e1.symm.trans z))
      rw [kFind_neg this, List.zip_cons_cons, valV_neg hk]
      exact (find_dK e2 h2).grow h0 h1
theorem find_dX {k : D} {nk : NestedKey} (hk : nkey k = some nk) : ∀ {kvs : List (D × D)} {rows : List Row} {ys xs : List V} {gp : List Addr}, (kvs.map (·.1)).map nkey = rows.map (fun r => some r.1) → xs = rows.map (fun r => r.2.2) → Rpk c H kvs ys xs gp → GetIs c H kvs ys xs gp k (kFind kvs k) (rowAt rows nk)
  | [], rows, ys, xs, gp, e, ex, r => by
    cases rows with
    | nil => rfl
    | cons j kk => cases e
  | p :: kvs, [], ys, xs, gp, e, ex, r => by cases e
  | (k', d) :: kvs, j :: rows, ys, xs, gp, e, ex, r => by
    simp only [List.map_cons] at e
    obtain ⟨e1, e2⟩ := List.cons.inj e
    simp only [Rpk] at r
    obtain ⟨y, ys', x, xs', f1, f2, rfl, rfl, rfl, h0, h1, h2⟩ := r
    rw [List.map_cons] at ex
    obtain ⟨e3, e4⟩ := List.cons.inj ex
    by_cases hj : j.1 = nk
    · have : k' = k := nkey_inj _ _ nk (by rw [e1, hj]) hk
      subst this
      rw [kFind_pos rfl]
      have : rowAt (j :: rows) nk = some j.2.2 := by simp [rowAt, List.find?_cons, hj]
      rw [this, ← e3]
      exact ⟨x, f1, rfl, .head h0 h1 h2⟩
    · have : (k', d).1 ≠ k := fun z => hj (Option.some.inj (e1.symm.trans ((congrArg nkey z).trans hk)))
      rw [kFind_neg this]
      have : rowAt (j :: rows) nk = rowAt rows nk := by simp [rowAt, List.find?_cons, hj]
      rw [this]
      exact (find_dX hk e2 e4 h2).grow h0 h1
theorem rpk_sel {k v : D} {x : V} {fpv : List Addr} (rv : Rp c H v x fpv) (nv : fpv.Nodup) : ∀ {kvs : List (D × D)} {ys xs : List V} {gp : List Addr}, (kvs.map (·.1)).Nodup → Rpk c H kvs ys xs gp → gp.Nodup → (∀ b ∈ gp, b ∉ fpv) →
    ∃ gp', Rpk c H (kRepl kvs k v) ys (selX (kSel kvs k) x xs) gp' ∧ (∀ b ∈ gp', b ∈ gp ∨ b ∈ fpv) ∧ gp'.Nodup ∧ (k ∉ kvs.map (·.1) → gp' = gp ∧ selX (kSel kvs k) x xs = xs)
  | [], ys, xs, gp, _, r, ng, _ => by
    simp only [Rpk] at r
    obtain ⟨rfl, rfl, rfl⟩ := r
    exact ⟨[], by simp [kRepl, kSel, selX, Rpk], (fun b hb => by cases hb), List.nodup_nil, fun _ => ⟨rfl, rfl⟩⟩
  | (k', d) :: kvs, ys, xs, gp, nk, r, ng, dj => by
    simp only [Rpk] at r
    obtain ⟨y, ys', x0, xs', f1, f2, rfl, rfl, rfl, h0, h1, h2⟩ := r
    rw [List.map_cons] at nk
    obtain ⟨nk1, nk2⟩ := List.nodup_cons.mp nk
    obtain ⟨ng1, ng2, ng3⟩ := List.nodup_append.mp ng
    obtain ⟨g', a1, a2, a3, a4⟩ := rpk_sel (k := k) rv nv nk2 h2 ng2 fun b hb => dj b (List.mem_append_right _ hb)
    by_cases e : k' = k
    · subst e
      obtain ⟨rfl, a5⟩ := a4 nk1
      refine ⟨fpv ++ g', ?_, fun b hb => ?_, ?_, fun z => (z (by simp)).elim⟩
      · have : kRepl ((k', d) :: kvs) k' v = (k', v) :: kRepl kvs k' v := by simp [kRepl]
        rw [this]
        have : selX (kSel ((k', d) :: kvs) k') x (x0 :: xs') = x :: selX (kSel kvs k') x xs' := by simp [selX, kSel]
        rw [this]
        simp only [Rpk]
        exact ⟨y, ys', x, _, fpv, g', rfl, rfl, rfl, h0, rv, a1⟩
      · rcases List.mem_append.mp hb with z | z
        · exact .inr z
        · exact .inl (List.mem_append_right _ z)
      · exact List.nodup_append.mpr ⟨nv, a3, fun b hb b' hb' z => dj b' (List.mem_append_right _ hb') (z ▸ hb)⟩
    · refine ⟨f1 ++ g', ?_, fun b hb => ?_, ?_, fun z => ?_⟩
      · have : kRepl ((k', d) :: kvs) k v = (k', d) :: kRepl kvs k v := by simp [kRepl, e]
        rw [this]
        have : selX (kSel ((k', d) :: kvs) k) x (x0 :: xs') = x0 :: selX (kSel kvs k) x xs' := by simp [selX, kSel, e]
        rw [this]
        simp only [Rpk]
        exact ⟨y, ys', x0, _, f1, g', rfl, rfl, rfl, h0, h1, a1⟩
      · rcases List.mem_append.mp hb with z | z
        · exact .inl (List.mem_append_left _ z)
        · exact (a2 b z).imp (List.mem_append_right _) id
      · refine List.nodup_append.mpr ⟨ng1, a3, fun b hb b' hb' z => ?_⟩
        rcases a2 b' hb' with q | q
        · exact ng3 b hb b' q z
        · exact dj b (List.mem_append_left _ hb) (z ▸ q)
      · rw [List.map_cons] at z
        obtain ⟨rfl, a5⟩ := a4 fun h => z (List.mem_cons_of_mem _ h)
        refine ⟨rfl, ?_⟩
        have : selX (kSel ((k', d) :: kvs) k) x (x0 :: xs') = x0 :: selX (kSel kvs k) x xs' := by simp [selX, kSel, e]
        rw [this, a5]
theorem rpk_snoc {k v : D} {y x : V} {fpv : List Addr} (rk : Rp c H k y []) (rv : Rp c H v x fpv) : ∀ {kvs : List (D × D)} {ys xs : List V} {gp : List Addr}, Rpk c H kvs ys xs gp → Rpk c H (kvs ++ [(k, v)]) (ys ++ [y]) (xs ++ [x]) (gp ++ fpv)
  | [], ys, xs, gp, r => by
    simp only [Rpk] at r
    obtain ⟨rfl, rfl, rfl⟩ := r
    simp only [List.nil_append, Rpk]
    exact ⟨y, [], x, [], fpv, [], rfl, rfl, by simp, rk, rv, rfl, rfl, rfl⟩
  | (k', d) :: kvs, ys, xs, gp, r => by
    simp only [Rpk] at r
    obtain ⟨y0, ys', x0, xs', f1, f2, rfl, rfl, rfl, h0, h1, h2⟩ := r
    simp only [List.cons_append, List.append_assoc, Rpk]
    exact ⟨y0, _, x0, _, f1, f2 ++ fpv, rfl, rfl, rfl, h0, h1, rpk_snoc rk rv h2⟩
theorem rpk_keys : ∀ {kvs : List (D × D)} {rows : List Row} {ys xs : List V} {gp : List Addr}, (kvs.map (·.1)).map nkey = rows.map (fun r => some r.1) → ys = rows.map (fun r => .ref r.2.1) → Rpk c H kvs ys xs gp → ∀ r ∈ rows, KeyAt c.K H r.1 (.ref r.2.1) ∧ ∀ w, r.1.hash w = hk r.1
  | [], rows, ys, xs, gp, e, ey, r => by
    cases rows with
    | nil => intro r hr; cases hr
    | cons j kk => cases e
  | p :: kvs, [], ys, xs, gp, e, ey, r => by cases e
  | (k', d) :: kvs, j :: rows, ys, xs, gp, e, ey, r => by
    simp only [List.map_cons] at e
    obtain ⟨e1, e2⟩ := List.cons.inj e
    simp only [Rpk] at r
    obtain ⟨y, ys', x, xs', f1, f2, rfl, rfl, rfl, h0, h1, h2⟩ := r
    rw [List.map_cons] at ey
    obtain ⟨e3, e4⟩ := List.cons.inj ey
    intro r hr
    rcases List.mem_cons.mp hr with rfl | hr
    · refine ⟨?_, fun w => nkey_hash w _ _ e1⟩
      rw [← e3]
      exact (rp_key _ _ _ _ e1 h0).1
    · exact rpk_keys e2 e4 h2 r hr
/-- all keys are of the kind of k -/
def Homog (kvs : List (D × D)) (k : D) : Prop := ∀ p ∈ kvs, isTuple p.1 = isTuple k
theorem x_at {a : Addr} {kvs : List (D × D)} {ys xs : List V} {gp : List Addr} {u : HO} (hu : DictU a (kvs.map (·.1)) ys xs u) (r : Rpk c H kvs ys xs gp) (ha : Rd H a u) {k : D} {nk : NestedKey} {l : List NestedKey} (hk : nkey k = some nk) (hl : nk = .tup l) (hg : Homog kvs k) :
    ∃ rows, XAt c.K H a rows ∧ ys = rows.map (fun r => .ref r.2.1) ∧ xs = rows.map (fun r => r.2.2) ∧ (kvs.map (·.1)).map nkey = rows.map (fun r => some r.1) ∧ rows.length = kvs.length ∧ (∀ r ∈ rows, r.1.depth ≤ 8 ∧ ∃ l, r.1 = .tup l) ∧ (rows.map (·.1)).Nodup := by
  have it : isTuple k = true := isTuple_nkey (by rw [hk, hl])
  rcases hu with ⟨kk, e, nd, el, rfl⟩ | ⟨rows, hne, e, hd, ey, ex, nd, rfl⟩
  · cases kvs with
    | nil =>
      cases kk with
      | nil =>
        simp only [Rpk] at r
        obtain ⟨rfl, rfl, rfl⟩ := r
        exact ⟨[], ⟨.inl ⟨rfl, ha⟩, List.nodup_nil, fun r hr => by cases hr⟩, rfl, rfl, rfl, rfl, (fun r hr => by cases hr), List.nodup_nil⟩
      | cons j kk => cases e
    | cons p kvs =>
      cases kk with
      | nil => cases e
      | cons j kk =>
        rw [List.map_cons, List.map_cons] at e
        have := hg p (List.mem_cons_self ..)
        rw [it, (List.cons.inj e).1, isTuple_keyD] at this
        cases this
  · have ks := rpk_keys e ey r
    refine ⟨rows, ⟨.inr ⟨hne, ha⟩, nd, fun r hr => ⟨(ks r hr).1, (hd r hr).1, (ks r hr).2⟩⟩, ey, ex, e, ?_, hd, nd⟩
    have := congrArg List.length e
    simpa using this.symm
theorem dK_at {a : Addr} {kvs : List (D × D)} {ys xs : List V} {u : HO} (hu : DictU a (kvs.map (·.1)) ys xs u) {k : Key} (hg : Homog kvs (keyD k)) : ∃ kk : List Key, kvs.map (·.1) = kk.map keyD ∧ kk.Nodup ∧ xs.length = kk.length ∧ u = .dK (kk.zip xs) := by
  rcases hu with h | ⟨rows, hne, e, hd, ey, ex, nd, rfl⟩
  · exact h
  · exfalso
    cases rows with
    | nil => exact hne rfl
    | cons j rows =>
      cases kvs with
      | nil => cases e
      | cons p kvs =>
        simp only [List.map_cons] at e
        obtain ⟨_, l, hl⟩ := hd j (List.mem_cons_self ..)
        have h1 := isTuple_nkey (d := p.1) (l := l) (by rw [(List.cons.inj e).1, hl])
        rw [hg p (List.mem_cons_self ..), isTuple_keyD] at h1
        cases h1
/-- what is held at a key -/
theorem get_dict {a : Addr} {kvs : List (D × D)} {ys xs : List V} {gp : List Addr} {u : HO} (hu : DictU a (kvs.map (·.1)) ys xs u) (r : Rpk c H kvs ys xs gp) (ha : Rd H a u) {k : D} {y : V} {fk : List Addr} (hk : KeyOk k) (rk : Rp c H k y fk) (hg : Homog kvs k) :
    ∃ o, XGet c.K H a y o ∧ GetIs c H kvs ys xs gp k (kFind kvs k) o := by
  rcases hk with ⟨j, rfl⟩ | ⟨nk, l, hk, hl, hd⟩
  · obtain ⟨kk, e, nd, el, rfl⟩ := dK_at hu hg
    obtain ⟨rfl, _⟩ := rp_keyD rk
    exact ⟨_, .inl (.inl ⟨_, j, ha, rfl, rfl⟩), find_dK e r⟩
  · obtain ⟨rows, hx, ey, ex, e, _⟩ := x_at hu r ha hk hl hg
    obtain ⟨ka, _⟩ := rp_key _ _ _ _ hk rk
    have hb : ∃ b, y = .ref b := by
      rw [hl] at ka
      cases ka
      exact ⟨_, rfl⟩
    obtain ⟨b, rfl⟩ := hb
    exact ⟨_, .inr ⟨rows, nk, b, hx, rfl, ⟨ka, hd, fun w => nkey_hash w _ _ hk⟩, rfl⟩, find_dX hk e ex r⟩
theorem sel_rows {k : D} {nk : NestedKey} (hk : nkey k = some nk) : ∀ {kvs : List (D × D)} {rows : List Row}, (kvs.map (·.1)).map nkey = rows.map (fun r => some r.1) → kSel kvs k = rows.map fun r => decide (r.1 = nk)
  | [], [], _ => rfl
  | [], _ :: _, e => by cases e
  | _ :: _, [], e => by cases e
  | p :: kvs, j :: rows, e => by
    simp only [List.map_cons] at e
    obtain ⟨e1, e2⟩ := List.cons.inj e
    have ih := sel_rows hk e2
    unfold kSel at ih ⊢
    rw [List.map_cons, List.map_cons, ih]
    congr 1
    by_cases h : j.1 = nk
    · have : p.1 = k := nkey_inj _ _ nk (by rw [e1, h]) hk
      simp [h, this]
    · have : p.1 ≠ k := fun z => h (Option.some.inj (e1.symm.trans ((congrArg nkey z).trans hk)))
      simp [h, this]
theorem sel_vals {nk : NestedKey} {x : V} : ∀ rows : List Row, (rows.map fun r => if r.1 = nk then (r.1, r.2.1, x) else r).map (fun r => r.2.2) = selX (rows.map fun r => decide (r.1 = nk)) x (rows.map fun r => r.2.2)
  | [] => rfl
  | r :: rows => by
    rw [List.map_cons, List.map_cons, sel_vals rows]
    by_cases h : r.1 = nk
    · simp [selX, h]
    · simp [selX, h]
theorem GetIs.isSome {kvs : List (D × D)} {ys xs : List V} {gp : List Addr} {k : D} {o : Option D} {r : Option V} (h : GetIs c H kvs ys xs gp k o r) : r.isSome = o.isSome := by
  cases o with
  | none => rw [show r = none from h]; rfl
  | some d =>
    obtain ⟨x, fp, h1, _⟩ := h
    rw [h1]
    rfl
end
end Z
set_option Elab.async false
set_option linter.all false
set_option maxRecDepth 100000
set_option maxHeartbeats 4000000
/-! Z36: dicts over data: d[k], d.get(k), in, d[k] = v, setdefault, len; walks of dicts that never change any more. -/
namespace Z
open PySem PySem.Spec PyProof.Rows L2
def plainK (kvs : List (D × D)) : Prop := isSrc kvs = false ∧ isFrz kvs = false ∧ isFrd kvs = false
theorem plainK_nil : plainK [] := ⟨rfl, rfl, rfl⟩
theorem plainK_of {kvs : List (D × D)} (h : ∀ p ∈ kvs, KeyOk p.1) : plainK kvs := by
  cases kvs with
  | nil => exact plainK_nil
  | cons p kvs =>
    have := h p (List.mem_cons_self ..)
    obtain ⟨k, v⟩ := p
    have hk : (∀ b, k ≠ .bool b) ∧ k ≠ .none := by
      rcases this with ⟨j, e⟩ | ⟨nk, l, e1, e2, _⟩
      · constructor
        · rintro b rfl
          cases j <;> cases e
        · rintro rfl
          cases j <;> cases e
      · constructor
        · rintro b rfl
          simp [nkey] at e1
        · rintro rfl
          simp [nkey] at e1
          rw [e2] at e1
          cases e1
    cases k with
    | none => exact (hk.2 rfl).elim
    | bool b => exact (hk.1 b rfl).elim
    | _ => exact ⟨by cases kvs <;> rfl, rfl, rfl⟩
/-- a dict, of either kind -/
def IsDc (d : D) (kvs : List (D × D)) : Prop := (d = .dict kvs ∧ plainK kvs) ∨ d = frdD kvs
section
variable {c : Zc} {H : Hp}
theorem rp_dict {kvs : List (D × D)} (hp : plainK kvs) {v : V} {fp : List Addr} : Rp c H (.dict kvs) v fp ↔ ∃ a ys xs gp, v = .ref a ∧ fp = a :: gp ∧ Rpk c H kvs ys xs gp ∧ ∃ u, H a = some u ∧ DictU a (kvs.map (·.1)) ys xs u := by
  simp only [Rp]
  rw [if_neg (by rw [hp.1]; simp), if_neg (by rw [hp.2.1]; simp), if_neg (by rw [hp.2.2]; simp)]
theorem IsDc.rp {d : D} {kvs : List (D × D)} (l : IsDc d kvs) {v : V} {fp : List Addr} (r : Rp c H d v fp) :
    ∃ a ys xs gp u, v = .ref a ∧ Rd H a u ∧ DictU a (kvs.map (·.1)) ys xs u ∧ Rpk c H kvs ys xs gp ∧ (∀ b ∈ gp, b ∈ fp) ∧ (fp.Nodup → gp.Nodup) := by
  rcases l with ⟨rfl, hp⟩ | rfl
  · obtain ⟨a, ys, xs, gp, rfl, rfl, h1, u, h2, h3⟩ := (rp_dict hp).mp r
    exact ⟨a, ys, xs, gp, u, rfl, .inl h2, h3, h1, fun b hb => List.mem_cons_of_mem _ hb, fun n => (List.nodup_cons.mp n).2⟩
  · obtain ⟨a, ys, xs, rfl, rfl, ⟨o, u, h2, h3⟩, h1⟩ := rp_frd.mp r
    exact ⟨a, ys, xs, [], u, rfl, .inr ⟨o, h2⟩, h3, h1, fun b hb => hb, fun n => n⟩
end
section
variable {K : PySem.W.Frag} {S : Option (Addr × Addr)}
/-! ### reads -/
def dKGet (m mk : DM) : DM := fun ρ R => m ρ fun d => ∃ kvs, IsDc d kvs ∧ mk ρ fun k => KeyOk k ∧ Homog kvs k ∧ ∃ v, kFind kvs k = some v ∧ R v
def dKGet1 (m mk : DM) : DM := fun ρ R => m ρ fun d => ∃ kvs, IsDc d kvs ∧ mk ρ fun k => KeyOk k ∧ Homog kvs k ∧ R ((kFind kvs k).getD .none)
def dKGet2 (m mk mx : DM) : DM := fun ρ R => m ρ fun d => ∃ kvs, IsDc d kvs ∧ mk ρ fun k => KeyOk k ∧ Homog kvs k ∧ mx ρ fun x => R ((kFind kvs k).getD x)
def dKIn (neg : Bool) (mk m : DM) : DM := fun ρ R => mk ρ fun k => KeyOk k ∧ m ρ fun d => ∃ kvs, IsDc d kvs ∧ Homog kvs k ∧ R (.bool (xor neg (kFind kvs k).isSome))
theorem de_kget {td ty : TE} {m mk : DM} {U V : List Nat} (h1 : DE K S td m U) (h2 : DE K S ty mk V) : DE K S (tXGet K td ty) (dKGet m mk) U := fun G H ρ σ fps E R hm Q q =>
  h1 G H ρ σ fps E _ hm _ fun d v H1 fp hR e1 s1 r1 n1 f1 => by
    obtain ⟨kvs, l, hR⟩ := hR
    refine h2 G H1 ρ σ fps (E.step e1 s1) _ hR _ fun k y H2 fk hR2 e2 s2 rk nk fk' => ?_
    obtain ⟨hk, hg, x, hf, hR2⟩ := hR2
    obtain ⟨a, ys, xs, gp, u, rfl, ha, hu, hr, sub, nd⟩ := l.rp (r1.ext n1 e2 s1)
    obtain ⟨o, g, gi⟩ := get_dict hu hr ha hk rk hg
    rw [hf] at gi
    obtain ⟨z, fz, rfl, hh⟩ := gi
    obtain ⟨rz, sz, ndz⟩ := hh.fits
    exact ⟨a, z, rfl, g, q x z H2 fz hR2 (e1.trans e2) s2 rz (fun b hb => n1 b (sub b (sz b hb))) (f1.part (fun b hb => sub b (sz b hb)) fun n => ndz (nd n))⟩
theorem de_kin {neg : Bool} {td ty : TE} {m mk : DM} {U V : List Nat} (h2 : DE K S ty mk V) (h1 : DE K S td m U) : DE K S (tXIn K neg ty td) (dKIn neg mk m) [] := fun G H ρ σ fps E R hm Q q =>
  h2 G H ρ σ fps E _ hm _ fun k y H1 fk hR e1 s1 rk nk fk' => by
    obtain ⟨hk, hR⟩ := hR
    refine h1 G H1 ρ σ fps (E.step e1 s1) _ hR _ fun d v H2 fp hR2 e2 s2 r1 n1 f1 => ?_
    obtain ⟨kvs, l, hg, hR2⟩ := hR2
    obtain ⟨a, ys, xs, gp, u, rfl, ha, hu, hr, sub, nd⟩ := l.rp r1
    obtain ⟨o, g, gi⟩ := get_dict hu hr ha hk (rk.ext nk e2 s1) hg
    refine ⟨a, o, rfl, g, ?_⟩
    rw [gi.isSome]
    exact q _ _ H2 [] hR2 (e1.trans e2) s2 (bl_rp H2) .nil (.fresh (fun b hb => by cases hb) List.nodup_nil)
/-! ### stores -/
/-- the slot holds a dict of its own -/
def ownK (s : Option Sl) (k : List (D × D) → Prop) : Prop := ∃ kvs, s = some (.own (.dict kvs)) ∧ plainK kvs ∧ k kvs
theorem DictU.notFix {a : Addr} {ks : List D} {ys xs : List V} {u : HO} (h : DictU a ks ys xs u) : ¬ Fix u := fun hf => by
  obtain ⟨_, n1, n2⟩ := h.not_fix
  cases u with
  | tup zs => exact n1 zs rfl
  | frz o z => exact n2 o z rfl
  | _ => exact hf
def sKPut (i : Nat) (mk mv : DM) : DMS := fun ρ R => mv ρ fun v => ownK ρ[i]? fun kvs => mk ρ fun k => KeyOk k ∧ Homog kvs k ∧ kvs.length < 10000000 ∧ R.nx (ρ.set i (.own (.dict (kPut kvs k v))))
/-- x = d.setdefault(k, e), e without lists of its own -/
def sKSetd (j i : Nat) (mk mx : DM) : DMS := fun ρ R => ownK ρ[i]? fun kvs => mk ρ fun k => KeyOk k ∧ Homog kvs k ∧ kvs.length < 10000000 ∧ mx ρ fun x => solid x = true ∧
  match kFind kvs k with
  | some v => solid v = true ∧ R.nx (ρ.set j (.own v))
  | none => R.nx ((ρ.set i (.own (.dict (kPut kvs k x)))).set j (.own x))
/-! ### d.setdefault(k, []).append(e) -/
theorem Held.keys {c : Zc} {H : Hp} {kvs : List (D × D)} {ys xs : List V} {gp : List Addr} {k d v : D} {x : V} {fp : List Addr} (h : Held c H kvs ys xs gp k d x fp) (nd : (kvs.map (·.1)).Nodup) : (kRepl kvs k v).map (·.1) = kvs.map (·.1) := kRepl_keys ..
def sKSetApp (i : Nat) (mk me : DM) : DMS := fun ρ R => ownK ρ[i]? fun kvs => mk ρ fun k => KeyOk k ∧ Homog kvs k ∧ kvs.length < 10000000 ∧
  match kFind kvs k with
  | some d => ∃ ds, d = .list ds ∧ ds.length < 10000000 ∧ me ρ fun e => solid e = true ∧ R.nx (ρ.set i (.own (.dict (kPut kvs k (.list (ds ++ [e]))))))
  | none => me (ρ.set i (.own (.dict (kPut kvs k (.list []))))) fun e => solid e = true ∧ R.nx (ρ.set i (.own (.dict (kPut kvs k (.list [e])))))
end
end Z
set_option Elab.async false
set_option linter.all false
set_option maxRecDepth 100000
set_option maxHeartbeats 4000000
/-! Z37: what is made and then never changed: the ghost of freezing; walks of dicts that never change any more. -/
namespace Z
open PySem PySem.Spec PyProof.Rows L2
/-! ### freezing -/
def Chg (u : HO) : Prop := (∃ xs, u = .lst xs) ∨ (∃ kvs, u = .dK kvs) ∨ ∃ φ, u = .ext φ
theorem Chg.notFix {u : HO} (h : Chg u) : ¬ Fix u := by
  rcases h with ⟨xs, rfl⟩ | ⟨kvs, rfl⟩ | ⟨φ, rfl⟩ <;> exact id
def FrzBy (L : List Addr) (H H' : Hp) : Prop := ∀ b, (b ∉ L → H' b = H b) ∧ (b ∈ L → ∃ o u, H b = some u ∧ Chg u ∧ H' b = some (.frz o u))
theorem FrzBy.tk {L : List Addr} {H H' : Hp} (h : FrzBy L H H') : Tk H H' := fun b o hb hf => by
  by_cases z : b ∈ L
  · obtain ⟨ob, u, h1, h2, _⟩ := (h b).2 z
    rw [h1] at hb
    cases hb
    exact (h2.notFix hf).elim
  · rw [(h b).1 z]
    exact hb
mutual
/-- nothing in it changes any more -/
def fz : D → D
  | .none => .none
  | .bool b => .bool b
  | .int i => .int i
  | .str x => .str x
  | .list ds => frzD (fzs ds)
  | .tuple ds => .tuple (fzs ds)
  | .dict kvs => if isSrc kvs = true then .dict kvs else if isFrz kvs = true then .dict kvs else if isFrd kvs = true then .dict kvs else frdD (fzk kvs)
def fzs : List D → List D
  | [] => []
  | d :: ds => fz d :: fzs ds
def fzk : List (D × D) → List (D × D)
  | [] => []
  | (k, d) :: ds => (k, fz d) :: fzk ds
end
section
variable {K : PySem.W.Frag} {S : Option (Addr × Addr)}
def sFz (i : Nat) (m : DMS) : DMS := fun ρ R => ∃ d, ρ[i]? = some (.own d) ∧ m (ρ.set i (.val (fz d))) R
end
/-! ### walks -/
section
variable {K : PySem.W.Frag} {S : Option (Addr × Addr)}
def dXKeys (m : DM) : DMs := fun ρ R => m ρ fun d => ∃ kvs, d = frdD kvs ∧ R (kvs.map (·.1))
def dXVals (m : DM) : DMs := fun ρ R => m ρ fun d => ∃ kvs, d = frdD kvs ∧ R (kvs.map (·.2))
def dXItems (m : DM) : DMs := fun ρ R => m ρ fun d => ∃ kvs, d = frdD kvs ∧ R (kvs.map fun p => .tuple [p.1, p.2])
end
end Z
set_option Elab.async false
set_option linter.all false
set_option maxRecDepth 100000
set_option maxHeartbeats 4000000
/-! Z38: {} and len of dicts of any keys; dicts as lists of typed pairs. -/
namespace Z
open PySem PySem.Spec PyProof.Rows L2
section
variable {K : PySem.W.Frag} {S : Option (Addr × Addr)}
def dLenX (m : DM) : DM := fun ρ R => m ρ fun d => ∃ kvs, IsDc d kvs ∧ R (.int ((kvs.length : Nat) : Int))
def dNewX : DM := fun _ R => R (.dict [])
end
/-! ### typed pairs -/
section
variable {α β : Type} [DecidableEq α] {f : α → D} {g : β → D}
def aFind (xs : List (α × β)) (a : α) : Option β := (xs.find? fun p => decide (p.1 = a)).map (·.2)
def aPut (xs : List (α × β)) (a : α) (b : β) : List (α × β) := if (aFind xs a).isSome then xs.map (fun p => if p.1 = a then (p.1, b) else p) else xs ++ [(a, b)]
def tD (f : α → D) (g : β → D) (xs : List (α × β)) : List (D × D) := xs.map fun p => (f p.1, g p.2)
theorem kFind_tD (inj : ∀ a b, f a = f b → a = b) (xs : List (α × β)) (a : α) : kFind (tD f g xs) (f a) = (aFind xs a).map g := by
  induction xs with
  | nil => rfl
  | cons p xs ih =>
    by_cases h : p.1 = a
    · have h1 : kFind (tD f g (p :: xs)) (f a) = some (g p.2) := kFind_pos (p := (f p.1, g p.2)) (congrArg f h)
      rw [h1]
      simp [aFind, h]
    · have h1 : kFind (tD f g (p :: xs)) (f a) = kFind (tD f g xs) (f a) := kFind_neg (p := (f p.1, g p.2)) fun z => h (inj _ _ z)
      rw [h1, ih]
      simp [aFind, List.find?_cons, h]
theorem plainK_tD (ok : ∀ a, KeyOk (f a)) (xs : List (α × β)) : plainK (tD f g xs) := plainK_of fun p hp => by
  obtain ⟨q, _, rfl⟩ := List.mem_map.mp hp
  exact ok q.1
theorem homog_tD {t : Bool} (ht : ∀ a, isTuple (f a) = t) (xs : List (α × β)) (a : α) : Homog (tD f g xs) (f a) := fun p hp => by
  obtain ⟨q, _, rfl⟩ := List.mem_map.mp hp
  rw [ht, ht]
theorem aFind_mem {xs : List (α × β)} {a : α} : (aFind xs a).isSome = true ↔ a ∈ xs.map (·.1) := by
  unfold aFind
  rw [Option.isSome_map, List.find?_isSome]
  constructor
  · rintro ⟨p, hp, e⟩
    exact List.mem_map.mpr ⟨p, hp, by simpa using e⟩
  · intro h
    obtain ⟨p, hp, e⟩ := List.mem_map.mp h
    exact ⟨p, hp, by simpa using e⟩
theorem aFind_none {xs : List (α × β)} {a : α} : aFind xs a = none ↔ a ∉ xs.map (·.1) := by
  rw [← aFind_mem]
  cases aFind xs a <;> simp
theorem aFind_of_mem {xs : List (α × β)} (nd : (xs.map (·.1)).Nodup) {a : α} {b : β} (h : (a, b) ∈ xs) : aFind xs a = some b := by
  induction xs with
  | nil => cases h
  | cons p xs ih =>
    rw [List.map_cons] at nd
    obtain ⟨n1, n2⟩ := List.nodup_cons.mp nd
    rcases List.mem_cons.mp h with rfl | h
    · simp [aFind]
    · have : p.1 ≠ a := fun z => n1 (z ▸ List.mem_map.mpr ⟨_, h, rfl⟩)
      have := ih n2 h
      unfold aFind at this ⊢
      rw [List.find?_cons]
      simp [*]
theorem aPut_keys (xs : List (α × β)) (a : α) (b : β) : (aPut xs a b).map (·.1) = if a ∈ xs.map (·.1) then xs.map (·.1) else xs.map (·.1) ++ [a] := by
  unfold aPut
  by_cases h : a ∈ xs.map (·.1)
  · rw [if_pos (aFind_mem.mpr h), if_pos h, List.map_map]
    refine List.map_congr_left fun p _ => ?_
    simp only [Function.comp]
    split <;> rfl
  · rw [if_neg fun z => h (aFind_mem.mp z), if_neg h, List.map_append]
    rfl
theorem aPut_nodup {xs : List (α × β)} (nd : (xs.map (·.1)).Nodup) (a : α) (b : β) : ((aPut xs a b).map (·.1)).Nodup := by
  rw [aPut_keys]
  split
  · exact nd
  · rename_i h
    exact List.nodup_append.mpr ⟨nd, List.pairwise_singleton _ _, fun x hx y hy z => h (by rw [List.mem_singleton.mp hy] at z; exact z ▸ hx)⟩
theorem aFind_put (xs : List (α × β)) (a c : α) (b : β) : aFind (aPut xs a b) c = if c = a then some b else aFind xs c := by
  unfold aPut
  by_cases h : (aFind xs a).isSome = true
  · rw [if_pos h]
    by_cases hc : c = a
    · subst hc
      rw [if_pos rfl]
      induction xs with
      | nil => cases h
      | cons p xs ih =>
        by_cases e : p.1 = c
        · simp [aFind, e]
        · have : (aFind xs c).isSome = true := by
            have h' := h
            unfold aFind at h' ⊢
            rw [List.find?_cons] at h'
            simpa [e] using h'
          have := ih this
          unfold aFind at this ⊢
          rw [List.map_cons, List.find?_cons]
          simpa [e] using this
    · rw [if_neg hc]
      clear h
      induction xs with
      | nil => rfl
      | cons p xs ih =>
        unfold aFind at ih ⊢
        rw [List.map_cons, List.find?_cons, List.find?_cons]
        by_cases e : p.1 = a
        · have : ¬ p.1 = c := fun z => hc (z.symm.trans e)
          have a' : ¬ a = c := fun z => hc z.symm
          simp only [e, if_true, a', decide_false]
          exact ih
        · by_cases e2 : p.1 = c
          · have h3 : (if p.1 = a then (p.1, b) else p) = p := if_neg e
            rw [h3]
            simp [e2]
          · simp only [e, if_false, e2, decide_false]
            exact ih
  · rw [if_neg h]
    by_cases hc : c = a
    · subst hc
      rw [if_pos rfl]
      have : aFind xs c = none := by
        cases hh : aFind xs c with
        | none => rfl
        | some b => rw [hh] at h; exact (h rfl).elim
      unfold aFind at this ⊢
      rw [Option.map_eq_none_iff] at this
      rw [List.find?_append, this]
      simp
    · rw [if_neg hc]
      unfold aFind
      rw [List.find?_append]
      have : ¬ a = c := fun z => hc z.symm
      cases hh : xs.find? (fun p => decide (p.1 = c)) with
      | none => simp [this]
      | some p => simp
end
end Z
set_option Elab.async false
set_option linter.all false
set_option maxRecDepth 100000
set_option maxHeartbeats 4000000
/-! Z39: len(dict(pairs)), the keys ints. -/
namespace Z
open PySem PySem.Spec PyProof.Rows L2
section
variable {K : PySem.W.Frag} {S : Option (Addr × Addr)}
def dLenDict0 (m : DM) : DM := fun ρ R => m ρ fun d => ∃ ns : List Int, d = pairs0 ns ∧ ∀ ks : List Int, ks.Nodup → (∀ x, x ∈ ks ↔ x ∈ ns) → R (.int ((ks.length : Nat) : Int))
end
end Z
set_option Elab.async false
set_option linter.all false
set_option maxHeartbeats 1000000
/-! G26: rows put together by what is seen at places; what a lot tells. Plain Lean. -/
namespace Z
open PySem PySem.Spec PyProof.Rows L2
def grpS (P : List Nat) (xs : List (List Bool × List (List Bool))) (v : List Bool) : List (List Bool × List (List Bool)) := aPut xs (atP P v) ((aFind xs (atP P v)).getD [] ++ [v])
def alike (P : List Nat) (V : List (List Bool)) (k : List Bool) : List (List Bool) := V.filter fun v => atP P v == k
def optL (l : List (List Bool)) : Option (List (List Bool)) := if l = [] then none else some l
structure Grp (P : List Nat) (V : List (List Bool)) (xs : List (List Bool × List (List Bool))) : Prop where
  nd : (xs.map (·.1)).Nodup
  at' : ∀ k, aFind xs k = optL (alike P V k)
theorem optL_getD (l : List (List Bool)) : (optL l).getD [] = l := by
  unfold optL
  split
  · rename_i h
    rw [h]
    rfl
  · rfl
theorem Grp.step {P : List Nat} {V : List (List Bool)} {xs : List (List Bool × List (List Bool))} (h : Grp P V xs) (v : List Bool) : Grp P (V ++ [v]) (grpS P xs v) := by
  refine ⟨aPut_nodup h.nd _ _, fun k => ?_⟩
  unfold grpS
  rw [aFind_put, h.at', optL_getD]
  unfold alike
  rw [List.filter_append]
  by_cases e : k = atP P v
  · subst e
    rw [if_pos rfl]
    have : [v].filter (fun w => atP P w == atP P v) = [v] := by simp
    rw [this]
    unfold optL
    rw [if_neg (by simp)]
  · rw [if_neg e, h.at']
    have : [v].filter (fun w => atP P w == k) = [] := by
      rw [List.filter_eq_nil_iff]
      intro a ha
      rw [List.mem_singleton.mp ha]
      simpa using fun z => e z.symm
    rw [this, List.append_nil]
    rfl
section
variable {P : List Nat} {V : List (List Bool)} {xs : List (List Bool × List (List Bool))}
theorem Grp.val (h : Grp P V xs) {p : List Bool × List (List Bool)} (hp : p ∈ xs) : p.2 = alike P V p.1 := by
  have := aFind_of_mem h.nd (a := p.1) (b := p.2) hp
  rw [h.at'] at this
  unfold optL at this
  split at this
  · cases this
  · exact (Option.some.inj this).symm
theorem Grp.keys (h : Grp P V xs) (k : List Bool) : k ∈ xs.map (·.1) ↔ ∃ v ∈ V, atP P v = k := by
  rw [← aFind_mem, h.at']
  unfold optL alike
  constructor
  · intro z
    split at z
    · cases z
    · rename_i hne
      obtain ⟨v, hv⟩ := List.exists_mem_of_ne_nil _ hne
      obtain ⟨h1, h2⟩ := List.mem_filter.mp hv
      exact ⟨v, h1, by simpa using h2⟩
  · rintro ⟨v, hv, e⟩
    rw [if_neg]
    · rfl
    · intro z
      have : v ∈ V.filter fun w => atP P w == k := List.mem_filter.mpr ⟨hv, by simpa using e⟩
      rw [z] at this
      cases this
theorem Grp.has (h : Grp P V xs) {v : List Bool} (hv : v ∈ V) : (atP P v, alike P V (atP P v)) ∈ xs := by
  obtain ⟨p, hp, e⟩ := List.mem_map.mp ((h.keys (atP P v)).mpr ⟨v, hv, rfl⟩)
  have := h.val hp
  rw [← e, ← this]
  exact hp
end
/-! ### what a lot tells -/
end Z
set_option Elab.async false
set_option linter.all false
set_option maxRecDepth 100000
set_option maxHeartbeats 4000000
/-! Z40: dict(list of pairs) whose keys are tuples of any depth. -/
namespace Z
open PySem PySem.Spec PyProof.Rows L2
abbrev TPair := Addr × NestedKey × Addr × V
def rowsOf (ts : List TPair) : List Row := ts.foldl (fun rows t => rowPut rows t.2.1 t.2.2.1 t.2.2.2) []
/-! ### over data -/
noncomputable def kMerge (kvs : List (D × D)) : List (D × D) := kvs.foldl (fun acc p => kPut acc p.1 p.2) []
def KeyT (d : D) : Prop := ∃ (nk : NestedKey) (l : List NestedKey), nkey d = some nk ∧ nk = .tup l ∧ nk.depth ≤ 8
theorem KeyT.ok {d : D} (h : KeyT d) : KeyOk d := .inr h
theorem KeyT.tup {d : D} (h : KeyT d) : isTuple d = true := by
  obtain ⟨nk, l, h1, h2, _⟩ := h
  exact isTuple_nkey (by rw [h1, h2])
section
variable {c : Zc} {H : Hp}
/-- the rows that stand for pairs -/
structure RowsAs (c : Zc) (H : Hp) (kvs : List (D × D)) (rows : List Row) : Prop where
  ks : (kvs.map (·.1)).map nkey = rows.map (fun r => some r.1)
  rp : Rpk c H kvs (rows.map fun r => .ref r.2.1) (rows.map fun r => r.2.2) []
  nd : (rows.map (·.1)).Nodup
  tp : ∀ r ∈ rows, r.1.depth ≤ 8 ∧ ∃ l, r.1 = .tup l
theorem RowsAs.keys {kvs : List (D × D)} {rows : List Row} (h : RowsAs c H kvs rows) : (kvs.map (·.1)).Nodup := by
  have : ((kvs.map (·.1)).map nkey).Nodup := by
    rw [h.ks, show (fun r : Row => some r.1) = some ∘ (fun r : Row => r.1) from rfl, ← List.map_map]
    exact List.Pairwise.map _ (fun a b hne z => hne (Option.some.inj z)) h.nd
  exact List.Pairwise.of_map _ (fun a b hne z => hne (congrArg nkey z)) this
theorem RowsAs.put {kvs : List (D × D)} {rows : List Row} (h : RowsAs c H kvs rows) {k v : D} {nk : NestedKey} {l : List NestedKey} (hk : nkey k = some nk) (hl : nk = .tup l) (hd : nk.depth ≤ 8) {b : Addr} {x : V} (rk : Rp c H k (.ref b) []) (rv : Rp c H v x []) : RowsAs c H (kPut kvs k v) (rowPut rows nk b x) := by
  have gi := find_dX (c := c) (H := H) hk h.ks rfl h.rp
  have eS := gi.isSome
  have tp : ∀ q ∈ rowPut rows nk b x, q.1.depth ≤ 8 ∧ ∃ l, q.1 = .tup l := fun q hq => by
    have : q.1 ∈ (rowPut rows nk b x).map (·.1) := List.mem_map.mpr ⟨q, hq, rfl⟩
    rw [rowPut_keys] at this
    have old : q.1 ∈ rows.map (·.1) → q.1.depth ≤ 8 ∧ ∃ l, q.1 = .tup l := fun z => by
      obtain ⟨q', hq', e'⟩ := List.mem_map.mp z
      rw [← e']
      exact h.tp q' hq'
    split at this
    · exact old this
    · rcases List.mem_append.mp this with z | z
      · exact old z
      · rw [List.mem_singleton.mp z]
        exact ⟨hd, l, hl⟩
  have nds : ((rowPut rows nk b x).map (·.1)).Nodup := by
    rw [rowPut_keys]
    split
    · exact h.nd
    · rename_i hn
      refine List.nodup_append.mpr ⟨h.nd, List.pairwise_singleton _ _, fun b hb b' hb' z => ?_⟩
      rw [List.mem_singleton.mp hb'] at z
      exact rowAt_none hn (z ▸ hb)
  have hks := h.ks
  have hrp := h.rp
  cases hf : (kFind kvs k).isSome with
  | true =>
    rw [hf] at eS
    obtain ⟨gp', a1, a2, a3, _⟩ := rpk_sel (k := k) rv List.nodup_nil h.keys h.rp List.nodup_nil fun b hb => by cases hb
    have eg : gp' = [] := List.eq_nil_iff_forall_not_mem.mpr fun b hb => by
      rcases a2 b hb with z | z <;> cases z
    subst eg
    refine ⟨?_, ?_, nds, tp⟩
    · rw [kPut_keys, if_pos hf, hks]
      rw [show (fun r : Row => some r.1) = some ∘ (fun r : Row => r.1) from rfl, ← List.map_map, ← List.map_map, rowPut_keys, if_pos eS]
    · unfold kPut
      rw [if_pos hf]
      have e1 : (rowPut rows nk b x).map (fun r => V.ref r.2.1) = rows.map (fun r => V.ref r.2.1) := by
        unfold rowPut
        rw [if_pos eS, List.map_map]
        refine List.map_congr_left fun q _ => ?_
        simp only [Function.comp]
        split <;> rfl
      have e2 : (rowPut rows nk b x).map (fun r => r.2.2) = selX (kSel kvs k) x (rows.map fun r => r.2.2) := by
        unfold rowPut
        rw [if_pos eS, sel_vals, sel_rows hk hks]
      rw [e1, e2]
      exact a1
  | false =>
    rw [hf] at eS
    refine ⟨?_, ?_, nds, tp⟩
    · rw [kPut_keys, if_neg (by rw [hf]; simp), List.map_append, hks]
      rw [show (fun r : Row => some r.1) = some ∘ (fun r : Row => r.1) from rfl, ← List.map_map, ← List.map_map, rowPut_keys, if_neg (by rw [eS]; simp), List.map_append]
      rw [List.map_cons, hk]
      rfl
    · unfold kPut
      rw [if_neg (by rw [hf]; simp)]
      have e1 : (rowPut rows nk b x).map (fun r => V.ref r.2.1) = rows.map (fun r => V.ref r.2.1) ++ [.ref b] := by
        unfold rowPut
        rw [if_neg (by rw [eS]; simp), List.map_append]
        rfl
      have e2 : (rowPut rows nk b x).map (fun r => r.2.2) = rows.map (fun r => r.2.2) ++ [x] := by
        unfold rowPut
        rw [if_neg (by rw [eS]; simp), List.map_append]
        rfl
      rw [e1, e2]
      have := rpk_snoc rk rv hrp
      rwa [List.append_nil] at this
end
section
variable {K : PySem.W.Frag} {S : Option (Addr × Addr)}
def dDictX (m : DM) : DM := fun ρ R => m ρ fun d => ∃ kvs : List (D × D), d = .list (kvs.map fun p => .tuple [p.1, p.2]) ∧ kvs ≠ [] ∧ (∀ p ∈ kvs, KeyT p.1 ∧ solid p.2 = true) ∧ kvs.length ≤ 10000000 ∧ R (.dict (kMerge kvs))
end
/-! ### merged typed pairs -/
section
variable {α β : Type} [DecidableEq α] {f : α → D} {g : β → D}
def aMerge (xs : List (α × β)) : List (α × β) := xs.foldl (fun acc p => aPut acc p.1 p.2) []
theorem aMerge_keys (xs : List (α × β)) : ((aMerge xs).map (·.1)).Nodup ∧ ∀ a, a ∈ (aMerge xs).map (·.1) ↔ a ∈ xs.map (·.1) := by
  have : ∀ (xs acc : List (α × β)), (acc.map (·.1)).Nodup → ((xs.foldl (fun acc p => aPut acc p.1 p.2) acc).map (·.1)).Nodup ∧ ∀ a, a ∈ (xs.foldl (fun acc p => aPut acc p.1 p.2) acc).map (·.1) ↔ a ∈ acc.map (·.1) ∨ a ∈ xs.map (·.1) := fun xs => by
    induction xs with
    | nil => exact fun acc h => ⟨h, fun a => by simp⟩
    | cons p xs ih =>
      intro acc h
      obtain ⟨h1, h2⟩ := ih (aPut acc p.1 p.2) (aPut_nodup h _ _)
      refine ⟨h1, fun a => ?_⟩
      rw [List.foldl_cons, h2 a, aPut_keys, List.map_cons, List.mem_cons]
      split
      · rename_i hm
        constructor
        · rintro (z | z)
          · exact .inl z
          · exact .inr (.inr z)
        · rintro (z | rfl | z)
          · exact .inl z
          · exact .inl hm
          · exact .inr z
      · rw [List.mem_append, List.mem_singleton, or_assoc]
  have h := this xs [] List.nodup_nil
  exact ⟨h.1, fun a => by
    have := h.2 a
    exact this.trans (by simp)⟩
end
end Z
set_option Elab.async false
set_option linter.all false
set_option maxRecDepth 100000
set_option maxHeartbeats 4000000
/-! Z41: sorted of lists that never change. -/
namespace Z
open PySem PySem.Spec PyProof.Rows L2
section
variable {K : PySem.W.Frag} {S : Option (Addr × Addr)}
def fSortedF (b : Bool) : List D → (D → Prop) → Prop := fun ds R => match ds with
  | [d] => ∃ xs, IsL d xs ∧ solids xs = true ∧ SortOk xs ∧ R (.list (sortD b xs))
  | _ => False
end
end Z
set_option Elab.async false
set_option linter.all false
set_option maxHeartbeats 1000000
/-! G27: how many unlike lots of ends there are. Plain Lean. -/
set_option Elab.async false
set_option linter.all false
set_option maxHeartbeats 1000000
/-! G28: lots of ends, sorted. Plain Lean. -/
set_option Elab.async false
set_option linter.all false
set_option maxRecDepth 100000
set_option maxHeartbeats 4000000
/-! Z42: sorted of lists of one item at most, whatever it is. -/
namespace Z
open PySem PySem.Spec PyProof.Rows L2
section
variable {K : PySem.W.Frag} {S : Option (Addr × Addr)}
/-- sorted of a list of either kind; of one item at most: whatever it is -/
def fSortedW : List D → (D → Prop) → Prop := fun ds R => match ds with
  | [d] => ∃ xs, IsL d xs ∧ solids xs = true ∧ ((SortOk xs ∧ R (.list (sortD false xs))) ∨ (xs.length ≤ 1 ∧ R (.list xs)))
  | _ => False
end
end Z
set_option Elab.async false
set_option linter.all false
set_option maxRecDepth 100000
set_option maxHeartbeats 4000000
/-! Z43: itertools.combinations(xs, r), at the library's level. -/
set_option Elab.async false
set_option linter.all false
set_option maxRecDepth 100000
set_option maxHeartbeats 4000000
/-! Z44: itertools.combinations(xs, r) over the layer. -/
namespace Z
open PySem PySem.Spec PyProof.Rows L2
/-! ### the lots in order -/
/-- the ways to pick r of them, in order -/
def picks {α : Type} : List α → Nat → List (List α)
  | _, 0 => [[]]
  | [], _ + 1 => []
  | x :: xs, r + 1 => (picks xs r).map (x :: ·) ++ picks xs (r + 1)
section
variable {K : PySem.W.Frag} {S : Option (Addr × Addr)}
/-- combinations -/
def combD (ds : List D) (r : Nat) : List D := (picks ds r).map .tuple
def dCmbR (m1 m2 : DM) : DMs := fun ρ R => m1 ρ fun d => asI d fun n => (0 ≤ n ∧ n ≤ 100000) ∧ m2 ρ fun e => asI e fun r => (0 ≤ r ∧ r ≤ 100000) ∧ R (combD (rangeD 0 n.toNat 1) r.toNat)
def dCmbL (ms : DMs) : DMs := fun ρ R => ms ρ fun ds => match ds with
  | [.list xs, .int r] => (0 ≤ r ∧ r ≤ 100000) ∧ R (combD xs r.toNat)
  | [.tuple xs, .int r] => (0 ≤ r ∧ r ≤ 100000) ∧ R (combD xs r.toNat)
  | _ => False
end
end Z
set_option Elab.async false
set_option linter.all false
set_option maxRecDepth 100000
set_option maxHeartbeats 4000000
/-! G29: base lots, their changes. -/
namespace Z
open PySem L2
variable {n : Nat} {B : List (List Bool)} {P Q : List Nat}
/-! ### lots as data -/
def lotD (P : List Nat) : D := .tuple (P.map natD)
end Z
set_option Elab.async false
set_option linter.all false
set_option maxRecDepth 100000
set_option maxHeartbeats 4000000
/-! G30: loops. -/
namespace Z
open PySem L2
variable {n : Nat} {B : List (List Bool)} {P Q : List Nat}
/-! ### lots, sorted -/
def keyL (P : List Nat) : List Int := P.map fun (p : Nat) => ((p : Nat) : Int)
/-! ### all loops -/
end Z
set_option Elab.async false
set_option linter.all false
set_option maxRecDepth 100000
set_option maxHeartbeats 4000000
/-! G31: rows of numbers below p; spans. Plain Lean. -/
namespace Z
open PySem L2
/-- entry -/
def en (v : List Int) (i : Nat) : Int := v.getD i 0
/-- a row of m numbers below p -/
def Vec (p : Int) (m : Nat) (v : List Int) : Prop := v.length = m ∧ ∀ x ∈ v, 0 ≤ x ∧ x < p
/-- c times b and v -/
def axp (p c : Int) (b v : List Int) : List Int := (b.zip v).map fun q => (c * q.1 + q.2) % p
theorem axp_len {p c : Int} {b v : List Int} {m : Nat} (h : b.length = m) (k : v.length = m) : (axp p c b v).length = m := by
  unfold axp
  rw [List.length_map, List.length_zip, h, k]
  omega
theorem en_axp {p c : Int} {b v : List Int} {m i : Nat} (h : b.length = m) (k : v.length = m) (hi : i < m) : en (axp p c b v) i = (c * en b i + en v i) % p := by
  unfold en axp
  have h1 : i < b.length := by omega
  have h2 : i < v.length := by omega
  rw [List.getD_eq_getElem?_getD, List.getD_eq_getElem?_getD, List.getD_eq_getElem?_getD, List.getElem?_map, List.getElem?_eq_getElem h1, List.getElem?_eq_getElem h2, List.getElem?_eq_getElem (by rw [List.length_zip]; omega)]
  simp
theorem vec_ext {p : Int} {m : Nat} {a b : List Int} (ha : Vec p m a) (hb : Vec p m b) (h : ∀ i, i < m → en a i % p = en b i % p) : a = b := by
  refine List.ext_getElem (by rw [ha.1, hb.1]) fun i h1 h2 => ?_
  have e := h i (by rw [← ha.1]; exact h1)
  unfold en at e
  rw [List.getD_eq_getElem?_getD, List.getD_eq_getElem?_getD, List.getElem?_eq_getElem h1, List.getElem?_eq_getElem h2] at e
  have x := ha.2 _ (List.getElem_mem h1)
  have y := hb.2 _ (List.getElem_mem h2)
  simp only [Option.getD_some] at e
  rwa [Int.emod_eq_of_lt x.1 x.2, Int.emod_eq_of_lt y.1 y.2] at e
theorem vec_axp {p c : Int} {m : Nat} {b v : List Int} (hp : 0 < p) (hb : b.length = m) (hv : v.length = m) : Vec p m (axp p c b v) := by
  refine ⟨axp_len hb hv, fun x hx => ?_⟩
  unfold axp at hx
  obtain ⟨q, _, rfl⟩ := List.mem_map.mp hx
  exact ⟨Int.emod_nonneg _ (by omega), Int.emod_lt_of_pos _ hp⟩
def zer (m : Nat) : List Int := List.replicate m 0
theorem zer_len (m : Nat) : (zer m).length = m := List.length_replicate ..
theorem en_zer (m i : Nat) : en (zer m) i = 0 := by
  unfold en zer
  rw [List.getD_eq_getElem?_getD, List.getElem?_replicate]
  by_cases h : i < m <;> simp [h]
theorem vec_zer {p : Int} (hp : 0 < p) (m : Nat) : Vec p m (zer m) := ⟨zer_len m, fun x hx => by rw [List.eq_of_mem_replicate hx]; exact ⟨Int.le_refl _, hp⟩⟩
/-- what S spans -/
inductive Spn (p : Int) (m : Nat) (S : List (List Int)) : List Int → Prop
  | zero : Spn p m S (zer m)
  | add {b v : List Int} (c : Int) : b ∈ S → Spn p m S v → Spn p m S (axp p c b v)
def VecS (p : Int) (m : Nat) (S : List (List Int)) : Prop := ∀ b ∈ S, Vec p m b
section
variable {p : Int} {m : Nat} {S T : List (List Int)}
theorem Spn.vec (hp : 0 < p) (hS : VecS p m S) {v : List Int} (s : Spn p m S v) : Vec p m v := by
  induction s with
  | zero => exact vec_zer hp m
  | add c hb _ ih => exact vec_axp hp (hS _ hb).1 ih.1
theorem axp_zero (hp : 0 < p) {v : List Int} (hv : Vec p m v) {b : List Int} (hb : b.length = m) {c : Int} (hc : c % p = 0) : axp p c b v = v := vec_ext (vec_axp hp hb hv.1) hv fun i hi => by
  rw [en_axp hb hv.1 hi, Int.emod_emod_of_dvd _ (Int.dvd_refl _), Int.add_emod, Int.mul_emod, hc]
  simp
theorem Spn.mono (h : ∀ b ∈ S, b ∈ T) {v : List Int} (s : Spn p m S v) : Spn p m T v := by
  induction s with
  | zero => exact .zero
  | add c hb _ ih => exact .add c (h _ hb) ih
theorem Spn.comb (hp : 0 < p) (hS : VecS p m S) (c : Int) {u v : List Int} (su : Spn p m S u) (sv : Spn p m S v) : Spn p m S (axp p c u v) := by
  induction su with
  | zero =>
    have e : axp p c (zer m) v = v := vec_ext (vec_axp hp (zer_len m) (sv.vec hp hS).1) (sv.vec hp hS) fun i hi => by
      rw [en_axp (zer_len m) (sv.vec hp hS).1 hi, en_zer, Int.mul_zero, Int.zero_add, Int.emod_emod_of_dvd _ (Int.dvd_refl _)]
    rw [e]
    exact sv
  | @add b w d hb sw ih =>
    have lb := (hS b hb).1
    have lw := (sw.vec hp hS).1
    have lv := (sv.vec hp hS).1
    have e : axp p c (axp p d b w) v = axp p (c * d) b (axp p c w v) := by
      refine vec_ext (vec_axp hp (axp_len lb lw) lv) (vec_axp hp lb (axp_len lw lv)) fun i hi => ?_
      rw [en_axp (axp_len lb lw) lv hi, en_axp lb lw hi, en_axp lb (axp_len lw lv) hi, en_axp lw lv hi]
      simp only [Int.emod_emod_of_dvd _ (Int.dvd_refl _)]
      rw [Int.add_emod, Int.mul_emod, Int.emod_emod_of_dvd _ (Int.dvd_refl _), ← Int.mul_emod, ← Int.add_emod, Int.add_emod (c * d * en b i), Int.emod_emod_of_dvd _ (Int.dvd_refl _), ← Int.add_emod]
      congr 1
      rw [Int.mul_add, Int.mul_assoc, Int.add_assoc]
    rw [e]
    exact .add _ hb ih
theorem Spn.self (hp : 0 < p) (hS : VecS p m S) {b : List Int} (hb : b ∈ S) : Spn p m S b := by
  have e : axp p 1 b (zer m) = b := vec_ext (vec_axp hp (hS b hb).1 (zer_len m)) (hS b hb) fun i hi => by
    rw [en_axp (hS b hb).1 (zer_len m) hi, en_zer, Int.one_mul, Int.add_zero, Int.emod_emod_of_dvd _ (Int.dvd_refl _)]
  have := Spn.add (m := m) (p := p) 1 hb .zero
  rwa [e] at this
theorem Spn.trans (hp : 0 < p) (hT : VecS p m T) (h : ∀ b ∈ S, Spn p m T b) {v : List Int} (s : Spn p m S v) : Spn p m T v := by
  induction s with
  | zero => exact .zero
  | add c hb _ ih => exact Spn.comb hp hT c (h _ hb) ih
/-- a row more: what it spans is a row of the old and a multiple of the new one -/
theorem Spn.split (hp : 0 < p) (hS : VecS p m S) {u : List Int} (hu : Vec p m u) {v : List Int} (s : Spn p m (u :: S) v) : ∃ (c : Int) (w : List Int), Spn p m S w ∧ v = axp p c u w := by
  have hU : VecS p m (u :: S) := fun b hb => by
    rcases List.mem_cons.mp hb with rfl | hb
    · exact hu
    · exact hS b hb
  induction s with
  | zero => exact ⟨0, zer m, .zero, (axp_zero hp (vec_zer hp m) hu.1 (Int.zero_emod _)).symm⟩
  | @add b v d hb sv ih =>
    obtain ⟨c, w, sw, rfl⟩ := ih
    have lw := (sw.vec hp hS)
    rcases List.mem_cons.mp hb with rfl | hb
    · refine ⟨d + c, w, sw, vec_ext (vec_axp hp hu.1 (axp_len hu.1 lw.1)) (vec_axp hp hu.1 lw.1) fun i hi => ?_⟩
      rw [en_axp hu.1 (axp_len hu.1 lw.1) hi, en_axp hu.1 lw.1 hi, en_axp hu.1 lw.1 hi]
      simp only [Int.emod_emod_of_dvd _ (Int.dvd_refl _)]
      rw [Int.add_emod (d * en b i), Int.emod_emod_of_dvd _ (Int.dvd_refl _), ← Int.add_emod, Int.add_mul, Int.add_assoc]
    · have lb := (hS b hb)
      refine ⟨c, axp p d b w, .add d hb sw, vec_ext (vec_axp hp lb.1 (axp_len hu.1 lw.1)) (vec_axp hp hu.1 (axp_len lb.1 lw.1)) fun i hi => ?_⟩
      rw [en_axp lb.1 (axp_len hu.1 lw.1) hi, en_axp hu.1 lw.1 hi, en_axp hu.1 (axp_len lb.1 lw.1) hi, en_axp lb.1 lw.1 hi]
      simp only [Int.emod_emod_of_dvd _ (Int.dvd_refl _)]
      rw [Int.add_emod (d * en b i), Int.emod_emod_of_dvd _ (Int.dvd_refl _), ← Int.add_emod, Int.add_emod (c * en u i), Int.emod_emod_of_dvd _ (Int.dvd_refl _), ← Int.add_emod]
      congr 1
      omega
/-- every number but 0 has one that makes 1 -/
def Inv1 (p : Int) : Prop := ∀ c : Int, c % p ≠ 0 → ∃ d : Int, (d * c) % p = 1
end
/-! ### ranks: how many rows are not spanned by those before them -/
section
variable {p : Int} {m : Nat} {S T : List (List Int)}
open Classical in
noncomputable def rkS (p : Int) (m : Nat) : List (List Int) → Nat
  | [] => 0
  | u :: S => rkS p m S + if Spn p m S u then 0 else 1
end
end Z
set_option Elab.async false
set_option linter.all false
set_option maxRecDepth 100000
set_option maxHeartbeats 4000000
/-! G32: heads of rows of numbers below p. Plain Lean. -/
namespace Z
open PySem L2
def stpM (p : Int) (l : List Int) (a : Nat × List Int) : List Int := (l.zip a.2).map fun q => (q.1 - en l a.1 * q.2) % p
def redM (p : Int) (H : List (Nat × List Int)) (v : List Int) : List Int := H.foldl (stpM p) v
def idxM (v : List Int) : List Nat := (v.zipIdx.filter fun q => q.1 != 0).map (·.2)
def turnM (p : Nat) (c : Int) : List Nat := (List.range p).filter fun x => ((x : Int) * c) % (p : Int) == 1
def addM (p : Nat) (H : List (Nat × List Int)) (v : List Int) : List (Nat × List Int) := match idxM (redM p H v) with
  | [] => H
  | k :: _ => H ++ [(k, (redM p H v).map fun x => (((turnM p (en (redM p H v) k)).getD 0 0 : Nat) * x) % (p : Int))]
section
variable {p : Int} {m : Nat} {X : List (List Int)}
theorem stpM_axp {l : List Int} {a : Nat × List Int} (hp : 0 < p) (hl : l.length = m) (ha : a.2.length = m) : stpM p l a = axp p (-(en l a.1)) a.2 l := by
  unfold stpM axp
  refine List.ext_getElem (by rw [List.length_map, List.length_map, List.length_zip, List.length_zip, hl, ha]) fun i h1 h2 => ?_
  rw [List.getElem_map, List.getElem_map, List.getElem_zip, List.getElem_zip]
  show (_ - _) % p = (_ + _) % p
  congr 1
  simp only []
  rw [Int.neg_mul]
  omega
structure TP (p : Int) (m : Nat) (X : List (List Int)) (H : List (Nat × List Int)) : Prop where
  vec : VecS p m (H.map (·.2))
  one : ∀ a ∈ H, en a.2 a.1 = 1
  low : H.Pairwise fun a b => en b.2 a.1 = 0
  lt : ∀ a ∈ H, a.1 < m
  sp : ∀ v, Spn p m (H.map (·.2)) v ↔ Spn p m X v
  cnt : H.length = rkS p m X
theorem TP.nil (p : Int) (m : Nat) : TP p m [] [] := ⟨fun b hb => (by cases hb), fun a ha => (by cases ha), .nil, fun a ha => (by cases ha), fun v => Iff.rfl, rfl⟩
theorem en_lt {v : List Int} (hv : Vec p m v) (hp : 0 < p) (i : Nat) : 0 ≤ en v i ∧ en v i < p := by
  unfold en
  rw [List.getD_eq_getElem?_getD]
  rcases Nat.lt_or_ge i v.length with h | h
  · rw [List.getElem?_eq_getElem h]
    exact hv.2 _ (List.getElem_mem h)
  · rw [List.getElem?_eq_none h]
    exact ⟨Int.le_refl _, hp⟩
theorem redM_ok (hp : 0 < p) : ∀ (H : List (Nat × List Int)), VecS p m (H.map (·.2)) → (∀ a ∈ H, en a.2 a.1 = 1) → H.Pairwise (fun a b => en b.2 a.1 = 0) → (∀ a ∈ H, a.1 < m) → ∀ v : List Int, Vec p m v →
    Vec p m (redM p H v) ∧ (∀ a ∈ H, en (redM p H v) a.1 = 0) ∧ (∀ i, i < m → (∀ a ∈ H, en a.2 i = 0) → en (redM p H v) i = en v i) ∧ (∀ C, VecS p m C → (∀ a ∈ H, Spn p m C a.2) → (Spn p m C (redM p H v) ↔ Spn p m C v))
  | [], _, _, _, _, v, hv => ⟨hv, fun a ha => (by cases ha), fun i _ _ => rfl, fun C _ _ => Iff.rfl⟩
  | a :: H, l, one, low, lt, v, hv => by
    have low := List.pairwise_cons.mp low
    have va : Vec p m a.2 := l _ (List.mem_cons_self ..)
    have es := stpM_axp (p := p) (l := v) (a := a) hp hv.1 va.1
    have vs : Vec p m (stpM p v a) := by rw [es]; exact vec_axp hp va.1 hv.1
    obtain ⟨h1, h2, h3, h4⟩ := redM_ok hp H (fun b hb => l b (List.mem_cons_of_mem _ hb)) (fun b hb => one b (List.mem_cons_of_mem _ hb)) low.2 (fun b hb => lt b (List.mem_cons_of_mem _ hb)) (stpM p v a) vs
    have e0 : redM p (a :: H) v = redM p H (stpM p v a) := rfl
    rw [e0]
    refine ⟨h1, fun b hb => ?_, fun i hi hz => ?_, fun C hC hH => ?_⟩
    · rcases List.mem_cons.mp hb with rfl | hb
      · rw [h3 b.1 (lt b (List.mem_cons_self ..)) low.1, es, en_axp va.1 hv.1 (lt b (List.mem_cons_self ..)), one b (List.mem_cons_self ..), Int.mul_one, Int.add_comm, Int.add_right_neg]
        exact Int.zero_emod _
      · exact h2 b hb
    · rw [h3 i hi fun b hb => hz b (List.mem_cons_of_mem _ hb), es, en_axp va.1 hv.1 hi, hz a (List.mem_cons_self ..), Int.mul_zero, Int.zero_add]
      have := en_lt hv hp i
      exact Int.emod_eq_of_lt this.1 this.2
    · refine (h4 C hC fun b hb => hH b (List.mem_cons_of_mem _ hb)).trans ?_
      have ha := hH a (List.mem_cons_self ..)
      rw [es]
      constructor
      · intro s
        -- v = (en v a.1) a + that
        have e : v = axp p (en v a.1) a.2 (axp p (-(en v a.1)) a.2 v) := vec_ext hv (vec_axp hp va.1 (axp_len va.1 hv.1)) fun i hi => by
          rw [en_axp va.1 (axp_len va.1 hv.1) hi, en_axp va.1 hv.1 hi, Int.emod_emod_of_dvd _ (Int.dvd_refl _), Int.add_emod (en v a.1 * en a.2 i), Int.emod_emod_of_dvd _ (Int.dvd_refl _), ← Int.add_emod, Int.neg_mul]
          congr 1
          omega
        rw [e]
        exact Spn.comb hp hC _ ha s
      · exact fun s => Spn.comb hp hC _ ha s
theorem zero_low (hp : 1 < p) : ∀ (H : List (Nat × List Int)), VecS p m (H.map (·.2)) → (∀ a ∈ H, en a.2 a.1 = 1) → H.Pairwise (fun a b => en b.2 a.1 = 0) → (∀ a ∈ H, a.1 < m) → ∀ w : List Int, Spn p m (H.map (·.2)) w → (∀ a ∈ H, en w a.1 = 0) → w = zer m
  | [], _, _, _, _, w, s, _ => by
    cases s with
    | zero => rfl
    | add c hb _ => cases hb
  | a :: H, l, one, low, lt, w, s, z => by
    have hp0 : 0 < p := by omega
    have low := List.pairwise_cons.mp low
    have va : Vec p m a.2 := l _ (List.mem_cons_self ..)
    have lH : VecS p m (H.map (·.2)) := fun b hb => l b (List.mem_cons_of_mem _ hb)
    obtain ⟨c, u, su, e⟩ := s.split hp0 lH va
    have vu := su.vec hp0 lH
    have zl : ∀ (T : List (Nat × List Int)) (q : Nat), q < m → VecS p m (T.map (·.2)) → (∀ b ∈ T, en b.2 q = 0) → ∀ x, Spn p m (T.map (·.2)) x → en x q = 0 := fun T q hq vT hT x sx => by
      induction sx with
      | zero => exact en_zer m q
      | @add b v d hb sv ih =>
        obtain ⟨t, ht, rfl⟩ := List.mem_map.mp hb
        rw [en_axp (vT _ hb).1 (sv.vec hp0 vT).1 hq, hT t ht, ih, Int.mul_zero, Int.add_zero]
        exact Int.zero_emod _
    have la := lt a (List.mem_cons_self ..)
    have u0 := zl H a.1 la lH low.1 u su
    have z0 := z a (List.mem_cons_self ..)
    rw [e, en_axp va.1 vu.1 la, one a (List.mem_cons_self ..), u0, Int.mul_one, Int.add_zero] at z0
    have ew : w = u := by rw [e, axp_zero hp0 vu va.1 z0]
    rw [ew]
    rw [ew] at z
    exact zero_low hp H lH (fun b hb => one b (List.mem_cons_of_mem _ hb)) low.2 (fun b hb => lt b (List.mem_cons_of_mem _ hb)) u su fun b hb => z b (List.mem_cons_of_mem _ hb)
theorem mem_idxM {v : List Int} {k : Nat} : k ∈ idxM v ↔ k < v.length ∧ en v k ≠ 0 := by
  unfold idxM
  rw [List.mem_map]
  constructor
  · rintro ⟨⟨x, j⟩, h, rfl⟩
    obtain ⟨h1, h2⟩ := List.mem_filter.mp h
    have := List.mem_zipIdx h1
    simp only [Nat.zero_le, Nat.zero_add, true_and, Nat.sub_zero] at this
    obtain ⟨hj, hx⟩ := this
    refine ⟨hj, ?_⟩
    unfold en
    rw [List.getD_eq_getElem?_getD, List.getElem?_eq_getElem hj]
    simp only [Option.getD_some]
    rw [← hx]
    simpa using h2
  · rintro ⟨h1, h2⟩
    refine ⟨(v[k], k), List.mem_filter.mpr ⟨?_, ?_⟩, rfl⟩
    · rw [List.mem_iff_getElem]
      exact ⟨k, by rw [List.length_zipIdx]; exact h1, by rw [List.getElem_zipIdx]; simp⟩
    · unfold en at h2
      rw [List.getD_eq_getElem?_getD, List.getElem?_eq_getElem h1] at h2
      simpa using h2
theorem vec_cons {v : List Int} (hX : VecS p m X) (hv : Vec p m v) : VecS p m (v :: X) := fun b hb => by
  rcases List.mem_cons.mp hb with rfl | hb
  · exact hv
  · exact hX b hb
theorem rkS_in {v : List Int} (h : Spn p m X v) : rkS p m (v :: X) = rkS p m X := by
  unfold rkS
  rw [if_pos h]
  cases X <;> rfl
theorem rkS_out {v : List Int} (h : ¬ Spn p m X v) : rkS p m (v :: X) = rkS p m X + 1 := by
  conv => lhs; unfold rkS
  rw [if_neg h]
/-- a row of numbers, times one -/
theorem scale_axp {l : List Int} {t : Int} (hp : 0 < p) (hl : l.length = m) : (l.map fun x => (t * x) % p) = axp p t l (zer m) := by
  unfold axp
  refine List.ext_getElem (by rw [List.length_map, List.length_map, List.length_zip, zer_len, hl]; omega) fun i h1 h2 => ?_
  rw [List.getElem_map, List.getElem_map, List.getElem_zip]
  show _ = (_ + (zer m)[i]'_) % p
  have : (zer m)[i]'(by rw [zer_len, ← hl]; simpa using h1) = 0 := by simp [zer]
  simp only [this, Int.add_zero]
/-- turnM finds one -/
theorem turn_ok {q : Nat} (ip : Inv1 q) (hq : 1 < q) {c : Int} (h : c % (q : Int) ≠ 0) : ∃ t : Nat, (turnM q c).getD 0 0 = t ∧ t < q ∧ ((t : Int) * c) % (q : Int) = 1 ∧ turnM q c ≠ [] := by
  obtain ⟨d, hd⟩ := ip c h
  have d0 := Int.emod_nonneg d (show (q : Int) ≠ 0 by omega)
  have d1 := Int.emod_lt_of_pos d (show (0 : Int) < q by omega)
  have mem : (d % (q : Int)).toNat ∈ turnM q c := List.mem_filter.mpr ⟨List.mem_range.mpr (by omega), by
    rw [beq_iff_eq, Int.toNat_of_nonneg d0, Int.mul_emod, Int.emod_emod_of_dvd _ (Int.dvd_refl _), ← Int.mul_emod]
    exact hd⟩
  match hm : turnM q c, mem with
  | t :: r, _ =>
    have ht : t ∈ turnM q c := by rw [hm]; exact List.mem_cons_self ..
    obtain ⟨h1, h2⟩ := List.mem_filter.mp ht
    exact ⟨t, rfl, List.mem_range.mp h1, beq_iff_eq.mp h2, fun z => by cases z⟩
theorem TP.add {q : Nat} (hq : 1 < q) (ip : Inv1 q) {H : List (Nat × List Int)} (h : TP q m X H) (hX : VecS q m X) {v : List Int} (hv : Vec q m v) : TP q m (v :: X) (addM q H v) := by
  have hp0 : (0 : Int) < q := by omega
  have hp1 : (1 : Int) < q := by omega
  obtain ⟨h1, h2, h3, h4⟩ := redM_ok hp0 H h.vec h.one h.low h.lt v hv
  have hvX := vec_cons hX hv
  have inX : ∀ a ∈ H, Spn q m (v :: X) a.2 := fun a ha => ((h.sp _).mp (Spn.self hp0 h.vec (List.mem_map.mpr ⟨a, ha, rfl⟩))).mono fun b hb => List.mem_cons_of_mem _ hb
  have sv : Spn q m (v :: X) (redM q H v) := (h4 _ hvX inX).mpr (Spn.self hp0 hvX (List.mem_cons_self ..))
  have inH : ∀ a ∈ H, Spn q m (H.map (·.2)) a.2 := fun a ha => Spn.self hp0 h.vec (List.mem_map.mpr ⟨a, ha, rfl⟩)
  have iff0 : Spn q m X v ↔ redM q H v = zer m := by
    rw [← h.sp, ← h4 _ h.vec inH]
    exact ⟨fun s => zero_low hp1 H h.vec h.one h.low h.lt _ s h2, fun e => by rw [e]; exact .zero⟩
  unfold addM
  cases e : idxM (redM q H v) with
  | nil =>
    have z : redM q H v = zer m := vec_ext h1 (vec_zer hp0 m) fun i hi => by
      rw [en_zer]
      have : ¬ en (redM q H v) i ≠ 0 := fun c => by
        have := mem_idxM.mpr ⟨by rw [h1.1]; exact hi, c⟩
        rw [e] at this
        cases this
      rw [Classical.not_not.mp this]
    have sX := iff0.mpr z
    refine ⟨h.vec, h.one, h.low, h.lt, fun w => (h.sp w).trans ⟨fun s => s.mono fun b hb => List.mem_cons_of_mem _ hb, fun s => s.trans hp0 hX fun b hb => ?_⟩, by rw [rkS_in sX]; exact h.cnt⟩
    rcases List.mem_cons.mp hb with rfl | hb
    · exact sX
    · exact .self hp0 hX hb
  | cons k more =>
    obtain ⟨hk, nk⟩ := mem_idxM.mp (by rw [e]; exact List.mem_cons_self .. : k ∈ idxM (redM q H v))
    have hkm : k < m := by rw [← h1.1]; exact hk
    have rng := en_lt h1 hp0 k
    obtain ⟨t, et, lt, ht, _⟩ := turn_ok ip hq (c := en (redM q H v) k) (by rw [Int.emod_eq_of_lt rng.1 rng.2]; exact nk)
    show TP (q : Int) m (v :: X) (H ++ [(k, (redM q H v).map fun x => (((turnM q (en (redM q H v) k)).getD 0 0 : Nat) * x) % (q : Int))])
    rw [et, scale_axp hp0 h1.1]
    have vn : Vec q m (axp q t (redM q H v) (zer m)) := vec_axp hp0 h1.1 (zer_len m)
    have en1 : ∀ i, i < m → en (axp q t (redM q H v) (zer m)) i = (t * en (redM q H v) i) % q := fun i hi => by rw [en_axp h1.1 (zer_len m) hi, en_zer, Int.add_zero]
    have nsp : ¬ Spn q m X v := fun s => by
      rw [iff0.mp s, en_zer] at nk
      exact nk rfl
    have vA : VecS q m ((H ++ [(k, axp q t (redM q H v) (zer m))]).map (·.2)) := fun b hb => by
      rw [List.map_append] at hb
      rcases List.mem_append.mp hb with hb | hb
      · exact h.vec b hb
      · rw [List.mem_singleton.mp hb]; exact vn
    have subA : ∀ b ∈ H.map (·.2), b ∈ (H ++ [(k, axp q t (redM q H v) (zer m))]).map (·.2) := fun b hb => by rw [List.map_append]; exact List.mem_append_left _ hb
    have sn : Spn q m ((H ++ [(k, axp q t (redM q H v) (zer m))]).map (·.2)) (axp q t (redM q H v) (zer m)) := .self hp0 vA (by simp)
    -- the reduced row is spanned by the scaled one
    have back : redM q H v = axp q (en (redM q H v) k) (axp q t (redM q H v) (zer m)) (zer m) := vec_ext h1 (vec_axp hp0 vn.1 (zer_len m)) fun i hi => by
      rw [en_axp vn.1 (zer_len m) hi, en1 i hi, en_zer, Int.add_zero, Int.emod_emod_of_dvd _ (Int.dvd_refl _), Int.mul_emod, Int.emod_emod_of_dvd _ (Int.dvd_refl _), ← Int.mul_emod, ← Int.mul_assoc, Int.mul_comm (en (redM q H v) k), Int.mul_emod, ht, Int.one_mul, Int.emod_emod_of_dvd _ (Int.dvd_refl _)]
    have sA : Spn q m ((H ++ [(k, axp q t (redM q H v) (zer m))]).map (·.2)) (redM q H v) := by
      have c := Spn.comb hp0 vA (en (redM q H v) k) sn .zero
      rw [← back] at c
      exact c
    have sv2 : Spn q m ((H ++ [(k, axp q t (redM q H v) (zer m))]).map (·.2)) v := (h4 _ vA fun a ha => (inH a ha).mono subA).mp sA
    refine ⟨vA, fun a ha => ?_, List.pairwise_append.mpr ⟨h.low, List.pairwise_singleton _ _, fun a ha b hb => ?_⟩, fun a ha => ?_, fun w => ⟨fun s => s.trans hp0 hvX fun b hb => ?_, fun s => s.trans hp0 vA fun b hb => ?_⟩, by rw [rkS_out nsp, List.length_append, List.length_singleton, h.cnt]⟩
    · rcases List.mem_append.mp ha with ha | ha
      · exact h.one a ha
      · rw [List.mem_singleton.mp ha]
        show en (axp q t (redM q H v) (zer m)) k = 1
        rw [en1 k hkm]
        exact ht
    · rw [List.mem_singleton.mp hb]
      show en (axp q t (redM q H v) (zer m)) a.1 = 0
      rw [en1 _ (h.lt a ha), h2 a ha, Int.mul_zero]
      exact Int.zero_emod _
    · rcases List.mem_append.mp ha with ha | ha
      · exact h.lt a ha
      · rw [List.mem_singleton.mp ha]; exact hkm
    · rw [List.map_append] at hb
      rcases List.mem_append.mp hb with hb | hb
      · obtain ⟨a, ha, rfl⟩ := List.mem_map.mp hb
        exact inX a ha
      · rw [List.mem_singleton.mp hb]
        exact Spn.comb hp0 hvX _ sv .zero
    · rcases List.mem_cons.mp hb with rfl | hb
      · exact sv2
      · exact ((h.sp b).mpr (.self hp0 hX hb)).mono subA
/-! ### the ranks of lots of columns -/
end
end Z
set_option Elab.async false
set_option linter.all false
set_option maxRecDepth 100000
set_option maxHeartbeats 4000000
/-! Z45: a loop that looks for the first thing of a kind and returns it. -/
namespace Z
open PySem PySem.Spec PyProof.Rows L2
section
variable {K : PySem.W.Frag} {S : Option (Addr × Addr)}
/-- a starred list or tuple of things without lists -/
def dStarS (m : DM) (ms : DMs) : DMs := fun ρ R => m ρ fun d => asSeq d fun xs => solids xs = true ∧ ms ρ fun ds => R (xs ++ ds)
end
end Z
set_option Elab.async false
set_option linter.all false
set_option maxRecDepth 100000
set_option maxHeartbeats 4000000
/-! Z46: x.bit_length(), x ^= e, a copy of a dict with keys that are ints or texts. -/
namespace Z
open PySem PySem.Spec PyProof.Rows L2
section
variable {K : PySem.W.Frag} {S : Option (Addr × Addr)}
def dBits (m : DM) : DM := fun ρ R => m ρ fun d => asI d fun i => R (.int ((Builtin.Int.intBits i : Nat) : Int))
/-- dict(d), its keys ints or texts, its values without lists of their own -/
def fDictCp : List D → (D → Prop) → Prop := fun ds R => match ds with
  | [d] => ∃ kvs, IsDc d kvs ∧ (∃ kk : List Key, kvs.map (·.1) = kk.map keyD) ∧ (∀ p ∈ kvs, solid p.2 = true) ∧ R (.dict kvs)
  | _ => False
end
end Z
set_option Elab.async false
set_option linter.all false
set_option maxRecDepth 100000
set_option maxHeartbeats 4000000
/-! Z47: dict displays whose keys are unlike ints or texts, whose values hold no lists of their own. -/
namespace Z
open PySem PySem.Spec PyProof.Rows L2
section
variable {K : PySem.W.Frag} {S : Option (Addr × Addr)}
def dPairs (ρ : En) : List (DM × DM) → (List (D × D) → Prop) → Prop
  | [], R => R []
  | (mk, mv) :: ms, R => mk ρ fun k => (∃ kk : Key, k = keyD kk) ∧ mv ρ fun v => solid v = true ∧ dPairs ρ ms fun ps => R ((k, v) :: ps)
/-- a dict display -/
def dDisp (ms : List (DM × DM)) : DM := fun ρ R => dPairs ρ ms fun ps => ∃ kk : List Key, ps.map (·.1) = kk.map keyD ∧ kk.Nodup ∧ ps.length ≤ 15 ∧ R (.dict ps)
/-- x = y, y an own list or dict that is not asked for again: what y held is x's own now -/
def sMove (i j : Nat) : DMS := fun ρ R => ∃ d, ρ[j]? = some (.own d) ∧ R.nx ((hide [j] ρ).set i (.own d))
theorem ds_move (i j : Nat) : DS K S (tAsg (tVar j) (gName i)) (sMove i j) [i, j] := fun G H ρ σ fps E R hm D d => by
  obtain ⟨x, hj, hR⟩ := hm
  obtain ⟨v, ev, r, n, nd, g⟩ := E.ok j _ hj
  have jl : j < ρ.length := (List.getElem?_eq_some_iff.mp hj).1
  have E1 := E.hideF [j]
  have hlen : (hide [j] ρ).length = ρ.length := by rw [← E1.len, E.len]
  refine ⟨v, ev, d.nx _ _ H _ hR (E1.setOwn r n nd g i fun k hk hne a ha hb => ?_) ⟨by simp, fun k hk => List.getElem?_set_ne fun e => hk (by simp [e])⟩⟩
  by_cases c : k ∈ [j]
  · simp only [if_pos c] at hb
    cases hb
  · simp only [if_neg c] at hb
    have ne : j ≠ k := fun z => c (by simp [z])
    exact E.sep j k ne jl (by rw [← hlen]; exact hk) (by rw [hj]; trivial) a ha hb
end
end Z
set_option Elab.async false
set_option linter.all false
set_option maxRecDepth 100000
set_option maxHeartbeats 4000000
/-! Z48: min of a list of any data that can be compared. -/
namespace Z
open PySem PySem.Spec PyProof.Rows L2 PySem.W
section
variable {K : PySem.W.Frag} {S : Option (Addr × Addr)}
def fMinD : List D → (D → Prop) → Prop := fun ds R => match ds with
  | [.list (x :: r)] => solids (x :: r) = true ∧ PyData.plainAll (x :: r) = true ∧ AlikeAll (x :: r) ∧ PyData.depthAll (x :: r) ≤ 50 ∧ R (minD x r)
  | _ => False
end
end Z
set_option Elab.async false
set_option linter.all false
set_option maxRecDepth 100000
set_option maxHeartbeats 4000000
/-! G33: anything as a rank table: its first fault. -/
set_option Elab.async false
set_option linter.all false
set_option maxRecDepth 100000
set_option maxHeartbeats 4000000
/-! G34: code papers of a table: the told base, the first four, a paper. -/
set_option Elab.async false
set_option linter.all false
set_option maxRecDepth 100000
set_option maxHeartbeats 4000000
/-! G35: rows told as numbers, kept by their greatest bit: a base of what they span; ranks of all lots of places. -/
namespace Z
open PySem PySem.Spec PyProof.Rows L2
section
variable {m : Nat} {H X : List (List Bool)}
/-! ### bases with unlike greatest bits -/
structure DH (m : Nat) (H : List (List Bool)) : Prop where
  len : Len m H
  any : ∀ h ∈ H, true ∈ h
  nd : (H.map top).Nodup
theorem DH.nil : DH m [] := ⟨fun h z => (by cases z), fun h z => (by cases z), .nil⟩
theorem DH.tail {h : List Bool} (d : DH m (h :: H)) : DH m H := ⟨fun x hx => d.len x (List.mem_cons_of_mem _ hx), fun x hx => d.any x (List.mem_cons_of_mem _ hx), (List.nodup_cons.mp d.nd).2⟩
theorem DH.add (d : DH m H) {v : List Bool} (hv : true ∈ v) (lv : v.length = m) (h : top v ∉ H.map top) : DH m (H ++ [v]) := by
  refine ⟨fun x hx => ?_, fun x hx => ?_, ?_⟩
  · rcases List.mem_append.mp hx with z | z
    · exact d.len x z
    · rw [List.mem_singleton.mp z]; exact lv
  · rcases List.mem_append.mp hx with z | z
    · exact d.any x z
    · rw [List.mem_singleton.mp z]; exact hv
  · rw [List.map_append]
    refine List.nodup_append.mpr ⟨d.nd, List.pairwise_singleton _ _, fun a ha b hb => ?_⟩
    rw [List.map_singleton, List.mem_singleton] at hb
    rintro rfl
    exact h (hb ▸ ha)
/-! ### such a base as a dict -/
def bsK (H : List (List Bool)) : List (Nat × Nat) := H.map fun h => (top h + 1, numB h)
theorem natD_inj : ∀ a b : Nat, natD a = natD b → a = b := fun a b h => by
  have : ((a : Nat) : Int) = ((b : Nat) : Int) := PyData.int.inj h
  omega
theorem bsK_keys (H : List (List Bool)) : (bsK H).map (·.1) = (H.map top).map (· + 1) := by
  unfold bsK
  rw [List.map_map, List.map_map]
  rfl
theorem DH.keys (d : DH m H) : ((bsK H).map (·.1)).Nodup := by
  rw [bsK_keys]
  exact List.pairwise_map.mpr (d.nd.imp fun h e => h (by omega))
theorem keyOk_nat (k : Nat) : KeyOk (natD k) := .inl ⟨.inl ((k : Nat) : Int), rfl⟩
end
end Z
set_option Elab.async false
set_option linter.all false
set_option maxRecDepth 100000
set_option maxHeartbeats 4000000
/-! G36: the least widest and the least total of all orders, lot by lot; bounds of widths. -/
set_option Elab.async false
set_option linter.all false
set_option maxRecDepth 100000
set_option maxHeartbeats 4000000
/-! G37: all orders of places; the least of their greatest widths, and of their sums, are the worths of all lots. -/
set_option Elab.async false
set_option linter.all false
set_option maxRecDepth 100000
set_option maxHeartbeats 4000000
/-! G38: told orders, by the least worths of all lots. -/
set_option Elab.async false
set_option linter.all false
set_option maxRecDepth 100000
set_option maxHeartbeats 4000000
/-! Z49: dict(list of pairs), keys ints or texts, values without lists of their own; len of it; len(set(list of ints)). -/
namespace Z
open PySem PySem.Spec PyProof.Rows L2
section
variable {K : PySem.W.Frag} {S : Option (Addr × Addr)}
/-- pairs as data -/
def kpD (qs : List (Key × D)) : List D := qs.map fun q => .tuple [keyD q.1, q.2]
/-- a dict's items over the layer and over values -/
inductive KvR (c : Zc) (H : Hp) : List (Key × D) → List (Key × V) → Prop
  | nil : KvR c H [] []
  | cons {k : Key} {d : D} {x : V} {qs : List (Key × D)} {vs : List (Key × V)} : Rp c H d x [] → KvR c H qs vs → KvR c H ((k, d) :: qs) ((k, x) :: vs)
theorem KvR.mono {c : Zc} {H H' : Hp} (t : Tk H H') : ∀ {qs : List (Key × D)} {vs : List (Key × V)}, KvR c H qs vs → KvR c H' qs vs
  | _, _, .nil => .nil
  | _, _, .cons r h => .cons (r.mono t _ _ _ fun a ha => by cases ha) (h.mono t)
theorem KvR.keys {c : Zc} {H : Hp} : ∀ {qs : List (Key × D)} {vs : List (Key × V)}, KvR c H qs vs → vs.map (·.1) = qs.map (·.1)
  | _, _, .nil => rfl
  | _, _, .cons _ h => by simp [h.keys]
theorem KvR.app {c : Zc} {H : Hp} : ∀ {qs qs2 : List (Key × D)} {vs vs2 : List (Key × V)}, KvR c H qs vs → KvR c H qs2 vs2 → KvR c H (qs ++ qs2) (vs ++ vs2)
  | _, _, _, _, .nil, h2 => h2
  | _, _, _, _, .cons r h, h2 => .cons r (h.app h2)
theorem KvR.repl {c : Zc} {H : Hp} {k : Key} {d : D} {x : V} (r : Rp c H d x []) : ∀ {qs : List (Key × D)} {vs : List (Key × V)}, KvR c H qs vs → KvR c H (qs.map fun p => if p.1 = k then (p.1, d) else p) (vs.map fun p => if p.1 = k then (p.1, x) else p)
  | _, _, .nil => .nil
  | _, _, .cons (k := k') r' h => by
    simp only [List.map_cons]
    by_cases e : k' = k
    · rw [if_pos e, if_pos e]
      exact .cons r (h.repl r)
    · rw [if_neg e, if_neg e]
      exact .cons r' (h.repl r)
theorem KvR.put {c : Zc} {H : Hp} {k : Key} {d : D} {x : V} (r : Rp c H d x []) {qs : List (Key × D)} {vs : List (Key × V)} (h : KvR c H qs vs) : KvR c H (aPut qs k d) (putK vs k x) := by
  unfold aPut putK
  have e : (aFind qs k).isSome = vs.any fun kv => decide (kv.1 = k) := by
    rw [Bool.eq_iff_iff, aFind_mem, List.any_eq_true, ← h.keys]
    simp [List.mem_map]
  rw [e]
  by_cases z : (vs.any fun kv => decide (kv.1 = k)) = true
  · rw [if_pos z, if_pos z]
    exact h.repl r
  · rw [if_neg z, if_neg z]
    exact h.app (.cons r .nil)
theorem KvR.fold {c : Zc} {H : Hp} : ∀ {more : List (Key × D)} {mv : List (Key × V)} {qs : List (Key × D)} {vs : List (Key × V)}, KvR c H more mv → KvR c H qs vs → KvR c H (more.foldl (fun acc p => aPut acc p.1 p.2) qs) (mergeK vs mv)
  | _, _, _, _, .nil, h => h
  | _, _, _, _, .cons r t, h => t.fold (h.put r)
theorem KvR.merge {c : Zc} {H : Hp} {qs : List (Key × D)} {vs : List (Key × V)} (h : KvR c H qs vs) : KvR c H (aMerge qs) (mergeK [] vs) := h.fold .nil
theorem KvR.rpk {c : Zc} {H : Hp} : ∀ {qs : List (Key × D)} {vs : List (Key × V)}, KvR c H qs vs → Rpk c H (qs.map fun q => (keyD q.1, q.2)) (vs.map fun q => kV q.1) (vs.map (·.2)) []
  | _, _, .nil => by simp [Rpk]
  | _, _, .cons (k := k) r h => by
    simp only [List.map_cons, Rpk]
    refine ⟨_, _, _, _, [], [], rfl, rfl, rfl, ?_, r, h.rpk⟩
    cases k <;> simp [keyD, Rp, kV]
theorem KvR.zip {c : Zc} {H : Hp} : ∀ {qs : List (Key × D)} {vs : List (Key × V)}, KvR c H qs vs → vs = (qs.map (·.1)).zip (vs.map (·.2))
  | _, _, .nil => rfl
  | _, _, .cons r h => by
    simp only [List.map_cons, List.zip_cons_cons]
    rw [← h.zip]
theorem rps_kp {c : Zc} {H : Hp} : ∀ {qs : List (Key × D)} {xs : List V} {fp : List Addr}, (∀ q ∈ qs, solid q.2 = true) → Rps c H (kpD qs) xs fp → ∃ (ps : List Addr) (vs : List (Key × V)), xs = ps.map V.ref ∧ Paired (fun p kv => SqT c.K H p [kV kv.1, kv.2]) ps vs ∧ KvR c H qs vs
  | [], xs, fp, _, h => by
    simp only [kpD, List.map_nil, Rps] at h
    exact ⟨[], [], h.1, .nil, .nil⟩
  | (k, d) :: qs, xs, fp, so, h => by
    simp only [kpD, List.map_cons, Rps] at h
    obtain ⟨x, ys, f1, f2, rfl, rfl, h1, h2⟩ := h
    simp only [Rp, Rps] at h1
    obtain ⟨a, zs, rfl, ha, x1, y1, g1, g2, rfl, rfl, hk, x2, y2, g3, g4, rfl, rfl, hd, rfl, rfl⟩ := h1
    obtain ⟨ps, vs, rfl, hp, hv⟩ := rps_kp (fun q hq => so q (List.mem_cons_of_mem _ hq)) h2
    have z := hd.solid _ _ _ (so (k, d) (List.mem_cons_self ..))
    subst z
    have ek : x1 = kV k := by
      cases k <;> simp only [keyD, Rp] at hk <;> rw [hk.1] <;> rfl
    subst ek
    exact ⟨a :: ps, (k, x2) :: vs, rfl, .cons ha.t hp, .cons hd hv⟩
/-- dict(list of pairs) -/
def fDictP : List D → (D → Prop) → Prop := fun ds R => match ds with
  | [d] => ∃ qs : List (Key × D), d = .list (kpD qs) ∧ (∀ q ∈ qs, solid q.2 = true) ∧ R (.dict ((aMerge qs).map fun q => (keyD q.1, q.2)))
  | _ => False
theorem rp_kp {c : Zc} {H : Hp} {qs : List (Key × D)} (so : ∀ q ∈ qs, solid q.2 = true) {v : V} {fp : List Addr} (r : Rp c H (.list (kpD qs)) v fp) :
    ∃ (a : Addr) (ps : List Addr) (vs : List (Key × V)), v = .ref a ∧ SqL c.K H a (ps.map V.ref) ∧ Paired (fun p kv => SqT c.K H p [kV kv.1, kv.2]) ps vs ∧ KvR c H qs vs := by
  simp only [Rp] at r
  obtain ⟨b, xs, gp, rfl, rfl, hb, hv⟩ := r
  obtain ⟨ps, vs, rfl, hp, h⟩ := rps_kp so hv
  exact ⟨b, ps, vs, rfl, .of hb, hp, h⟩
theorem cd_dictP : CallD K S (rDictP K) fDictP := fun H xs ds fp s r n R hf Q q => by
  unfold fDictP at hf
  split at hf
  · obtain ⟨x, rfl, rx⟩ := rps_one r
    obtain ⟨qs, rfl, so, hR⟩ := hf
    obtain ⟨a, ps, vs, rfl, hL, hp, hv⟩ := rp_kp so rx
    refine ⟨a, ps, vs, rfl, hL, hp, fun p hpn => ?_⟩
    have hm := hv.merge
    have e := Ext.new (c := ⟨K, S⟩) (o := .dK (mergeK [] vs)) hpn
    have np := s.fresh hpn
    have nd := (aMerge_keys qs).1
    have hk : ∀ p ∈ (aMerge qs).map fun q => (keyD q.1, q.2), KeyOk p.1 := fun p hp => by
      obtain ⟨q, _, rfl⟩ := List.mem_map.mp hp
      exact .inl ⟨q.1, rfl⟩
    refine q _ (.ref p) _ [p] hR e (s.new hpn) ((rp_dict (plainK_of hk)).mpr ⟨p, _, _, [], rfl, rfl, (hm.mono (e.tk s)).rpk, _, upd_same, .inl ⟨(aMerge qs).map (·.1), by simp [List.map_map, Function.comp_def], nd, ?_, ?_⟩⟩) (fun b hb => by rw [List.mem_singleton.mp hb]; exact np) (List.pairwise_singleton _ _) fun b hb => by rw [List.mem_singleton.mp hb]; exact hpn
    · have := congrArg List.length hm.keys
      simp only [List.length_map] at this ⊢
      first | exact this.symm | exact this | omega
    · rw [← hm.zip]
  · exact hf.elim
/-- len(dict(pairs)) -/
def dLenDictK (m : DM) : DM := fun ρ R => m ρ fun d => ∃ qs : List (Key × D), d = .list (kpD qs) ∧ (∀ q ∈ qs, solid q.2 = true) ∧ R (.int (((aMerge qs).length : Nat) : Int))
end
/-! ### len(set(xs)) -/
def metI (ns : List Int) : List Int := firstMet (fun i => ns.getD i 0) ns.length
section
variable {K : PySem.W.Frag} {S : Option (Addr × Addr)}
/-- len(set(list of ints)): as many as there are unlike ones -/
def dLenSetI (m : DM) : DM := fun ρ R => m ρ fun d => ∃ ns : List Int, d = .list (ns.map .int) ∧ ns.length ≤ 4000 ∧ R (.int (((metI ns).length : Nat) : Int))
end
end Z
set_option Elab.async false
set_option linter.all false
set_option maxRecDepth 100000
set_option maxHeartbeats 4000000
/-! G39: lots of pairs of places: how they are put in order, which are span lots; free numbers; rows with their heads. -/
namespace Z
open PySem PySem.Spec PyProof.Rows L2
/-! ### as many as there are unlike ones -/
/-! ### numbers put in order, with equal ones -/
def upN (L : List Nat) : List Nat := L.mergeSort fun a b => decide (a ≤ b)
theorem sortD_upN (L : List Nat) : sortD false (L.map natD) = (upN L).map natD := by
  have := List.map_mergeSort (r := PySem.W.dataLe (β := Nat) false natD) (s := PySem.W.dataLe false id) (f := natD) (l := L) (fun a _ b' _ => rfl)
  rw [dataLe_nats] at this
  exact this.symm
theorem upN_asc (L : List Nat) : (upN L).Pairwise (· ≤ ·) :=
  (List.pairwise_mergeSort (le := fun a b => decide (a ≤ b)) (fun a b c h1 h2 => by simp only [decide_eq_true_eq] at *; omega) (fun a b => by simp only [Bool.or_eq_true, decide_eq_true_eq]; omega) L).imp fun {a b} z => of_decide_eq_true z
/-! ### pairs of places -/
def prI (p : Nat × Nat) : List Int := [((p.1 : Nat) : Int), ((p.2 : Nat) : Int)]
def prD (p : Nat × Nat) : D := .tuple [natD p.1, natD p.2]
theorem prD_tI (L : List (Nat × Nat)) : L.map prD = (L.map prI).map tI := by
  rw [List.map_map]
  rfl
theorem solid_prD (p : Nat × Nat) : solid (prD p) = true := by
  unfold prD
  rw [solid_tup]
  simp [solids, solid_int]
theorem solids_prD (L : List (Nat × Nat)) : solids (L.map prD) = true := solids_of fun p _ => solid_prD p
theorem prI_lt {p q : Nat × Nat} : prI p < prI q ↔ p.1 < q.1 ∨ (p.1 = q.1 ∧ p.2 < q.2) := by
  unfold prI
  rw [List.cons_lt_cons_iff, List.cons_lt_cons_iff]
  constructor
  · rintro (h | ⟨h, h' | ⟨_, h'⟩⟩)
    · exact .inl (by omega)
    · exact .inr ⟨by omega, by omega⟩
    · exact absurd h' (by simp)
  · rintro (h | ⟨h, h'⟩)
    · exact .inl (by omega)
    · exact .inr ⟨by omega, .inl (by omega)⟩
def leP (p q : Nat × Nat) : Bool := decide (p.1 < q.1 ∨ (p.1 = q.1 ∧ p.2 ≤ q.2))
theorem dataLe_pr : PySem.W.dataLe (β := Nat × Nat) false prD = leP := by
  funext p q
  have := congrFun (congrFun (PySem.W.dataLe_ii (fun p : Nat × Nat => ((p.1 : Nat) : Int)) fun p => ((p.2 : Nat) : Int)) p) q
  refine Eq.trans this ?_
  unfold leP
  rw [Bool.eq_iff_iff, decide_eq_true_iff, decide_eq_true_iff]
  omega
def upP (L : List (Nat × Nat)) : List (Nat × Nat) := L.mergeSort leP
theorem sortD_pr (L : List (Nat × Nat)) : sortD false (L.map prD) = (upP L).map prD := by
  have := List.map_mergeSort (r := PySem.W.dataLe (β := Nat × Nat) false prD) (s := PySem.W.dataLe false id) (f := prD) (l := L) (fun a _ b' _ => rfl)
  rw [dataLe_pr] at this
  exact this.symm
theorem upP_perm (L : List (Nat × Nat)) : (upP L).Perm L := List.mergeSort_perm _ _
theorem upP_asc (L : List (Nat × Nat)) : (upP L).Pairwise fun p q => leP p q = true :=
  List.pairwise_mergeSort (fun a b c h1 h2 => by unfold leP at *; simp only [decide_eq_true_eq] at *; omega) (fun a b => by unfold leP; simp only [Bool.or_eq_true, decide_eq_true_eq]; omega) L
theorem sortOk_pr {L : List (Nat × Nat)} (k : L.length ≤ 10000000) : SortOk (L.map prD) := by
  rw [prD_tI]
  exact sortOk_tI (fun r hr => by
    obtain ⟨p, _, rfl⟩ := List.mem_map.mp hr
    simp [prI]) (by rw [List.length_map]; exact k)
theorem plain_prD (p : Nat × Nat) : (prD p).plain = true := by
  simp [prD, PyData.plain, PyData.plainAll, PyData.canLay0, natD]
theorem depth_prD (p : Nat × Nat) : (prD p).depth = 1 := by simp [prD, PyData.depth, PyData.depthAll, natD]
theorem plain_prs (L : List (Nat × Nat)) : PyData.plainAll (L.map prD) = true := plainAll_of fun d hd => by
  obtain ⟨p, _, rfl⟩ := List.mem_map.mp hd
  exact plain_prD p
theorem depth_prs (L : List (Nat × Nat)) : PyData.depthAll (L.map prD) ≤ 1 := depthAll_of (k := 1) fun d hd => by
  obtain ⟨p, _, rfl⟩ := List.mem_map.mp hd
  rw [depth_prD]
  exact Nat.le_refl _
theorem eqv_pr (p q : Nat × Nat) : PyData.eqv (prD p) (prD q) = decide (p = q) := by
  unfold prD
  simp only [PyData.eqv, PyData.eqvAll, natD, Bool.and_true]
  rw [Bool.eq_iff_iff, Bool.and_eq_true, beq_iff_eq, beq_iff_eq, decide_eq_true_iff, Prod.ext_iff]
  omega
/-! ### span lots -/
/-- pairs of places below n, the first one not greater -/
def PrOk (n : Nat) (p : Nat × Nat) : Prop := p.1 ≤ p.2 ∧ p.2 < n
instance (n : Nat) (p : Nat × Nat) : Decidable (PrOk n p) := inferInstanceAs (Decidable (_ ∧ _))
/-- pairs whose firsts are unlike, whose lasts are unlike -/
structure Apart (n : Nat) (L : List (Nat × Nat)) : Prop where
  ok : ∀ p ∈ L, PrOk n p
  fst : (L.map Prod.fst).Nodup
  snd : (L.map Prod.snd).Nodup
theorem Apart.len {n : Nat} {L : List (Nat × Nat)} (h : Apart n L) : L.length ≤ n := by
  have := pigeon n _ h.snd fun x hx => by
    obtain ⟨p, hp, rfl⟩ := List.mem_map.mp hx
    exact (h.ok p hp).2
  rwa [List.length_map] at this
theorem Apart.perm {n : Nat} {L M : List (Nat × Nat)} (h : Apart n L) (p : M.Perm L) : Apart n M :=
  ⟨fun q hq => h.ok q (p.mem_iff.mp hq), (p.map _).nodup_iff.mpr h.fst, (p.map _).nodup_iff.mpr h.snd⟩
/-- a span lot of n: apart, put in order -/
structure LotN (n : Nat) (L : List (Nat × Nat)) : Prop where
  ap : Apart n L
  asc : (L.map Prod.fst).Pairwise (· < ·)
theorem asc_first {L : List (Nat × Nat)} (nd : (L.map Prod.fst).Nodup) : (L.Pairwise fun p q => leP p q = true) ↔ (L.map Prod.fst).Pairwise (· ≤ ·) := by
  rw [List.pairwise_map]
  have nd := List.pairwise_map.mp nd
  constructor
  · intro h
    refine h.imp fun {p q} z => ?_
    have z := of_decide_eq_true z
    omega
  · intro h
    refine (h.and nd).imp fun {p q} z => ?_
    have := z.1
    have := z.2
    refine decide_eq_true ?_
    omega
theorem lt_of_le {L : List Nat} (nd : L.Nodup) : L.Pairwise (· ≤ ·) ↔ L.Pairwise (· < ·) := by
  constructor
  · intro h
    refine (h.and nd).imp fun {p q} z => ?_
    have := z.1
    have := z.2
    omega
  · intro h
    exact h.imp fun z => by omega
/-! ### free numbers -/
def withinP (q p : Nat × Nat) : Bool := decide (p.1 < q.1) && decide (q.2 < p.2)
def freeP (L : List (Nat × Nat)) (p : Nat × Nat) : List Nat := ((List.range (p.2 - (p.1 + 1))).map fun k => p.1 + 1 + k).filter fun k => !((L.filter fun q => withinP q p).map Prod.fst).contains k
theorem filt_both {α : Type} (p : α → Bool) : ∀ l : List α, l.length = (l.filter p).length + (l.filter fun x => !p x).length
  | [] => rfl
  | a :: l => by
    have ih := filt_both p l
    by_cases h : p a = true
    · simp [List.filter_cons, h]
      omega
    · simp [List.filter_cons, h]
      omega
theorem freeP_len {n : Nat} {L : List (Nat × Nat)} (h : Apart n L) {p : Nat × Nat} (hp : p ∈ L) : (p.1 < p.2 → (((freeP L p).length : Nat) : Int) = ((p.2 : Nat) : Int) - ((p.1 : Nat) : Int) - 1 - (((L.filter fun q => withinP q p).length : Nat) : Int)) ∧ (¬ p.1 < p.2 → (freeP L p).length = 0) := by
  obtain ⟨F, hF⟩ : ∃ F, F = (L.filter fun q => withinP q p).map Prod.fst := ⟨_, rfl⟩
  obtain ⟨Rg, hR⟩ : ∃ Rg, Rg = (List.range (p.2 - (p.1 + 1))).map fun k => p.1 + 1 + k := ⟨_, rfl⟩
  have mR : ∀ k, k ∈ Rg ↔ p.1 < k ∧ k < p.2 := fun k => by
    rw [hR, List.mem_map]
    constructor
    · rintro ⟨j, hj, rfl⟩
      have := List.mem_range.mp hj
      omega
    · rintro ⟨h1, h2⟩
      exact ⟨k - (p.1 + 1), List.mem_range.mpr (by omega), by omega⟩
  have nR : Rg.Nodup := by
    rw [hR]
    exact List.pairwise_map.mpr (List.nodup_range.imp fun {a b} z e => z (by omega))
  have nF : F.Nodup := by
    rw [hF]
    exact List.Sublist.nodup (List.Sublist.map _ List.filter_sublist) h.fst
  have sF : ∀ k ∈ F, k ∈ Rg := fun k hk => by
    rw [hF] at hk
    obtain ⟨q, hq, rfl⟩ := List.mem_map.mp hk
    obtain ⟨hq, w⟩ := List.mem_filter.mp hq
    simp only [withinP, Bool.and_eq_true, decide_eq_true_eq] at w
    have := (h.ok q hq).1
    exact (mR _).mpr ⟨w.1, by omega⟩
  have e1 : (freeP L p).length + F.length = Rg.length := by
    have a := filt_both (fun k => !F.contains k) Rg
    have b : (Rg.filter fun k => !!F.contains k).length = F.length := by
      refine Nat.le_antisymm (nodup_sub_len _ _ (List.Sublist.nodup List.filter_sublist nR) fun x hx => ?_) (nodup_sub_len _ _ nF fun x hx => ?_)
      · have := (List.mem_filter.mp hx).2
        simpa using this
      · exact List.mem_filter.mpr ⟨sF x hx, by simpa using hx⟩
    rw [b] at a
    have e : freeP L p = Rg.filter fun k => !F.contains k := by
      unfold freeP
      rw [hF, hR]
    rw [e]
    exact a.symm
  have lR : Rg.length = p.2 - (p.1 + 1) := by rw [hR, List.length_map, List.length_range]
  have lF : F.length = (L.filter fun q => withinP q p).length := by rw [hF, List.length_map]
  refine ⟨fun c => ?_, fun c => ?_⟩
  · rw [← lF]
    omega
  · omega
/-! ### rows with their heads -/
end Z
set_option Elab.async false
set_option linter.all false
set_option maxRecDepth 100000
set_option maxHeartbeats 4000000
/-! Z50: sorted of what is collected in a sequence that is not told ahead (sets). -/
namespace Z
open PySem PySem.Spec PyProof.Rows L2
section
open PySem.W
variable {prog : Program} {w : World} {A : Around} {E : Value → Shared → Prop} {s : Shared} {β : Type} {enc : β → PyData} {R : Value → β → Prop}
theorem sorted_walk {x : Value} {b : Bool} {kw : List (Str × Value)} {Q : Value → Shared → Prop} (hr : Rev b kw) (B : List β → Prop)
    (col : ∀ (E' : Value → Shared → Prop) (Q' : List Value → Shared → Prop), (∀ (s1 : Shared) (vs : List Value) (bs : List β), (∀ c o, s.heap.get? c = some o → s1.heap.get? c = some o) → s1.gens = s.gens → s1.os = s.os → s.heap.objs.size ≤ s1.heap.objs.size → B bs → EachIs R vs bs → EachIs (fun v b => ∃ as, Reads s1.heap v (enc b) as) vs bs → Q' vs s1) → wpAny (model prog w) A.in1 (collect x) Q' E' s)
    (hal : ∀ bs, B bs → AllAlike (bs.map enc)) (hk : ∀ bs, B bs → Sortable (bs.map enc)) (hL : ∀ bs, B bs → bs.length ≤ sizeLine) (hu : ∀ bs, B bs → ∀ b, b ∈ bs → A.units + 2 + (enc b).depth < cLine)
    (h : ∀ (s1 : Shared) (bs : List β) (out : List Value) (h' : Heap) (n : Nat), B bs → EachIs R out (bs.mergeSort (dataLe b enc)) → (∀ c o, s.heap.get? c = some o → s1.heap.get? c = some o) → s1.gens = s.gens → s1.os = s.os → s.heap.objs.size ≤ s1.heap.objs.size →
      (∀ c o, s1.heap.get? c = some o → h'.get? c = some o) → h'.get? s1.heap.objs.size = some (seqObj "list" (List.toArray out) n) → Q (.ref s1.heap.objs.size) { s1 with heap := h' }) :
    wpAny (model prog w) A (call (.builtin "sorted") [x] kw) Q E s := by
  refine call_function_entry_kw kind_sorted plain_sorted entry_sorted (by cases hr with | no => exact args_sorted1 _ | of b => exact args_sorted_rev _ _) ?_
  unfold Builtin.«sorted»
  refine wpAny_bind (m := checkCount "sorted" 1 1 _) (wpAny_pure ?_)
  refine wpAny_bind (col _ _ fun s1 vs bs k1 g1 o1 z1 hB e er => ?_)
  have hl : vs.length ≤ sizeLine := by rw [e.length]; exact hL bs hB
  refine wpAny_bind (wpAny_newList ?_ hl)
  have ho : (s1.heap.push (seqObj "list" vs.toArray 0)).get? s1.heap.objs.size = some (seqObj "list" vs.toArray 0) := Heap.get?_push_size _ rfl
  have keep : ∀ c o, s1.heap.get? c = some o → (s1.heap.push (seqObj "list" vs.toArray 0)).get? c = some o ∧ c ≠ s1.heap.objs.size := fun c o q => ⟨Heap.get?_push_of_some _ q, Nat.ne_of_lt (Heap.lt_size q)⟩
  have er' : EachIs (fun v b => ∃ as, Reads (sortingHeap (s1.heap.push (seqObj "list" vs.toArray 0)) s1.heap.objs.size vs) v (enc b) as) vs bs :=
    er.mono fun _ _ ⟨as, r⟩ => ⟨as, PyProof.Rows.Reads.keeps (fun c o q => sortingHeap_old (keep c o q).2 (keep c o q).1) r⟩
  have S := SortsAt.data (prog := prog) (w := w) (A := A.in1.in1) (s := { s1 with heap := sortingHeap (s1.heap.push (seqObj "list" vs.toArray 0)) s1.heap.objs.size vs })
    (each_map (R := fun v d => ∃ as, Reads (sortingHeap (s1.heap.push (seqObj "list" vs.toArray 0)) s1.heap.objs.size vs) v d as) enc er') (hal bs hB) (hk bs hB) (bound_map (hu bs hB))
  have fin : Q (.ref s1.heap.objs.size) { s1 with heap := sortedHeap (s1.heap.push (seqObj "list" vs.toArray 0)) s1.heap.objs.size vs (sortVals (dataKind (sortingHeap (s1.heap.push (seqObj "list" vs.toArray 0)) s1.heap.objs.size vs) (bs.map enc)) b vs vs).toArray } := by
    obtain ⟨n, hn⟩ := sortedHeap_at (out := (sortVals (dataKind (sortingHeap (s1.heap.push (seqObj "list" vs.toArray 0)) s1.heap.objs.size vs) (bs.map enc)) b vs vs).toArray) ho
    refine h s1 bs _ _ n hB (sortVals_data b e er' (hal bs hB)) k1 g1 o1 z1 (fun c o q => ?_) hn
    have lt := Heap.lt_size q
    rw [sortedHeap_old (Nat.ne_of_lt lt) (by rw [Heap.size_push]; exact Nat.lt_succ_of_lt lt)]
    exact Heap.get?_push_of_some _ q
  refine wpAny_bind (wpAny_holding (wpAny_call_entry_kw slot_list_sort ⟨_, ho, rfl⟩ entry_list_sort ?body (by cases hr with | no => exact args_list_sort _ | of b => exact args_list_sort_rev _ _)))
  case body =>
    cases hr with
    | no => exact list_sort_vals (s := { s1 with heap := s1.heap.push (seqObj "list" vs.toArray 0) }) ho S hl ⟨_, rfl, wpAny_pure ⟨_, rfl, fin⟩⟩
    | of b => exact list_sort_rev_vals (s := { s1 with heap := s1.heap.push (seqObj "list" vs.toArray 0) }) ho S hl ⟨_, rfl, wpAny_pure ⟨_, rfl, fin⟩⟩
end
end Z
set_option Elab.async false
set_option linter.all false
set_option maxRecDepth 100000
set_option maxHeartbeats 4000000
/-! Z51: sorted(set(list of tuples of ints)). -/
namespace Z
open PySem PySem.Spec PyProof.Rows L2
/-- sorted(set), its things tuples of ints -/
def rSortS (K : PySem.W.Frag) (P : Program) (w : World) : List V → Hp → VK → Prop := fun vs H Q => ∃ (a : Addr) (L : List (Addr × List Int)), vs = [V.ref a] ∧ H a = some (SetTO P w a L) ∧ (∀ p ∈ L, SqD K H p.1 (p.2.map V.int)) ∧ (∀ p ∈ L, p.2 ≠ []) ∧
  ∀ (L' : List (Addr × List Int)) (p : Addr), L'.Perm L → (L'.map (·.2)).Nodup → L'.length < 64 → L'.Pairwise (fun q r => q.2 ≤ r.2) → H p = none → Q (.ref p) (upd H p (.lst (L'.map fun q => V.ref q.1)))
section
variable {X : Cx}
theorem cr_sortedS (hc : X.calm = true) (hu : X.A.units + 64 < cLine) : CallR X (.builtin "sorted") (rSortS X.K X.prog X.w) := by
  intro pins s σ H vs us Q I r h
  obtain ⟨a, L, rfl, ha, hk, hne, q⟩ := h
  have R0 : SetT0 X.prog X.w s.heap a L := (I.hok a _ ha).1
  obtain ⟨es, ep, t, R⟩ := R0.full fun p hp => I.isT (hk p hp).t
  rw [Vals.ref1 r]
  have hfew := R.few
  have hsz := R.size
  have rd : ∀ p ∈ L, ∃ as, Reads s.heap (.ref p.1) (tI p.2) as := fun p hp => by
    have r1 : Rp ⟨X.K, none⟩ H (tI p.2) (.ref p.1) [] := by
      show Rp _ H (.tuple (p.2.map .int)) _ _
      simp only [Rp]
      exact ⟨p.1, _, rfl, hk p hp, rps_ofInts p.2⟩
    have pl : (tI p.2).plain = true := by
      show PyData.plain (.tuple _) = true
      simp only [PyData.plain]
      exact plain_ints _
    exact Dp.reads I _ _ _ (r1.dp _ _ _ pl) rfl
  have ord : ∀ vs : List Value, (∀ v ∈ vs, ∃ q ∈ L, v = Value.ref q.1) → ∃ L1 : List (Addr × List Int), vs = L1.map (fun q => Value.ref q.1) ∧ ∀ q ∈ L1, q ∈ L := by
    intro vs
    induction vs with
    | nil => intro _; exact ⟨[], rfl, fun q hq => (by cases hq)⟩
    | cons v vs ih =>
      intro hv
      obtain ⟨q, hq, e⟩ := hv v List.mem_cons_self
      obtain ⟨L1, e1, hs⟩ := ih fun u hu => hv u (List.mem_cons_of_mem _ hu)
      refine ⟨q :: L1, by rw [List.map_cons, e, e1], fun r hr => ?_⟩
      rcases List.mem_cons.mp hr with z | z
      · rw [z]; exact hq
      · exact hs r z
  have one : ∀ q ∈ L, ∀ r ∈ L, q.1 = r.1 → q = r := fun q hq r hr e => by
    have a1 := R.tup q hq
    have a2 := R.tup r hr
    rw [e] at a1
    exact Prod.ext e (a1.inj a2)
  have nL : L.Nodup := nodup_of_map R.nd
  have perm_of : ∀ L1 : List (Addr × List Int), (∀ q ∈ L1, q ∈ L) → (L1.map (fun q => Value.ref q.1)).Perm (L.map fun q => Value.ref q.1) → L1.Perm L := by
    intro L1 hs pm1
    have nref : (L.map fun q => Value.ref q.1).Nodup := by
      refine List.pairwise_map.mpr (List.Pairwise.imp_of_mem (fun {q r} hq hr hne e => ?_) nL)
      injection e with e
      exact hne (one q hq r hr e)
    have n1 : L1.Nodup := nodup_of_map (pm1.nodup_iff.mpr nref)
    refine (List.perm_ext_iff_of_nodup n1 nL).mpr fun q => ⟨hs q, fun hq => ?_⟩
    have hm : Value.ref q.1 ∈ L1.map (fun q => Value.ref q.1) := pm1.mem_iff.mpr (List.mem_map.mpr ⟨q, hq, rfl⟩)
    obtain ⟨r, hr, e⟩ := List.mem_map.mp hm
    injection e with e
    rw [← one r (hs r hr) q hq e]
    exact hr
  have each : ∀ L1 : List (Addr × List Int), PySem.W.EachIs (fun v (p : Addr × List Int) => v = Value.ref p.1) (L1.map fun q => Value.ref q.1) L1 := fun L1 => by
    induction L1 with
    | nil => exact .nil
    | cons q L1 ih => exact .cons rfl ih
  have back : ∀ {out : List Value} {L1 : List (Addr × List Int)}, PySem.W.EachIs (fun v (p : Addr × List Int) => v = Value.ref p.1) out L1 → out = L1.map fun q => Value.ref q.1 := fun {out L1} h => by
    induction h with
    | nil => rfl
    | cons e _ ih => rw [e, ih]; rfl
  have sok : ∀ bs : List (Addr × List Int), bs.Perm L → SortOk ((bs.map (·.2)).map tI) := fun bs hb => sortOk_tI (fun r hr => by
    obtain ⟨p, hp, rfl⟩ := List.mem_map.mp hr
    exact hne p (hb.mem_iff.mp hp)) (by rw [List.length_map, hb.length_eq]; omega)
  have em : ∀ bs : List (Addr × List Int), bs.map (fun p => tI p.2) = (bs.map (·.2)).map tI := fun bs => by rw [List.map_map]; rfl
  refine sorted_walk (β := Addr × List Int) (enc := fun p => tI p.2) (R := fun v p => v = Value.ref p.1) .no (fun bs => bs.Perm L) (fun E' Q' k => ?_) (fun bs hb => by rw [em]; exact (sok bs hb).2.1) (fun bs hb => by rw [em]; exact (sok bs hb).2.2.1) (fun bs hb => by rw [hb.length_eq, sizeLine_eq]; omega) (fun bs hb b hm => ?_) fun s1 bs out h' n hB eo k1 g1 o1 z1 k2 ho => ?_
  · obtain ⟨o, hob, hex, hd⟩ := R.ob
    refine collect_set (A := X.A.in1) (I.ok.hd hc) ⟨o, hob, hex.1, hd⟩ R.fits (by unfold scanBound; omega) R.tab.ris R.led fun s1 vs k1 hz g1 o1 pm => ?_
    have hes : es.toList.map (·.2) = L.map fun q => Value.ref q.1 := by
      rw [R.rows]
      unfold L2.rowsOf
      rw [List.map_map] <;> rfl
    rw [hes] at pm
    obtain ⟨L1, e1, hs⟩ := ord vs fun v hv => by
      obtain ⟨q, hq, e⟩ := List.mem_map.mp (pm.mem_iff.mp hv)
      exact ⟨q, hq, e.symm⟩
    subst e1
    have pL := perm_of L1 hs pm
    refine k s1 _ L1 k1 g1 o1 hz pL (each L1) ?_
    clear pm pL
    induction L1 with
    | nil => exact .nil
    | cons q L1 ih =>
      obtain ⟨as, r⟩ := rd q (hs q (List.mem_cons_self ..))
      exact .cons ⟨as, PyProof.Rows.Reads.keeps (fun c o z => k1 c o z) r⟩ (ih fun q hq => hs q (List.mem_cons_of_mem _ hq))
  · have : (tI b.2).depth = 1 := by
      show PyData.depth (.tuple _) = 1
      simp only [PyData.depth]
      rw [depth_ints0]
    rw [this]
    omega
  · have eo' := back eo
    obtain ⟨L', hL'⟩ : ∃ L', L' = bs.mergeSort (PySem.W.dataLe false fun p => tI p.2) := ⟨_, rfl⟩
    rw [← hL'] at eo'
    have p1 : L'.Perm bs := by rw [hL']; exact List.mergeSort_perm _ _
    have pL : L'.Perm L := p1.trans hB
    have asc : L'.Pairwise fun q r => q.2 ≤ r.2 := by
      have t := PySem.W.sortLe_total (PyProof.Rows.listOrd PyProof.Rows.itemOrd) false (fun p : Addr × List Int => PySem.W.keyToks (tI p.2))
      have pw : (bs.mergeSort (PySem.W.dataLe false fun p => tI p.2)).Pairwise fun x y => PySem.W.dataLe false (fun p : Addr × List Int => tI p.2) x y = true := List.pairwise_mergeSort t.trans (fun a b => by rw [Bool.or_eq_true]; exact t.total a b) bs
      rw [hL']
      refine pw.imp fun {x y} z => ?_
      have := congrFun (congrFun dataLe_tI x.2) y.2
      exact of_decide_eq_true (this ▸ z)
    have hlen : (L'.map fun q => V.ref q.1).length ≤ sizeLine := by rw [List.length_map, pL.length_eq, sizeLine_eq]; omega
    have hn : H s1.heap.objs.size = none := I.hok.fresh z1
    have hv : Vals (L'.map fun q => V.ref q.1) out := by rw [eo']; exact vals_of_refs L'
    have k : ∀ c o, s.heap.get? c = some o → h'.get? c = some o := fun c o z => k2 c o (k1 c o z)
    have J : Inv X pins σ (upd H s1.heap.objs.size (.lst (L'.map fun q => V.ref q.1))) { s with heap := h', gens := s1.gens, drawn := s1.drawn, toks := s1.toks } :=
      I.call (ch := []) (Un.laid k z1 hn) (I.hok.laid k z1 ⟨hlen, out, n, hv, ho⟩) (by rw [g1]; exact I.bare) (fun _ z => nomatch z)
    have e : ({ s1 with heap := h' } : Shared) = { s with heap := h', gens := s1.gens, drawn := s1.drawn, toks := s1.toks } := by
      cases s1
      cases s
      cases o1
      rfl
    rw [e]
    exact ⟨.ref s1.heap.objs.size, _, J, rfl, q L' _ pL ((pL.map (·.2)).nodup_iff.mpr R.nd) (by rw [pL.length_eq]; exact hfew) asc hn⟩
end
end Z
set_option Elab.async false
set_option linter.all false
set_option maxRecDepth 100000
set_option maxHeartbeats 4000000
/-! Z52: sorted(set(list of tuples of ints)) over data. -/
namespace Z
open PySem PySem.Spec PyProof.Rows L2
section
variable {K : PySem.W.Frag} {S : Option (Addr × Addr)} {P : Program} {w : World}
theorem rps_tups {c : Zc} {H : Hp} : ∀ {Ls : List (List Int)} {xs : List V} {fp : List Addr}, Rps c H (Ls.map tI) xs fp → fp = [] ∧ ∃ ks : List (Addr × List Int), xs = ks.map (fun p => V.ref p.1) ∧ ks.map (·.2) = Ls ∧ ∀ p ∈ ks, SqD c.K H p.1 (p.2.map V.int)
  | [], xs, fp, h => by
    simp only [List.map_nil, Rps] at h
    exact ⟨h.2, [], h.1, rfl, fun p hp => by cases hp⟩
  | r :: Ls, xs, fp, h => by
    simp only [List.map_cons, Rps] at h
    obtain ⟨x, ys, f1, f2, rfl, rfl, h1, h2⟩ := h
    obtain ⟨rfl, ks, rfl, e2, e3⟩ := rps_tups h2
    have h1' : Rp c H (.tuple (r.map .int)) x f1 := h1
    simp only [Rp] at h1'
    obtain ⟨a, zs, rfl, sa, hz⟩ := h1'
    obtain ⟨rfl, rfl⟩ := rps_ints hz
    refine ⟨rfl, (a, r) :: ks, rfl, by simp [e2], fun p hp => ?_⟩
    rcases List.mem_cons.mp hp with rfl | hp
    · exact sa
    · exact e3 p hp
/-- sorted(set(xs)), xs a list of tuples of ints, none empty -/
def dSortSetT (m : DM) : DM := fun ρ R => m ρ fun d => ∃ Ls : List (List Int), d = .list (Ls.map tI) ∧ Ls.length < 64 ∧ (∀ r ∈ Ls, r ≠ []) ∧ ∀ Ms : List (List Int), (∀ x, x ∈ Ms ↔ x ∈ Ls) → Ms.length ≤ Ls.length → Ms.Pairwise (· < ·) → R (.list (Ms.map tI))
theorem de_sortSetT {te : TE} {m : DM} {U : List Nat} (h : DE K S te m U) : DE K S (tCB (rSortS K P w) (tCons (tCB (rSetOfT K P w) (tCons te tNil)) tNil)) (dSortSetT m) [] := fun G H ρ σ fps E R hm Q q =>
  h G H ρ σ fps E _ hm _ fun y v H1 fp hR e1 s1 ry ny fy => by
    obtain ⟨Ls, rfl, hl, hne, hR⟩ := hR
    simp only [Rp] at ry
    obtain ⟨b, xs, gp, rfl, rfl, hb, hv⟩ := ry
    obtain ⟨rfl, ks, rfl, rfl, hk⟩ := rps_tups hv
    refine ⟨b, ks, rfl, .of hb, fun p hp => (hk p hp).t, by simpa using hl, fun a L ha hs hall => ?_⟩
    have e2 := Ext.new (c := ⟨K, S⟩) (o := SetTO P w a L) ha
    have s2 := s1.new (o := SetTO P w a L) ha
    have hk2 : ∀ p ∈ L, SqD K (upd H1 a (SetTO P w a L)) p.1 (p.2.map V.int) := fun p hp => (e2.tk s1).sqd (hk p (hs p hp))
    refine ⟨a, L, rfl, upd_same, hk2, fun p hp => hne _ (List.mem_map.mpr ⟨p, hs p hp, rfl⟩), fun L' p pm nd lt asc hp => ?_⟩
    have e3 := Ext.new (c := ⟨K, S⟩) (o := .lst (L'.map fun q => V.ref q.1)) hp
    have hpn := s2.fresh hp
    have mem : ∀ x, x ∈ L'.map (·.2) ↔ x ∈ ks.map (·.2) := fun x => by
      constructor
      · intro hx
        obtain ⟨z, hz, rfl⟩ := List.mem_map.mp hx
        exact List.mem_map.mpr ⟨z, hs z (pm.mem_iff.mp hz), rfl⟩
      · intro hx
        obtain ⟨z, hz, rfl⟩ := List.mem_map.mp hx
        obtain ⟨y, hy, e⟩ := List.mem_map.mp (hall z hz)
        exact List.mem_map.mpr ⟨y, pm.mem_iff.mpr hy, e⟩
    have strict : (L'.map (·.2)).Pairwise (· < ·) := by
      refine ((List.pairwise_map.mpr asc).and nd).imp fun {x y} z => ?_
      refine Classical.byContradiction fun c => ?_
      exact z.2 (List.le_antisymm z.1 (List.not_lt.mp c))
    refine q _ (.ref p) _ [p] (hR _ mem (nodup_sub_len _ _ nd fun x hx => (mem x).mp hx) strict) ((e1.trans e2).trans e3) (s2.new hp) ?_ (fun c hc => by rw [List.mem_singleton.mp hc]; exact hpn) (.new ((e1.trans e2).free hp hpn))
    simp only [Rp]
    refine ⟨p, _, [], rfl, rfl, upd_same, ?_⟩
    rw [List.map_map]
    exact rps_keys fun x hx => (e3.tk s2).sqd (hk2 x (pm.mem_iff.mp hx))
end
end Z
set_option Elab.async false
set_option linter.all false
set_option maxRecDepth 100000
set_option maxHeartbeats 4000000
/-! Z53: sorted of a list of tuples the first of which is empty. -/
namespace PySem.SeqAt
section
variable {A : Around} {s : Shared}
theorem z_call_tuple_lt {prog : Program} {w : World} {E : Value → Shared → Prop} {Q : Value → Shared → Prop} {l b : Addr} {items items2 : Array Value} {e r : Nat → Bool} (hl : s.heap.IsTuple l items) (hb : s.heap.IsTuple b items2)
    (he : ∀ j (h1 : j < items.size) (h2 : j < items2.size), EqAt A.in1 s items[j] items2[j] (e j)) (hr : ∀ j (h1 : j < items.size) (h2 : j < items2.size), e j = false → RcLt A.in1 s items[j] items2[j] (r j))
    (h : Q (.bool (firstLt e r (decide (items.size < items2.size)) (List.range (min items.size items2.size)))) s) : wpAny (model prog w) A (call (.builtin "tuple.__lt__") [.ref l, .ref b]) Q E s := by
  obtain ⟨⟨cls, dd, data, sl⟩, ho, hc, n, hd⟩ := id hl
  obtain ⟨⟨cls2, dd2, data2, sl2⟩, ho2, hc2, n2, hd2⟩ := id hb
  simp only at hc hd hc2 hd2
  subst hc hd hc2 hd2
  exact call_meets F.slot_tuple_lt ⟨_, ho, rfl⟩ F.entry_tuple_lt (F.args_tuple_lt_2 _ _) (tuple_ltAt l b items items2 n n2 dd dd2 sl sl2 e r) ⟨ho, ho2, he, hr, h⟩
end
end PySem.SeqAt
namespace PySem.W
open PySem PySem.Calls PyProof.Rows PySem.SeqAt
section
variable {prog : Program} {w : World} {A : Around} {E : Value → Shared → Prop} {s : Shared}
theorem z_oneLt_tup {xs ys : List PyData} {a b : Value} {as bs : List Addr} {Q : Bool → Shared → Prop} (ra : Reads s.heap a (.tuple xs) as) (rb : Reads s.heap b (.tuple ys) bs) (h : alike (.tuple xs) (.tuple ys) = true)
    (hu : A.units + min (PyData.tuple xs).depth (PyData.tuple ys).depth < cLine) (hq : Q (dataLt (.tuple xs) (.tuple ys)) s) : wpAny (model prog w) A (oneLt' true a b) Q E s := by
  have hal : alikeAll xs ys = true := by simpa [alike] using h
  cases ra with
  | @tuple l o vs n _ as₁ h1 h2 h3 h4 =>
    cases rb with
    | @tuple l' o' vs' n' _ bs₁ k1 k2 k3 k4 =>
      have n1 : vs.size = xs.length := by simpa using ReadsAll.length _ _ _ h4
      have n2 : vs'.size = ys.length := by simpa using ReadsAll.length _ _ _ k4
      rw [dataLt_tuple, ← firstLt_toks xs ys hal, ← n1, ← n2] at hq
      rw [oneLt'_eq]
      simp only [if_true]
      refine wpAny_bind (wpAny_cRoomFor (room_here hu) ?_)
      refine wpAny_bind (wpAny_callSpecialIfBound?_slot (T := "tuple") ⟨_, h1, h2⟩ F.slot_tuple_lt (z_call_tuple_lt (e := pairEq xs ys) (r := fun j => dataLt (xs.getD j .none) (ys.getD j .none)) ⟨_, h1, h2, _, h3⟩ ⟨_, k1, k2, _, k3⟩ (fun j j1 j2 => ?_) (fun j j1 j2 hj => ?_) ?_))
      · have := eqAt_alikeAll xs ys A.in1 s vs.toList vs'.toList _ _ h4 k4 hal (room_in hu) j (by simpa using j1) (by simpa using j2)
        simpa using this
      · have := rcLt_alikeAll xs ys A.in1 s vs.toList vs'.toList _ _ h4 k4 hal (room_in hu) j (by simpa using j1) (by simpa using j2) hj
        simpa using this
      · exact wpAny_truthy_bool hq
/-- v is a tuple of items xs -/
def ZTup (h : Heap) (v : Value) (xs : Array Value) : Prop := ∃ a o n, v = .ref a ∧ h.get? a = some o ∧ o.cls = .type "tuple" ∧ o.data = .seq xs n
theorem z_firsts {M : Model} : ∀ (vs : List Value) {Q : List (Option Value) → Shared → Prop}, (∀ v ∈ vs, ∃ xs, ZTup s.heap v xs) → (∀ fs, Q fs s) → wpAny M A (vs.mapM firstOfTuple') Q E s
  | [], _, _, h => by rw [List.mapM_nil]; exact wpAny_pure (h _)
  | v :: vs, Q, t, h => by
    obtain ⟨xs, a, o, n, rfl, ho, hc, hd⟩ := t v (List.mem_cons_self ..)
    rw [List.mapM_cons]
    refine wpAny_bind ?_
    rw [kas_first_eq]
    refine wpAny_bind (Looks.here (show Looks M s.heap (typeOf (.ref a)) o.cls from (Looks.ld ho).andThen .now) ?_)
    rw [hc, if_neg (by first | decide | simp)]
    refine wpAny_bind (listItems_at ho hd (wpAny_pure ?_))
    exact wpAny_bind (z_firsts vs (Q := fun bs s' => wpAny M A (pure (xs[0]? :: bs)) Q E s') (fun v hv => t v (List.mem_cons_of_mem _ hv)) fun fs => wpAny_pure (h _))
theorem z_kind {M : Model} {v : Value} {vs : List Value} {Q : SortKind → Shared → Prop} (t0 : ZTup s.heap v #[]) (t : ∀ v ∈ vs, ∃ xs, ZTup s.heap v xs) (h : Q oneType' s) : wpAny M A (keyKind' (v :: vs).toArray) Q E s := by
  have hT : ∀ u ∈ v :: vs, Looks M s.heap (typeOf u) (.type "tuple") := fun u hu => by
    have : ∃ xs, ZTup s.heap u xs := by
      rcases List.mem_cons.mp hu with rfl | hu
      · exact ⟨_, t0⟩
      · exact t u hu
    obtain ⟨xs, a, o, n, rfl, ho, hc, hd⟩ := this
    rw [← hc]
    exact (Looks.ld ho).andThen .now
  rw [kat_kind_eq, List.mapM_toArray, map_eq_pure_bind, List.mapM_cons]
  refine wpAny_bind (wpAny_bind (wpAny_bind ?_))
  rw [kas_first_eq]
  obtain ⟨a, o, n, rfl, ho, hc, hd⟩ := t0
  refine wpAny_bind (Looks.here (show Looks M s.heap (typeOf (.ref a)) o.cls from (Looks.ld ho).andThen .now) ?_)
  rw [hc, if_neg (by first | decide | simp)]
  refine wpAny_bind (listItems_at ho hd (wpAny_pure ?_))
  refine wpAny_bind (z_firsts vs t fun fs => wpAny_pure (wpAny_pure ?_))
  rw [if_neg (by simp), if_neg (by simp)]
  rw [oneTypeOnly'_eq, List.mapM_toArray, map_eq_pure_bind]
  refine wpAny_bind (wpAny_bind (wpAny_bind (kas_mapM (r := .type "tuple") _ (fun v hv Q' hq => (hT v hv).here hq) (wpAny_pure ?_))))
  have hall : ((List.map (fun _ => Value.type "tuple") (Value.ref a :: vs)).toArray.all fun x => x == Value.type "tuple") = true := by
    simp only [List.all_toArray, List.all_map, List.all_eq_true]
    intro _ _
    exact beq_self_eq_true _
  have h0 : (List.map (fun _ => Value.type "tuple") (Value.ref a :: vs)).toArray[0]? = some (.type "tuple") := by simp
  rw [h0]
  simp only [hall, if_true]
  exact wpAny_pure (wpAny_pure h)
theorem z_tup {h : Heap} {v : Value} {xs : List PyData} {as : List Addr} (r : Reads h v (.tuple xs) as) : ∃ vs : Array Value, ZTup h v vs ∧ vs.size = xs.length := by
  cases r with
  | @tuple l o vs n _ as₁ h1 h2 h3 h4 => exact ⟨vs, ⟨l, o, n, rfl, h1, h2, h3⟩, by simpa using ReadsAll.length _ _ _ h4⟩
/-- the first is empty, all are tuples -/
def Sort0 (ds : List PyData) : Prop := (∃ r, ds = .tuple [] :: r) ∧ ∀ d ∈ ds, ∃ xs, d = .tuple xs
theorem z_sortsAt {vs : List Value} {ds : List PyData} (e : EachIs (fun v d => ∃ as, Reads s.heap v d as) vs ds) (hal : AllAlike ds) (hk : Sort0 ds) (hu : ∀ d, d ∈ ds → A.units + d.depth < cLine) : SortsAt prog w A s (dataKind s.heap ds) vs := by
  have room : ∀ {d d' : PyData}, d ∈ ds → A.units + min d.depth d'.depth < cLine := fun {d d'} hd => Nat.lt_of_le_of_lt (Nat.add_le_add_left (Nat.min_le_left _ _) _) (hu d hd)
  refine ⟨fun v hv => ?_, oneType', ?_, fun h2 E Q hq => ?_⟩
  · obtain ⟨d, hd, as, r⟩ := e.left v hv
    exact ⟨_, dataKind_some hal hd r⟩
  · intro E x y a b Q ha hb hq
    obtain ⟨d, as, hd, ra, rfl⟩ := dataKind_inv ha
    obtain ⟨d', as', hd', rb, rfl⟩ := dataKind_inv hb
    obtain ⟨x1, rfl⟩ := hk.2 d hd
    obtain ⟨x2, rfl⟩ := hk.2 d' hd'
    rw [keyLt'_oneType]
    exact z_oneLt_tup ra rb (hal _ hd _ hd') (room hd) hq
  · obtain ⟨⟨r, rfl⟩, hk2⟩ := hk
    cases e with
    | @cons v _ vs' _ r1 t =>
      obtain ⟨as, r1⟩ := r1
      obtain ⟨us, z1, z2⟩ := z_tup r1
      have : us = #[] := by
        simp only [List.length_nil] at z2
        exact Array.eq_empty_of_size_eq_zero z2
      subst this
      refine z_kind z1 (fun u hu => ?_) hq
      obtain ⟨d, hd, as, r⟩ := t.left u hu
      obtain ⟨xs, rfl⟩ := hk2 d (List.mem_cons_of_mem _ hd)
      obtain ⟨us, z, _⟩ := z_tup r
      exact ⟨us, z⟩
end
end PySem.W
set_option Elab.async false
set_option linter.all false
set_option maxRecDepth 100000
set_option maxHeartbeats 4000000
/-! Z54: sorted of a list of tuples the first of which is empty: the call, and over data. -/
namespace Z
open PySem PySem.Spec PyProof.Rows L2
section
open PySem.W
variable {prog : Program} {w : World} {A : Around} {E : Value → Shared → Prop} {s : Shared} {β : Type} {vs : List Value} {bs : List β} {enc : β → PyData} {R : Value → β → Prop}
theorem sorted_any0 {x : Value} {Q : Value → Shared → Prop}
    (col : ∀ (E' : Value → Shared → Prop) (Q' : List Value → Shared → Prop), (∀ h', (∀ c o, s.heap.get? c = some o → h'.get? c = some o) → Q' vs { s with heap := h' }) → wpAny (model prog w) A.in1 (collect x) Q' E' s)
    (e : EachIs R vs bs) (er : EachIs (fun v b => ∃ as, Reads s.heap v (enc b) as) vs bs) (hal : AllAlike (bs.map enc)) (hk : Sort0 (bs.map enc)) (hL : bs.length ≤ sizeLine) (hu : ∀ b, b ∈ bs → A.units + 2 + (enc b).depth < cLine)
    (h : ∀ (out : List Value) (h1 h' : Heap) (n : Nat), EachIs R out (bs.mergeSort (dataLe false enc)) → (∀ c o, s.heap.get? c = some o → h1.get? c = some o) → (∀ c o, h1.get? c = some o → h'.get? c = some o) → h'.get? h1.objs.size = some (seqObj "list" (List.toArray out) n) → Q (.ref h1.objs.size) { s with heap := h' }) :
    wpAny (model prog w) A (call (.builtin "sorted") [x]) Q E s := by
  have hl : vs.length ≤ sizeLine := by rw [e.length]; exact hL
  refine call_function_entry_kw kind_sorted plain_sorted entry_sorted (args_sorted1 _) ?_
  unfold Builtin.«sorted»
  refine wpAny_bind (m := checkCount "sorted" 1 1 _) (wpAny_pure ?_)
  refine wpAny_bind (col _ _ fun h1 k1 => ?_)
  refine wpAny_bind (wpAny_newList ?_ hl)
  have ho : (h1.push (seqObj "list" vs.toArray 0)).get? h1.objs.size = some (seqObj "list" vs.toArray 0) := Heap.get?_push_size _ rfl
  have keep : ∀ c o, s.heap.get? c = some o → (h1.push (seqObj "list" vs.toArray 0)).get? c = some o ∧ c ≠ h1.objs.size := fun c o q => ⟨Heap.get?_push_of_some _ (k1 c o q), Nat.ne_of_lt (Heap.lt_size (k1 c o q))⟩
  have er' : EachIs (fun v b => ∃ as, Reads (sortingHeap (h1.push (seqObj "list" vs.toArray 0)) h1.objs.size vs) v (enc b) as) vs bs :=
    er.mono fun _ _ ⟨as, r⟩ => ⟨as, PyProof.Rows.Reads.keeps (fun c o q => sortingHeap_old (keep c o q).2 (keep c o q).1) r⟩
  have S := z_sortsAt (prog := prog) (w := w) (A := A.in1.in1) (s := { s with heap := sortingHeap (h1.push (seqObj "list" vs.toArray 0)) h1.objs.size vs })
    (each_map (R := fun v d => ∃ as, Reads (sortingHeap (h1.push (seqObj "list" vs.toArray 0)) h1.objs.size vs) v d as) enc er') hal hk (bound_map hu)
  have fin : Q (.ref h1.objs.size) { s with heap := sortedHeap (h1.push (seqObj "list" vs.toArray 0)) h1.objs.size vs (sortVals (dataKind (sortingHeap (h1.push (seqObj "list" vs.toArray 0)) h1.objs.size vs) (bs.map enc)) false vs vs).toArray } := by
    obtain ⟨n, hn⟩ := sortedHeap_at (out := (sortVals (dataKind (sortingHeap (h1.push (seqObj "list" vs.toArray 0)) h1.objs.size vs) (bs.map enc)) false vs vs).toArray) ho
    refine h _ h1 _ n (sortVals_data false e er' hal) k1 (fun c o q => ?_) hn
    have lt := Heap.lt_size q
    rw [sortedHeap_old (Nat.ne_of_lt lt) (by rw [Heap.size_push]; exact Nat.lt_succ_of_lt lt)]
    exact Heap.get?_push_of_some _ q
  refine wpAny_bind (wpAny_holding (wpAny_call_entry_kw slot_list_sort ⟨_, ho, rfl⟩ entry_list_sort ?body (args_list_sort _)))
  case body =>
    exact list_sort_vals (s := { s with heap := h1.push (seqObj "list" vs.toArray 0) }) ho S hl ⟨_, rfl, wpAny_pure ⟨_, rfl, fin⟩⟩
end
def SortOk0 (ds : List D) : Prop := PyData.plainAll ds = true ∧ PySem.W.AllAlike ds ∧ PySem.W.Sort0 ds ∧ ds.length ≤ 10000000 ∧ PyData.depthAll ds ≤ 50
def rSort0 (K : PySem.W.Frag) : List V → Hp → VK → Prop := fun vs H Q => ∃ a xs ds, vs = [V.ref a] ∧ SqL K H a xs ∧ DpAll K H xs ds ∧ xs.length = ds.length ∧ SortOk0 ds ∧ ∀ p, H p = none → Q (.ref p) (upd H p (.lst (sortV false xs ds)))
section
variable {X : Cx}
theorem cr_sort0 (hu : X.A.units + 64 < cLine) : CallR X (.builtin "sorted") (rSort0 X.K) := fun pins s σ H vs us Q I r h => by
  obtain ⟨a, xs, ds, rfl, hs, hd, hl, ⟨h1, h2, h3, h4, h5⟩, q⟩ := h
  obtain ⟨u, rfl, ru⟩ := vals1 r
  cases ru
  have go : ∀ its : List Value, Vals xs its → (∀ (E' : Value → Shared → Prop) (Q' : List Value → Shared → Prop), (∀ h', (∀ c o, s.heap.get? c = some o → h'.get? c = some o) → Q' its { s with heap := h' }) → wpAny (model X.prog X.w) X.A.in1 (collect (.ref a)) Q' E' s) →
      wpAny (model X.prog X.w) X.A (call (.builtin "sorted") [.ref a]) (EP X pins σ Q) X.xe s := fun its rv col => by
    obtain ⟨as, rr⟩ := Dp.readsAll I ds _ its hd rv
    have emap : (xs.zip ds).map (·.2) = ds := by rw [List.map_snd_zip (Nat.le_of_eq hl.symm)]
    refine sorted_any0 (bs := xs.zip ds) (enc := (·.2)) col (vals_each rv hl) (reads_each hl rr) (by rw [emap]; exact h2) (by rw [emap]; exact h3) (by rw [List.length_zip]; exact Nat.le_trans (Nat.min_le_right _ _) (lim_ok h4)) (fun p hp => ?_) fun out g1 h' n e k1 k2 ho => ?_
    · have := depth_le h5 p.2 (List.of_mem_zip hp).2
      show X.A.units + 2 + p.2.depth < cLine
      omega
    · have J : Inv X pins σ H { s with heap := g1 } := I.kept (t' := s.toks) k1
      have rv' := each_vals e
      have hlen : (sortV false xs ds).length ≤ sizeLine := by
        unfold sortV
        rw [List.length_map, List.length_mergeSort, List.length_zip]
        exact Nat.le_trans (Nat.min_le_right _ _) (lim_ok h4)
      exact ⟨.ref g1.objs.size, _, J.laid (t' := s.toks) (o := .lst (sortV false xs ds)) k2 (Nat.le_refl _) ⟨hlen, out, n, rv', ho⟩, rfl, q _ (J.hok.fresh (Nat.le_refl _))⟩
  obtain ⟨its, rv, ⟨o, n, ho, hc, _, hdt⟩, hz⟩ := I.list hs
  exact go its rv fun E' Q' k => wpAny_collect_seq a (.inl rfl) ho hc hdt k (by rw [List.size_toArray, ← rv.length]; exact hz)
end
section
variable {K : PySem.W.Frag} {S : Option (Addr × Addr)}
def fSorted0 : List D → (D → Prop) → Prop := fun ds R => match ds with
  | [d] => ∃ xs, IsL d xs ∧ solids xs = true ∧ SortOk0 xs ∧ R (.list (sortD false xs))
  | _ => False
theorem cd_sorted0 : CallD K S (rSort0 K) fSorted0 := fun H xs ds fp s r n R hf Q q => by
  unfold fSorted0 at hf
  split at hf
  · rename_i d
    obtain ⟨es, l, hs, ok, hR⟩ := hf
    obtain ⟨x, rfl, rx⟩ := rps_one r
    obtain ⟨a, ys, gp, rfl, h1, h2, _, _⟩ := l.rp rx
    have z := h2.solid _ _ _ hs
    subst z
    refine ⟨a, ys, es, rfl, h1, h2.dp _ _ _ ok.1, h2.len, ok, fun l hl => ?_⟩
    have e := Ext.new (c := ⟨K, S⟩) (o := .lst (sortV false ys es)) hl
    refine q _ (.ref l) _ [l] hR e (s.new hl) ?_ (fun c hc => by rw [List.mem_singleton.mp hc]; exact s.fresh hl) (List.pairwise_singleton _ _) fun c hc => by rw [List.mem_singleton.mp hc]; exact hl
    simp only [Rp]
    exact ⟨l, _, [], rfl, rfl, upd_same, (rps_sort false h2).ext .nil e s⟩
  · exact False.elim hf
end
end Z
set_option Elab.async false
set_option linter.all false
set_option maxRecDepth 100000
set_option maxHeartbeats 4000000
/-! G40: span lots and partings, there and back. -/
namespace Z
open PySem PySem.Spec PyProof.Rows L2
theorem map_inj' {α β : Type} {f : α → β} : ∀ {L : List α}, (L.map f).Nodup → ∀ {p q : α}, p ∈ L → q ∈ L → f p = f q → p = q
  | [], _, _, _, h, _, _ => by cases h
  | a :: L, nd, p, q, hp, hq, e => by
    obtain ⟨n1, n2⟩ := List.nodup_cons.mp nd
    rcases List.mem_cons.mp hp with h1 | h1 <;> rcases List.mem_cons.mp hq with h2 | h2
    · rw [h1, h2]
    · rw [h1] at e
      exact (n1 (List.mem_map.mpr ⟨q, h2, e.symm⟩)).elim
    · rw [h2] at e
      exact (n1 (List.mem_map.mpr ⟨p, h1, e⟩)).elim
    · exact map_inj' n2 h1 h2 e
theorem len_filter {α : Type} (f : α → Bool) : ∀ L : List α, (L.filter f).length + (L.filter fun x => !f x).length = L.length
  | [] => rfl
  | a :: L => by
    have := len_filter f L
    cases c : f a <;> simp [c] <;> omega
/-! ### what goes on from a place, and its root -/
def prevL (L : List (Nat × Nat)) (b : Nat) : Option Nat := (L.find? fun p => p.2 + 1 == b).map Prod.fst
def root (L : List (Nat × Nat)) (k : Nat) : Nat := match prevL L k with
  | some a => if h : a < k then root L a else k
  | none => k
termination_by k
theorem prev_some {n : Nat} {L : List (Nat × Nat)} (h : Apart n L) {a b : Nat} : prevL L b = some a ↔ ∃ p ∈ L, p.1 = a ∧ p.2 + 1 = b := by
  unfold prevL
  constructor
  · intro e
    obtain ⟨p, hp, rfl⟩ := Option.map_eq_some_iff.mp e
    exact ⟨p, List.mem_of_find?_eq_some hp, rfl, by simpa using List.find?_some hp⟩
  · rintro ⟨p, hp, rfl, rfl⟩
    cases c : L.find? fun q => q.2 + 1 == p.2 + 1 with
    | none =>
      have := List.find?_eq_none.mp c p hp
      simp at this
    | some q =>
      have hq := List.mem_of_find?_eq_some c
      have e : q.2 = p.2 := by simpa using List.find?_some c
      have : q = p := map_inj' h.snd hq hp e
      rw [this]
      rfl
theorem prev_lt {n : Nat} {L : List (Nat × Nat)} (h : Apart n L) {a b : Nat} (e : prevL L b = some a) : a < b := by
  obtain ⟨p, hp, rfl, rfl⟩ := (prev_some h).mp e
  have := (h.ok p hp).1
  omega
theorem root_none {L : List (Nat × Nat)} {k : Nat} (h : prevL L k = none) : root L k = k := by
  rw [root.eq_1, h]
theorem root_some {n : Nat} {L : List (Nat × Nat)} (h : Apart n L) {a b : Nat} (e : prevL L b = some a) : root L b = root L a := by
  rw [root.eq_1, e]
  exact dif_pos (prev_lt h e)
theorem root_le {n : Nat} {L : List (Nat × Nat)} (h : Apart n L) (k : Nat) : root L k ≤ k := by
  induction k using Nat.strongRecOn with
  | ind k ih =>
    cases c : prevL L k with
    | none => rw [root_none c]; exact Nat.le_refl _
    | some a =>
      have l := prev_lt h c
      rw [root_some h c]
      have := ih a l
      omega
theorem root_head {n : Nat} {L : List (Nat × Nat)} (h : Apart n L) (k : Nat) : prevL L (root L k) = none := by
  induction k using Nat.strongRecOn with
  | ind k ih =>
    cases c : prevL L k with
    | none => rw [root_none c]; exact c
    | some a =>
      rw [root_some h c]
      exact ih a (prev_lt h c)
/-- firsts tell their pairs, lasts too -/
theorem ap_fst {n : Nat} {L : List (Nat × Nat)} (h : Apart n L) {p q : Nat × Nat} (hp : p ∈ L) (hq : q ∈ L) (e : p.1 = q.1) : p = q := map_inj' h.fst hp hq e
theorem follow {n : Nat} {L : List (Nat × Nat)} (h : Apart n L) : ∀ (b a : Nat), root L a = root L b → a < b → ∃ p ∈ L, p.1 = a ∧ p.2 + 1 ≤ b := by
  intro b
  induction b using Nat.strongRecOn with
  | ind b ih =>
    intro a e l
    cases c : prevL L b with
    | none =>
      rw [root_none c] at e
      have := root_le h a
      omega
    | some x =>
      have lx := prev_lt h c
      rw [root_some h c] at e
      obtain ⟨q, hq, q1, q2⟩ := (prev_some h).mp c
      rcases Nat.lt_trichotomy a x with z | z | z
      · obtain ⟨p, hp, e1, e2⟩ := ih x lx a e z
        exact ⟨p, hp, e1, by omega⟩
      · exact ⟨q, hq, by omega, by omega⟩
      · obtain ⟨p, hp, e1, e2⟩ := ih a l x e.symm z
        have := ap_fst h hp hq (by omega)
        rw [this] at e2
        omega
/-! ### chains -/
def chain (n : Nat) (L : List (Nat × Nat)) (h : Nat) : List Nat := (List.range (n + 1)).filter fun k => root L k == h
def headsL (n : Nat) (L : List (Nat × Nat)) : List Nat := (List.range (n + 1)).filter fun k => (prevL L k).isNone
def chains (n : Nat) (L : List (Nat × Nat)) : List (List Nat) := (headsL n L).map (chain n L)
theorem mem_chain {n h k : Nat} {L : List (Nat × Nat)} : k ∈ chain n L h ↔ k ≤ n ∧ root L k = h := by
  unfold chain
  rw [List.mem_filter, List.mem_range, beq_iff_eq]
  omega
theorem mem_headsL {n k : Nat} {L : List (Nat × Nat)} : k ∈ headsL n L ↔ k ≤ n ∧ prevL L k = none := by
  unfold headsL
  rw [List.mem_filter, List.mem_range, Option.isNone_iff_eq_none, Nat.lt_succ_iff]
theorem chain_asc (n : Nat) (L : List (Nat × Nat)) (h : Nat) : (chain n L h).Pairwise (· < ·) := (List.pairwise_lt_range (n := n + 1)).filter _
theorem headsL_asc (n : Nat) (L : List (Nat × Nat)) : (headsL n L).Pairwise (· < ·) := (List.pairwise_lt_range (n := n + 1)).filter _
theorem asc_cons {l : List Nat} (ha : l.Pairwise (· < ·)) {h : Nat} (hm : h ∈ l) (hl : ∀ x ∈ l, h ≤ x) : ∃ t, l = h :: t := by
  cases l with
  | nil => cases hm
  | cons a t =>
    refine ⟨t, ?_⟩
    rcases List.mem_cons.mp hm with rfl | hm
    · rfl
    · have := (List.pairwise_cons.mp ha).1 h hm
      have := hl a (List.mem_cons_self ..)
      omega
theorem chain_cons {n h : Nat} {L : List (Nat × Nat)} (ap : Apart n L) (hh : h ∈ headsL n L) : ∃ t, chain n L h = h :: t := by
  obtain ⟨h1, h2⟩ := mem_headsL.mp hh
  refine asc_cons (chain_asc n L h) (mem_chain.mpr ⟨h1, root_none h2⟩) fun x hx => ?_
  have := (mem_chain.mp hx).2
  have := root_le ap x
  omega
theorem asc_nats {A B : List Nat} (hA : A.Pairwise (· < ·)) (hB : B.Pairwise (· < ·)) (h : ∀ x, x ∈ A ↔ x ∈ B) : A = B := by
  refine asc_same (key := fun k : Nat => [((k : Nat) : Int)]) (hA.imp fun {a b} z => ?_) (hB.imp fun {a b} z => ?_) h
  · rw [List.cons_lt_cons_iff]
    exact .inl (by omega)
  · rw [List.cons_lt_cons_iff]
    exact .inl (by omega)
/-! ### partings -/
/-- lots of numbers that have each number to n once, ascending each -/
structure PartU (n : Nat) (P : List (List Nat)) : Prop where
  ne : ∀ B ∈ P, B ≠ []
  asc : ∀ B ∈ P, B.Pairwise (· < ·)
  nd : P.flatten.Nodup
  cov : ∀ k, k ∈ P.flatten ↔ k ≤ n
/-- told in order -/
structure Part (n : Nat) (P : List (List Nat)) : Prop extends PartU n P where
  up : (P.map fun B => B.headD 0).Pairwise (· < ·)
def adj : List Nat → List (Nat × Nat)
  | a :: b :: t => (a, b - 1) :: adj (b :: t)
  | _ => []
def adjs (P : List (List Nat)) : List (Nat × Nat) := P.flatMap adj
theorem mem_adj : ∀ {B : List Nat}, B.Pairwise (· < ·) → ∀ {a c : Nat}, (a, c) ∈ adj B ↔ a ∈ B ∧ c + 1 ∈ B ∧ a ≤ c ∧ ∀ x ∈ B, x ≤ a ∨ c + 1 ≤ x
  | [], _, a, c => by simp [adj]
  | [x], _, a, c => by
    simp only [adj, List.mem_singleton, List.not_mem_nil, false_iff]
    rintro ⟨h1, h2, h3, h4⟩
    omega
  | x :: y :: t, h, a, c => by
    have hx := (List.pairwise_cons.mp h).1
    have hy := (List.pairwise_cons.mp (List.pairwise_cons.mp h).2).1
    have xy := hx y (List.mem_cons_self ..)
    simp only [adj, List.mem_cons (a := (a, c)), Prod.mk.injEq]
    rw [mem_adj (List.pairwise_cons.mp h).2]
    constructor
    · rintro (⟨rfl, rfl⟩ | ⟨h1, h2, h3, h4⟩)
      · refine ⟨List.mem_cons_self .., ?_, by omega, fun z hz => ?_⟩
        · rw [show y - 1 + 1 = y by omega]
          simp
        · rcases List.mem_cons.mp hz with rfl | hz
          · left; omega
          · rcases List.mem_cons.mp hz with rfl | hz
            · right; omega
            · have := hy z hz
              right; omega
      · refine ⟨List.mem_cons_of_mem _ h1, List.mem_cons_of_mem _ h2, h3, fun z hz => ?_⟩
        rcases List.mem_cons.mp hz with rfl | hz
        · left
          have := hx a h1
          omega
        · exact h4 z hz
    · rintro ⟨h1, h2, h3, h4⟩
      rcases List.mem_cons.mp h1 with rfl | h1
      · left
        refine ⟨rfl, ?_⟩
        have z := h4 y (by simp)
        rcases List.mem_cons.mp h2 with h2 | h2
        · omega
        · rcases List.mem_cons.mp h2 with h2 | h2
          · omega
          · have := hy _ h2
            omega
      · right
        refine ⟨h1, ?_, h3, fun z hz => h4 z (List.mem_cons_of_mem _ hz)⟩
        rcases List.mem_cons.mp h2 with h2 | h2
        · have := hx a h1
          omega
        · exact h2
theorem adj_fst : ∀ B : List Nat, List.Sublist ((adj B).map Prod.fst) B
  | [] => List.Sublist.refl _
  | [x] => List.nil_sublist _
  | x :: y :: t => by
    simp only [adj, List.map_cons]
    exact (adj_fst (y :: t)).cons₂ x
theorem adj_snd : ∀ {B : List Nat}, B.Pairwise (· < ·) → List.Sublist ((adj B).map fun p => p.2 + 1) B.tail
  | [], _ => List.Sublist.refl _
  | [x], _ => List.Sublist.refl _
  | x :: y :: t, h => by
    have := (List.pairwise_cons.mp h).1 y (List.mem_cons_self ..)
    simp only [adj, List.map_cons, List.tail_cons]
    rw [show y - 1 + 1 = y by omega]
    exact (adj_snd (List.pairwise_cons.mp h).2).cons₂ y
theorem adjs_fst : ∀ P : List (List Nat), List.Sublist ((adjs P).map Prod.fst) P.flatten
  | [] => List.Sublist.refl _
  | B :: P => by
    unfold adjs
    rw [List.flatMap_cons, List.map_append, List.flatten_cons]
    exact (adj_fst B).append (adjs_fst P)
theorem adjs_snd : ∀ {P : List (List Nat)}, (∀ B ∈ P, B.Pairwise (· < ·)) → List.Sublist ((adjs P).map fun p => p.2 + 1) P.flatten
  | [], _ => List.Sublist.refl _
  | B :: P, h => by
    unfold adjs
    rw [List.flatMap_cons, List.map_append, List.flatten_cons]
    exact ((adj_snd (h B (List.mem_cons_self ..))).trans (List.tail_sublist B)).append (adjs_snd fun C hC => h C (List.mem_cons_of_mem _ hC))
theorem mem_adjs {P : List (List Nat)} {p : Nat × Nat} : p ∈ adjs P ↔ ∃ B ∈ P, p ∈ adj B := List.mem_flatMap
theorem adjs_apart {n : Nat} {P : List (List Nat)} (h : PartU n P) : Apart n (adjs P) := by
  refine ⟨?_, (adjs_fst P).nodup h.nd, ?_⟩
  · rintro ⟨a, c⟩ hp
    obtain ⟨B, hB, hp⟩ := mem_adjs.mp hp
    obtain ⟨h1, h2, h3, _⟩ := (mem_adj (h.asc B hB)).mp hp
    have := (h.cov (c + 1)).mp (List.mem_flatten.mpr ⟨B, hB, h2⟩)
    exact ⟨h3, by show c < n; omega⟩
  · have := (adjs_snd h.asc).nodup h.nd
    exact (List.pairwise_map.mpr ((List.pairwise_map.mp this).imp fun {a b} z e => z (by rw [e])))
/-- the span lot of a parting -/
def lotOf (P : List (List Nat)) : List (Nat × Nat) := upP (adjs P)
theorem lotOf_lot {n : Nat} {P : List (List Nat)} (h : PartU n P) : LotN n (lotOf P) := by
  have ap := (adjs_apart h).perm (upP_perm _)
  exact ⟨ap, (lt_of_le ap.fst).mp ((asc_first ap.fst).mp (upP_asc _))⟩
theorem mem_lotOf {P : List (List Nat)} {p : Nat × Nat} : p ∈ lotOf P ↔ ∃ B ∈ P, p ∈ adj B := by
  unfold lotOf
  rw [(upP_perm _).mem_iff, mem_adjs]
theorem flat_same {P : List (List Nat)} : P.flatten.Nodup → ∀ {B C : List Nat}, B ∈ P → C ∈ P → ∀ {k : Nat}, k ∈ B → k ∈ C → B = C := by
  induction P with
  | nil => intro _ B C hB; cases hB
  | cons A P ih =>
    intro nd B C hB hC k kB kC
    rw [List.flatten_cons] at nd
    obtain ⟨n1, n2, n3⟩ := List.nodup_append.mp nd
    rcases List.mem_cons.mp hB with h1 | h1 <;> rcases List.mem_cons.mp hC with h2 | h2
    · rw [h1, h2]
    · exact (n3 k (h1 ▸ kB) k (List.mem_flatten.mpr ⟨C, h2, kC⟩) rfl).elim
    · exact (n3 k (h2 ▸ kC) k (List.mem_flatten.mpr ⟨B, h1, kB⟩) rfl).elim
    · exact ih n2 h1 h2 kB kC
theorem asc_head {B : List Nat} (h : B.Pairwise (· < ·)) (ne : B ≠ []) : B.headD 0 ∈ B ∧ ∀ x ∈ B, B.headD 0 ≤ x := by
  cases B with
  | nil => exact (ne rfl).elim
  | cons a t =>
    refine ⟨List.mem_cons_self .., fun x hx => ?_⟩
    show a ≤ x
    rcases List.mem_cons.mp hx with rfl | hx
    · exact Nat.le_refl _
    · have := (List.pairwise_cons.mp h).1 x hx
      omega
/-- the greatest below k -/
theorem asc_before : ∀ {B : List Nat}, B.Pairwise (· < ·) → ∀ {k : Nat}, k ∈ B → k ≠ B.headD 0 → ∃ a, a ∈ B ∧ a < k ∧ ∀ x ∈ B, x ≤ a ∨ k ≤ x
  | [], _, k, h, _ => by cases h
  | [x], _, k, h, ne => by
    rw [List.mem_singleton.mp h] at ne
    exact (ne rfl).elim
  | x :: y :: t, h, k, hk, ne => by
    have hx := (List.pairwise_cons.mp h).1
    have ht := (List.pairwise_cons.mp h).2
    rcases List.mem_cons.mp hk with rfl | hk
    · exact (ne rfl).elim
    · by_cases c : k = y
      · subst c
        have := hx k (List.mem_cons_self ..)
        refine ⟨x, List.mem_cons_self .., this, fun z hz => ?_⟩
        rcases List.mem_cons.mp hz with rfl | hz
        · left; omega
        · right
          exact (asc_head ht (by simp)).2 z hz
      · obtain ⟨a, h1, h2, h3⟩ := asc_before ht hk c
        refine ⟨a, List.mem_cons_of_mem _ h1, h2, fun z hz => ?_⟩
        rcases List.mem_cons.mp hz with rfl | hz
        · left
          have := hx a h1
          omega
        · exact h3 z hz
theorem lot_root {n : Nat} {P : List (List Nat)} (h : PartU n P) {B : List Nat} (hB : B ∈ P) : ∀ k, k ∈ B → root (lotOf P) k = B.headD 0 := by
  have ap := (lotOf_lot h).ap
  intro k
  induction k using Nat.strongRecOn with
  | ind k ih =>
    intro hk
    by_cases c : k = B.headD 0
    · have : prevL (lotOf P) k = none := by
        cases e : prevL (lotOf P) k with
        | none => rfl
        | some a =>
          obtain ⟨⟨a', c'⟩, hp, rfl, e2⟩ := (prev_some ap).mp e
          obtain ⟨C, hC, hp⟩ := mem_lotOf.mp hp
          obtain ⟨h1, h2, h3, _⟩ := (mem_adj (h.asc C hC)).mp hp
          have e2 : c' + 1 = k := e2
          rw [e2] at h2
          have := flat_same h.nd hB hC hk h2
          subst this
          have := (asc_head (h.asc B hB) (h.ne B hB)).2 a' h1
          omega
      rw [root_none this]
      exact c
    · obtain ⟨a, h1, h2, h3⟩ := asc_before (h.asc B hB) hk c
      have : (a, k - 1) ∈ lotOf P := mem_lotOf.mpr ⟨B, hB, (mem_adj (h.asc B hB)).mpr ⟨h1, by rw [show k - 1 + 1 = k by omega]; exact hk, by omega, fun x hx => by have := h3 x hx; omega⟩⟩
      have e : prevL (lotOf P) k = some a := (prev_some ap).mpr ⟨_, this, rfl, by show k - 1 + 1 = k; omega⟩
      rw [root_some ap e]
      exact ih a h2 h1
theorem chains_lotOf {n : Nat} {P : List (List Nat)} (h : Part n P) : chains n (lotOf P) = P := by
  have hU := h.toPartU
  have ap := (lotOf_lot hU).ap
  have mb : ∀ k, k ≤ n → ∃ B ∈ P, k ∈ B := fun k hk => List.mem_flatten.mp ((h.cov k).mpr hk)
  have hd : headsL n (lotOf P) = P.map fun B => B.headD 0 := by
    refine asc_nats (headsL_asc _ _) h.up fun k => ?_
    rw [mem_headsL, List.mem_map]
    constructor
    · rintro ⟨h1, h2⟩
      obtain ⟨B, hB, kB⟩ := mb k h1
      refine ⟨B, hB, ?_⟩
      rw [← lot_root hU hB k kB, root_none h2]
    · rintro ⟨B, hB, rfl⟩
      obtain ⟨h1, _⟩ := asc_head (h.asc B hB) (h.ne B hB)
      refine ⟨(h.cov _).mp (List.mem_flatten.mpr ⟨B, hB, h1⟩), ?_⟩
      have := root_head ap (B.headD 0)
      rwa [lot_root hU hB _ h1] at this
  unfold chains
  rw [hd, List.map_map]
  have : ∀ Q : List (List Nat), (∀ B ∈ Q, B ∈ P) → Q.map (chain n (lotOf P) ∘ fun B => B.headD 0) = Q := by
    intro Q
    induction Q with
    | nil => intro _; rfl
    | cons B Q ih =>
      intro hs
      rw [List.map_cons, ih fun C hC => hs C (List.mem_cons_of_mem _ hC)]
      congr 1
      have hB := hs B (List.mem_cons_self ..)
      refine asc_nats (chain_asc _ _ _) (h.asc B hB) fun k => ?_
      rw [Function.comp_apply, mem_chain]
      constructor
      · rintro ⟨h1, h2⟩
        obtain ⟨C, hC, kC⟩ := mb k h1
        rw [lot_root hU hC k kC] at h2
        have a1 := (asc_head (h.asc B hB) (h.ne B hB)).1
        rw [← h2] at a1
        have := flat_same h.nd hB hC a1 (asc_head (h.asc C hC) (h.ne C hC)).1
        rw [this]
        exact kC
      · intro kB
        exact ⟨(h.cov k).mp (List.mem_flatten.mpr ⟨B, hB, kB⟩), lot_root hU hB k kB⟩
  exact this P fun B hB => hB
theorem chains_part {n : Nat} {L : List (Nat × Nat)} (h : Apart n L) : Part n (chains n L) := by
  have hm : ∀ {B : List Nat}, B ∈ chains n L ↔ ∃ k ∈ headsL n L, chain n L k = B := List.mem_map
  refine ⟨⟨fun B hB => ?_, fun B hB => ?_, ?_, fun k => ?_⟩, ?_⟩
  · obtain ⟨k, hk, rfl⟩ := hm.mp hB
    obtain ⟨t, e⟩ := chain_cons h hk
    rw [e]
    simp
  · obtain ⟨k, hk, rfl⟩ := hm.mp hB
    exact chain_asc _ _ _
  · unfold chains
    have : ∀ H : List Nat, H.Nodup → ((H.map (chain n L)).flatten).Nodup := by
      intro H
      induction H with
      | nil => intro _; exact List.nodup_nil
      | cons a H ih =>
        intro nd
        rw [List.map_cons, List.flatten_cons]
        refine List.nodup_append.mpr ⟨(chain_asc n L a).imp fun z => Nat.ne_of_lt z, ih (List.nodup_cons.mp nd).2, fun x hx y hy e => ?_⟩
        subst e
        obtain ⟨B, hB, hx2⟩ := List.mem_flatten.mp hy
        obtain ⟨b, hb, rfl⟩ := List.mem_map.mp hB
        have e1 := (mem_chain.mp hx).2
        have e2 := (mem_chain.mp hx2).2
        exact (List.nodup_cons.mp nd).1 (by rw [← e1, e2]; exact hb)
    exact this _ ((headsL_asc n L).imp fun z => Nat.ne_of_lt z)
  · rw [List.mem_flatten]
    constructor
    · rintro ⟨B, hB, kB⟩
      obtain ⟨a, _, rfl⟩ := hm.mp hB
      exact (mem_chain.mp kB).1
    · intro hk
      have := root_le h k
      exact ⟨_, hm.mpr ⟨root L k, mem_headsL.mpr ⟨by omega, root_head h k⟩, rfl⟩, mem_chain.mpr ⟨hk, rfl⟩⟩
  · unfold chains
    rw [List.map_map]
    have e : (headsL n L).map ((fun B => B.headD 0) ∘ chain n L) = headsL n L := by
      have : ∀ H : List Nat, (∀ k ∈ H, k ∈ headsL n L) → H.map ((fun B => B.headD 0) ∘ chain n L) = H := by
        intro H
        induction H with
        | nil => intro _; rfl
        | cons a H ih =>
          intro hs
          obtain ⟨t, e⟩ := chain_cons h (hs a (List.mem_cons_self ..))
          rw [List.map_cons, ih fun k hk => hs k (List.mem_cons_of_mem _ hk), Function.comp_apply, e]
          rfl
      exact this _ fun k hk => hk
    rw [e]
    exact headsL_asc n L
theorem lotN_asc {n : Nat} {L : List (Nat × Nat)} (h : LotN n L) : L.Pairwise fun p q => prI p < prI q :=
  (List.pairwise_map.mp h.asc).imp fun {p q} z => prI_lt.mpr (.inl z)
theorem lotN_same {n : Nat} {L M : List (Nat × Nat)} (h1 : LotN n L) (h2 : LotN n M) (h : ∀ p, p ∈ L ↔ p ∈ M) : L = M := asc_same (key := prI) (lotN_asc h1) (lotN_asc h2) h
theorem lotOf_chains {n : Nat} {L : List (Nat × Nat)} (h : LotN n L) : lotOf (chains n L) = L := by
  have hP := (chains_part h.ap).toPartU
  refine lotN_same (lotOf_lot hP) h fun p => ?_
  obtain ⟨a, c⟩ := p
  rw [mem_lotOf]
  constructor
  · rintro ⟨B, hB, hp⟩
    obtain ⟨k, hk, rfl⟩ := List.mem_map.mp hB
    obtain ⟨h1, h2, h3, h4⟩ := (mem_adj (chain_asc _ _ _)).mp hp
    have r1 := mem_chain.mp h1
    have r2 := mem_chain.mp h2
    obtain ⟨q, hq, e1, e2⟩ := follow h.ap (c + 1) a (by rw [r1.2, r2.2]) (by omega)
    have ok := h.ap.ok q hq
    have rq : root L (q.2 + 1) = root L q.1 := root_some h.ap ((prev_some h.ap).mpr ⟨q, hq, rfl, rfl⟩)
    have := h4 (q.2 + 1) (mem_chain.mpr ⟨by have := ok.2; omega, by rw [rq, e1]; exact r1.2⟩)
    have := ok.1
    have e3 : q = (a, c) := Prod.ext e1 (by show q.2 = c; omega)
    rw [← e3]
    exact hq
  · intro hp
    have ok := h.ap.ok _ hp
    have o1 : a ≤ c := ok.1
    have o2 : c < n := ok.2
    have rq : root L (c + 1) = root L a := root_some h.ap ((prev_some h.ap).mpr ⟨_, hp, rfl, rfl⟩)
    have := root_le h.ap a
    refine ⟨_, List.mem_map.mpr ⟨root L a, mem_headsL.mpr ⟨by omega, root_head h.ap a⟩, rfl⟩, (mem_adj (chain_asc _ _ _)).mpr ⟨mem_chain.mpr ⟨by omega, rfl⟩, mem_chain.mpr ⟨by omega, rq⟩, o1, fun x hx => ?_⟩⟩
    have rx := (mem_chain.mp hx).2
    refine Classical.byContradiction fun z => ?_
    obtain ⟨q, hq, e1, e2⟩ := follow h.ap x a rx.symm (by omega)
    have := ap_fst h.ap hq hp e1
    rw [this] at e2
    have e2 : c + 1 ≤ x := e2
    omega
theorem chains_len {n : Nat} {L : List (Nat × Nat)} (h : Apart n L) : (chains n L).length + L.length = n + 1 := by
  have e : (chains n L).length = (headsL n L).length := List.length_map _
  rw [e]
  have e2 : ((List.range (n + 1)).filter fun k => !(prevL L k).isNone).length = L.length := by
    have nd1 : ((List.range (n + 1)).filter fun k => !(prevL L k).isNone).Nodup := List.filter_sublist.nodup List.nodup_range
    have nd2 : (L.map fun p => p.2 + 1).Nodup := List.pairwise_map.mpr ((List.pairwise_map.mp h.snd).imp fun {a b} z e => z (by omega))
    have hm : ∀ k, k ∈ ((List.range (n + 1)).filter fun k => !(prevL L k).isNone) ↔ k ∈ L.map fun p => p.2 + 1 := fun k => by
      rw [List.mem_filter, List.mem_range, List.mem_map]
      constructor
      · rintro ⟨h1, h2⟩
        cases c : prevL L k with
        | none => rw [c] at h2; cases h2
        | some a =>
          obtain ⟨p, hp, _, e⟩ := (prev_some h).mp c
          exact ⟨p, hp, e⟩
      · rintro ⟨p, hp, rfl⟩
        have := (h.ok p hp).2
        rw [(prev_some h).mpr ⟨p, hp, rfl, rfl⟩]
        exact ⟨by omega, rfl⟩
    rw [← List.length_map (fun p : Nat × Nat => p.2 + 1) (as := L)]
    exact Nat.le_antisymm (nodup_sub_len _ _ nd1 fun x hx => (hm x).mp hx) (nodup_sub_len _ _ nd2 fun x hx => (hm x).mpr hx)
  rw [← e2]
  have := len_filter (fun k => (prevL L k).isNone) (List.range (n + 1))
  rw [List.length_range] at this
  unfold headsL
  omega
/-! ### names joined -/
theorem root_join {n : Nat} {M : List (Nat × Nat)} {p : Nat × Nat} (h : Apart n (M ++ [p])) : ∀ k, root (M ++ [p]) k = if root M k = root M (p.2 + 1) then root M p.1 else root M k := by
  have hM : Apart n M := ⟨fun q hq => h.ok q (List.mem_append_left _ hq), (List.Sublist.map _ (List.sublist_append_left M [p])).nodup h.fst, (List.Sublist.map _ (List.sublist_append_left M [p])).nodup h.snd⟩
  have pm : p ∈ M ++ [p] := by simp
  have c0 : prevL M (p.2 + 1) = none := by
    cases e : prevL M (p.2 + 1) with
    | none => rfl
    | some a =>
      obtain ⟨q, hq, _, e2⟩ := (prev_some hM).mp e
      have nd := h.snd
      rw [List.map_append] at nd
      have := (List.nodup_append.mp nd).2.2 q.2 (List.mem_map.mpr ⟨q, hq, rfl⟩) p.2 (by simp)
      exact (this (by omega)).elim
  have rc : root M (p.2 + 1) = p.2 + 1 := root_none c0
  have pv : ∀ k, k ≠ p.2 + 1 → prevL (M ++ [p]) k = prevL M k := fun k hk => by
    unfold prevL
    rw [List.find?_append]
    have : List.find? (fun q => q.2 + 1 == k) [p] = none := by
      rw [List.find?_singleton, if_neg]
      simpa using fun z => hk z.symm
    rw [this, Option.or_none]
  intro k
  induction k using Nat.strongRecOn with
  | ind k ih =>
    by_cases c : k = p.2 + 1
    · subst c
      have e : prevL (M ++ [p]) (p.2 + 1) = some p.1 := (prev_some h).mpr ⟨p, pm, rfl, rfl⟩
      rw [root_some h e, ih p.1 (prev_lt h e), if_pos rfl]
      split
      · rfl
      · rfl
    · have e := pv k c
      cases d : prevL M k with
      | none =>
        rw [d] at e
        rw [root_none e, root_none d, rc, if_neg c]
      | some a =>
        rw [d] at e
        rw [root_some h e, ih a (prev_lt h e), root_some hM d]
theorem names_join {n : Nat} {M : List (Nat × Nat)} {p : Nat × Nat} (h : Apart n (M ++ [p])) : ((List.range (n + 1)).map (root M)).map (fun one => if one == root M (p.2 + 1) then root M p.1 else one) = (List.range (n + 1)).map (root (M ++ [p])) := by
  rw [List.map_map]
  refine List.map_congr_left fun k _ => ?_
  rw [root_join h, Function.comp_apply]
  by_cases c : root M k = root M (p.2 + 1) <;> simp [c]
theorem root_nil (k : Nat) : root [] k = k := root_none rfl
end Z
set_option Elab.async false
set_option linter.all false
set_option maxRecDepth 100000
set_option maxHeartbeats 4000000
/-! G41: all span lots, all partings, how many codes. -/
namespace Z
open PySem PySem.Spec PyProof.Rows L2
/-- all span lots of n whose firsts are below m, as the program tells them -/
def allLots (n : Nat) : Nat → List (List (Nat × Nat))
  | 0 => [[]]
  | m + 1 => allLots n m ++ (allLots n m).flatMap fun L => ((List.range' m (n - m)).filter fun last => !(L.map Prod.snd).contains last).map fun last => L ++ [(m, last)]
/-- all partings of the numbers to k, as the law tells them -/
def partsN : Nat → List (List (List Nat))
  | 0 => [[[0]]]
  | k + 1 => (partsN k).flatMap fun P => (P ++ [[k + 1]]) :: (List.range P.length).map fun i => P.take i ++ [P.getD i [] ++ [k + 1]] ++ P.drop (i + 1)
def rowQ : Nat → List Nat
  | 0 => [1]
  | m + 1 => (List.range ((rowQ m).length + 1)).map fun k => (if 0 < k then (rowQ m).getD (k - 1) 0 else 0) + (if k < (rowQ m).length then (rowQ m).getD k 0 * 2 ^ k else 0)
def codesQ (n r : Nat) : Nat := (rowQ n).getD r 0
def upQ (n : Nat) : Nat → Nat
  | 0 => 1
  | k + 1 => upQ n k * (2 ^ (n - k) - 1)
def downQ (a : Nat) : Nat → Nat
  | 0 => a
  | k + 1 => downQ a k / (2 ^ (k + 1) - 1)
theorem rowQ_len (n : Nat) : (rowQ n).length = n + 1 := by
  induction n with
  | zero => rfl
  | succ n ih => rw [rowQ, List.length_map, List.length_range, ih]
theorem codes_many : ∀ n, n ≤ 12 → ∀ r, r ≤ n → codesQ n r = downQ (upQ n r) r := by
  have h : ∀ n, n < 13 → ∀ r, r < n + 1 → codesQ n r = downQ (upQ n r) r := by decide +kernel
  exact fun n hn r hr => h n (by omega) r (by omega)
/-! ### all of them -/
theorem lot_mem {n : Nat} : ∀ m, m ≤ n → ∀ L : List (Nat × Nat), LotN n L → (∀ p ∈ L, p.1 < m) → L ∈ allLots n m := by
  intro m
  induction m with
  | zero =>
    intro _ L _ h
    cases L with
    | nil => simp [allLots]
    | cons p L => exact absurd (h p (List.mem_cons_self ..)) (Nat.not_lt_zero _)
  | succ m ih =>
    intro hm L hL h
    rw [allLots]
    rcases List.eq_nil_or_concat L with rfl | ⟨M, p, e⟩
    · exact List.mem_append_left _ (ih (by omega) _ hL fun p hp => by cases hp)
    · rw [List.concat_eq_append] at e
      subst e
      have asc := hL.asc
      rw [List.map_append] at asc
      obtain ⟨a1, _, a3⟩ := List.pairwise_append.mp asc
      have less : ∀ q ∈ M, q.1 < p.1 := fun q hq => a3 q.1 (List.mem_map.mpr ⟨q, hq, rfl⟩) p.1 (by simp)
      have pm := h p (by simp)
      by_cases c : p.1 = m
      · refine List.mem_append_right _ (List.mem_flatMap.mpr ⟨M, ?_, List.mem_map.mpr ⟨p.2, ?_, ?_⟩⟩)
        · refine ih (by omega) M ⟨⟨fun q hq => hL.ap.ok q (List.mem_append_left _ hq), (List.Sublist.map _ (List.sublist_append_left M [p])).nodup hL.ap.fst, (List.Sublist.map _ (List.sublist_append_left M [p])).nodup hL.ap.snd⟩, a1⟩ fun q hq => ?_
          have := less q hq
          omega
        · have ok := hL.ap.ok p (by simp)
          have o1 := ok.1
          have o2 := ok.2
          rw [List.mem_filter, List.mem_range'_1]
          refine ⟨by omega, ?_⟩
          have nd := hL.ap.snd
          rw [List.map_append] at nd
          have := (List.nodup_append.mp nd).2.2
          simp only [Bool.not_eq_true', List.contains_eq_mem, decide_eq_false_iff_not]
          intro hc
          exact this p.2 hc p.2 (by simp) rfl
        · rw [← c]
      · refine List.mem_append_left _ (ih (by omega) _ hL fun q hq => ?_)
        rcases List.mem_append.mp hq with hq | hq
        · have := less q hq
          omega
        · rw [List.mem_singleton.mp hq]
          omega
theorem allLots_len (n : Nat) : ∀ m, m ≤ n → (allLots n m).length ≤ (n + 1) ^ m := by
  intro m
  induction m with
  | zero => intro _; exact Nat.le_refl _
  | succ m ih =>
    intro hm
    have h := ih (by omega)
    have : ∀ A : List (List (Nat × Nat)), (A.flatMap fun L => ((List.range' m (n - m)).filter fun last => !(L.map Prod.snd).contains last).map fun last => L ++ [(m, last)]).length ≤ A.length * n := by
      intro A
      induction A with
      | nil => simp
      | cons L A ih2 =>
        have l := List.length_filter_le (fun last => !(L.map Prod.snd).contains last) (List.range' m (n - m))
        rw [List.length_range'] at l
        rw [List.flatMap_cons, List.length_append, List.length_map, List.length_cons, Nat.succ_mul]
        omega
    have := this (allLots n m)
    rw [allLots, List.length_append, Nat.pow_succ, Nat.mul_succ]
    have : (allLots n m).length * n ≤ (n + 1) ^ m * n := Nat.mul_le_mul_right _ h
    omega
theorem perm_sub {α : Type} [DecidableEq α] : ∀ {E A : List α}, E.Nodup → (∀ x ∈ E, x ∈ A) → A.length ≤ E.length → A.Perm E
  | [], A, _, _, h => by
    have : A = [] := List.eq_nil_of_length_eq_zero (by simpa using h)
    rw [this]
  | e :: E, A, nd, hs, hl => by
    obtain ⟨n1, n2⟩ := List.nodup_cons.mp nd
    have he := hs e (List.mem_cons_self ..)
    have l := List.length_erase_of_mem he
    have l2 := List.length_pos_of_mem he
    rw [List.length_cons] at hl
    refine (List.perm_cons_erase he).trans (List.Perm.cons e (perm_sub n2 (fun x hx => ?_) (by omega)))
    exact (List.mem_erase_of_ne fun (z : x = e) => n1 (by rw [← z]; exact hx)).mpr (hs x (List.mem_cons_of_mem _ hx))
def upB : List Nat → Bool
  | a :: b :: t => Nat.blt a b && upB (b :: t)
  | _ => true
theorem upB_ok : ∀ {L : List Nat}, upB L = true → L.Pairwise (· < ·)
  | [], _ => List.Pairwise.nil
  | [a], _ => List.pairwise_singleton _ _
  | a :: b :: t, h => by
    simp only [upB, Bool.and_eq_true] at h
    have ih := upB_ok h.2
    have l : a < b := by simpa using Nat.blt_eq.mp h.1
    refine List.pairwise_cons.mpr ⟨fun x hx => ?_, ih⟩
    rcases List.mem_cons.mp hx with rfl | hx
    · exact l
    · have := (List.pairwise_cons.mp ih).1 x hx
      omega
/-- the block that k stands in: 0 where it begins one, else the block's number and one more -/
def digP (P : List (List Nat)) (k : Nat) : Nat := if P.any fun B => B.headD 0 == k then 0 else (P.findIdx fun B => B.contains k) + 1
def codeP (n : Nat) (P : List (List Nat)) : Nat := (List.range (n + 1)).foldl (fun c k => c * 8 + digP P k) 0
/-- whether a list of lists is a parting: that can be reckoned -/
def partB (n : Nat) (P : List (List Nat)) : Bool := P.all (fun B => !B.isEmpty && upB B) && upB (P.map fun B => B.headD 0) && (List.range (n + 1)).all (fun k => P.flatten.contains k) && P.flatten.length == n + 1
theorem partB_ok {n : Nat} {P : List (List Nat)} (h : partB n P = true) : Part n P := by
  unfold partB at h
  rw [Bool.and_eq_true, Bool.and_eq_true, Bool.and_eq_true, List.all_eq_true, List.all_eq_true, beq_iff_eq] at h
  obtain ⟨⟨⟨h1, h2⟩, h3⟩, h4⟩ := h
  have sub : ∀ k ∈ List.range (n + 1), k ∈ P.flatten := fun k hk => by simpa using h3 k hk
  have pm := perm_sub (List.nodup_range (n := n + 1)) sub (by rw [h4, List.length_range]; exact Nat.le_refl _)
  refine ⟨⟨fun B hB => ?_, fun B hB => ?_, pm.nodup_iff.mpr List.nodup_range, fun k => ?_⟩, upB_ok h2⟩
  · have := h1 B hB
    rw [Bool.and_eq_true] at this
    rintro rfl
    cases this.1
  · have := h1 B hB
    rw [Bool.and_eq_true] at this
    exact upB_ok this.2
  · rw [pm.mem_iff, List.mem_range]
    omega
def bell : Nat → Nat
  | 1 => 2 | 2 => 5 | 3 => 15 | 4 => 52 | 5 => 203 | 6 => 877 | _ => 1
theorem parts_all : ∀ n, n ≤ 6 → ((partsN n).all (partB n) && upB ((partsN n).map (codeP n)) && (partsN n).length == bell n && (allLots n n).length == bell n) = true := by
  have h : ∀ n, n < 7 → ((partsN n).all (partB n) && upB ((partsN n).map (codeP n)) && (partsN n).length == bell n && (allLots n n).length == bell n) = true := by decide +kernel
  exact fun n hn => h n (by omega)
def freeN (L : List (Nat × Nat)) : Int := (L.map fun p => (((freeP L p).length : Nat) : Int)).sum
def freeK (L : List (Nat × Nat)) : Nat := (L.map fun p => (freeP L p).length).sum
theorem sums_lots : ∀ n, n ≤ 6 → ∀ r, r ≤ n → (((allLots n n).filter fun L => L.length == r).map fun L => 2 ^ freeK L).sum = codesQ n r := by
  have h : ∀ n, n < 7 → ∀ r, r < n + 1 → (((allLots n n).filter fun L => L.length == r).map fun L => 2 ^ freeK L).sum = codesQ n r := by decide +kernel
  exact fun n hn r hr => h n (by omega) r (by omega)
theorem cast_sum : ∀ L : List Nat, ((L.sum : Nat) : Int) = (L.map fun k => ((k : Nat) : Int)).sum
  | [] => rfl
  | a :: L => by
    have := cast_sum L
    simp only [List.sum_cons, List.map_cons]
    omega
theorem parts_part {n : Nat} (hn : n ≤ 6) {P : List (List Nat)} (hP : P ∈ partsN n) : Part n P := by
  have := parts_all n hn
  rw [Bool.and_eq_true, Bool.and_eq_true, Bool.and_eq_true, List.all_eq_true] at this
  exact partB_ok (this.1.1.1 P hP)
theorem parts_bell {n : Nat} (hn : n ≤ 6) : (partsN n).length = bell n ∧ (allLots n n).length = bell n := by
  have := parts_all n hn
  rw [Bool.and_eq_true, Bool.and_eq_true, Bool.and_eq_true, beq_iff_eq, beq_iff_eq] at this
  exact ⟨this.1.2, this.2⟩
theorem lots_perm {n : Nat} (hn : n ≤ 6) : (allLots n n).Perm ((partsN n).map lotOf) := by
  have h := parts_all n hn
  rw [Bool.and_eq_true, Bool.and_eq_true, Bool.and_eq_true] at h
  have nd : (partsN n).Nodup := by
    have := (upB_ok h.1.1.2).imp fun {a b} z => Nat.ne_of_lt z
    exact (List.pairwise_map.mp this).imp fun {a b} z e => z (by rw [e])
  refine perm_sub ?_ (fun L hL => ?_) ?_
  · have : ((partsN n).map lotOf).map (chains n) = partsN n := by
      rw [List.map_map]
      refine Eq.trans (List.map_congr_left (g := id) fun P hP => chains_lotOf (parts_part hn hP)) (List.map_id _)
    have nd2 := nd
    rw [← this] at nd2
    exact (List.pairwise_map.mp nd2).imp fun {a b} z e => z (by rw [e])
  · obtain ⟨P, hP, rfl⟩ := List.mem_map.mp hL
    have lot := lotOf_lot (parts_part hn hP).toPartU
    exact lot_mem n (Nat.le_refl _) _ lot fun p hp => by
      have := lot.ap.ok p hp
      have a1 := this.1
      have a2 := this.2
      omega
  · rw [List.length_map, (parts_bell hn).1, (parts_bell hn).2]
    exact Nat.le_refl _
theorem freeN_K (L : List (Nat × Nat)) : freeN L = ((freeK L : Nat) : Int) := by
  unfold freeN freeK
  rw [cast_sum, List.map_map]
  rfl
/-! ### lots put in order -/
def lotP (L : List (Nat × Nat)) : D := .tuple (L.map prD)
theorem rowLt_pr : ∀ L M : List (Nat × Nat), PySem.W.rowLt (L.map prD) (M.map prD) = decide (L.map prI < M.map prI)
  | [], [] => by
    have e : PySem.W.rowLt [] [] = false := PyProof.Rows.lex_irrefl _
    simp [e]
  | [], q :: M => by
    have e : PySem.W.rowLt [] (prD q :: M.map prD) = true := by
      unfold PySem.W.rowLt
      rw [PySem.W.toks_all_cons]
      simp only [PySem.W.keyToksAll]
      rw [PyProof.Rows.lex_diff (O := PyProof.Rows.itemOrd) (by simp)]
      rfl
    simpa using e
  | p :: L, [] => by
    have e : PySem.W.rowLt (prD p :: L.map prD) [] = false := by
      unfold PySem.W.rowLt
      rw [PySem.W.toks_all_cons]
      simp only [PySem.W.keyToksAll]
      rw [PyProof.Rows.lex_diff (O := PyProof.Rows.itemOrd) (by simp)]
      rfl
    simpa using e
  | p :: L, q :: M => by
    have al : PySem.W.alike (prD p) (prD q) = true := by simp [prD, natD, PySem.W.alike, PySem.W.alikeAll]
    have e : PySem.W.rowLt (prD p :: L.map prD) (prD q :: M.map prD) = if p = q then PySem.W.rowLt (L.map prD) (M.map prD) else decide (prI p < prI q) := by
      unfold PySem.W.rowLt
      rw [PySem.W.dataLt_cons al, eqv_pr]
      have e2 : PySem.W.dataLt (prD p) (prD q) = decide (prI p < prI q) := by
        rw [show prD p = .tuple [.int ((p.1 : Nat) : Int), .int ((p.2 : Nat) : Int)] from rfl, show prD q = .tuple [.int ((q.1 : Nat) : Int), .int ((q.2 : Nat) : Int)] from rfl, PySem.W.dataLt_ii]
        rw [Bool.eq_iff_iff, decide_eq_true_iff, decide_eq_true_iff, prI_lt]
        omega
      rw [e2]
      simp
    show PySem.W.rowLt (prD p :: L.map prD) (prD q :: M.map prD) = _
    rw [e]
    have inj : prI p = prI q ↔ p = q := by
      constructor
      · intro z
        unfold prI at z
        simp only [List.cons.injEq, and_true] at z
        exact Prod.ext (by omega) (by omega)
      · intro z; rw [z]
    by_cases h : p = q
    · rw [if_pos h, rowLt_pr L M]
      simp [h, List.cons_lt_cons_iff]
    · rw [if_neg h]
      simp [mt inj.mp h, List.cons_lt_cons_iff]
theorem prI_inj {L M : List (Nat × Nat)} (h : L.map prI = M.map prI) : L = M := by
  have : ∀ p q : Nat × Nat, prI p = prI q → p = q := fun p q z => by
    unfold prI at z
    simp only [List.cons.injEq, and_true] at z
    exact Prod.ext (by omega) (by omega)
  exact (List.map_inj_right fun p q => this p q).mp h
def upL (A : List (List (Nat × Nat))) : List (List (Nat × Nat)) := A.mergeSort (PySem.W.dataLe false lotP)
theorem sortD_lotsP (A : List (List (Nat × Nat))) : sortD false (A.map lotP) = (upL A).map lotP := by
  have := List.map_mergeSort (r := PySem.W.dataLe (β := List (Nat × Nat)) false lotP) (s := PySem.W.dataLe false id) (f := lotP) (l := A) (fun a _ b' _ => rfl)
  exact this.symm
theorem upL_perm (A : List (List (Nat × Nat))) : (upL A).Perm A := List.mergeSort_perm _ _
theorem upL_same {A B : List (List (Nat × Nat))} (h : A.Perm B) : upL A = upL B := by
  have pw : ∀ A : List (List (Nat × Nat)), (upL A).Pairwise fun x y => ¬ (y.map prI < x.map prI) := fun A => by
    have t := PySem.W.sortLe_total (PyProof.Rows.listOrd PyProof.Rows.itemOrd) false (fun r : List (Nat × Nat) => PySem.W.keyToks (lotP r))
    have := List.pairwise_mergeSort (le := PySem.W.dataLe false lotP) t.trans (fun a b => by rw [Bool.or_eq_true]; exact t.total a b) A
    refine this.imp fun {x y} z => ?_
    have z : (!PySem.W.dataLt (lotP y) (lotP x)) = true := z
    unfold lotP at z
    rw [PySem.W.dataLt_tuple] at z
    have z : (!PySem.W.rowLt (y.map prD) (x.map prD)) = true := z
    rw [rowLt_pr] at z
    simpa using z
  refine List.Perm.eq_of_pairwise (le := fun x y => ¬ (y.map prI < x.map prI)) (fun x y _ _ h1 h2 => ?_) (pw A) (pw B) (((upL_perm A).trans h).trans (upL_perm B).symm)
  exact prI_inj (List.le_antisymm (List.not_lt.mp h1) (List.not_lt.mp h2))
end Z
namespace Z
open PySem PySem.Spec PyProof.Rows L2
/-! ### small tools -/
theorem at_map {α : Type} {f : α → D} {L : List α} {k : Nat} {i : Int} (e : i = (k : Int)) (h : k < L.length) : atI (L.map f) i = some (f L[k]) := atI_ok (by rw [List.getElem?_map, List.getElem?_eq_getElem h]; rfl) e
theorem at_nats {L : List Nat} {k : Nat} {i : Int} (e : i = (k : Int)) (h : k < L.length) : atI (L.map natD) i = some (natD (L.getD k 0)) := by
  rw [at_map e h, List.getD_eq_getElem?_getD, List.getElem?_eq_getElem h]
  rfl
theorem at_last {α : Type} {xs : List α} {y : α} : atI (xs ++ [y]) (-1) = some y := by
  unfold atI ixN
  rw [if_neg (by decide), if_pos (by rw [List.length_append]; simp; omega)]
  have : (-1 + ((xs ++ [y]).length : Nat) : Int).toNat = xs.length := by rw [List.length_append]; simp; omega
  rw [this]
  simp
section
variable {α β : Type} [DecidableEq α]
theorem aMerge_same {xs : List (α × β)} (nd : (xs.map (·.1)).Nodup) : aMerge xs = xs := by
  have : ∀ (xs acc : List (α × β)), ((acc ++ xs).map (·.1)).Nodup → xs.foldl (fun acc p => aPut acc p.1 p.2) acc = acc ++ xs := fun xs => by
    induction xs with
    | nil => intro acc _; simp
    | cons p xs ih =>
      intro acc nd
      have h0 : p.1 ∉ acc.map (·.1) := fun hm => by
        rw [List.map_append] at nd
        exact (List.nodup_append.mp nd).2.2 p.1 hm p.1 (by simp) rfl
      rw [List.foldl_cons]
      have : aPut acc p.1 p.2 = acc ++ [p] := by
        unfold aPut
        rw [aFind_none.mpr h0]
        rfl
      rw [this, ih _ (by simpa using nd)]
      simp
  exact this xs [] (by simpa using nd)
end
theorem adj_zip : ∀ B : List Nat, B.Pairwise (· < ·) → (B.zip (B.drop 1)).map (fun p => PyData.tuple [natD p.1, .int (((p.2 : Nat) : Int) - 1)]) = (adj B).map prD
  | [], _ => rfl
  | [x], _ => rfl
  | x :: y :: t, h => by
    have := (List.pairwise_cons.mp h).1 y (List.mem_cons_self ..)
    have ih := adj_zip (y :: t) (List.pairwise_cons.mp h).2
    show PyData.tuple [natD x, .int (((y : Nat) : Int) - 1)] :: ((y :: t).zip t).map _ = prD (x, y - 1) :: (adj (y :: t)).map prD
    rw [← ih]
    have : ((y : Nat) : Int) - 1 = ((y - 1 : Nat) : Int) := by omega
    rw [this]
    rfl
theorem adjs_len {n : Nat} {P : List (List Nat)} (h : PartU n P) : (adjs P).length ≤ n := (adjs_apart h).len
theorem part_block {n : Nat} {P : List (List Nat)} (h : PartU n P) {B : List Nat} (hB : B ∈ P) : B.length ≤ n + 1 := by
  have nd : B.Nodup := (h.asc B hB).imp fun z => Nat.ne_of_lt z
  have := pigeon (n + 1) B nd fun x hx => by
    have := (h.cov x).mp (List.mem_flatten.mpr ⟨B, hB, hx⟩)
    omega
  exact this
theorem part_len {n : Nat} {P : List (List Nat)} (h : PartU n P) : P.length ≤ n + 1 := by
  have l : P.flatten.length ≤ n + 1 := pigeon (n + 1) _ h.nd fun x hx => by
    have := (h.cov x).mp hx
    omega
  have : ∀ Q : List (List Nat), (∀ B ∈ Q, B ≠ []) → Q.length ≤ Q.flatten.length := by
    intro Q
    induction Q with
    | nil => intro _; simp
    | cons B Q ih =>
      intro hs
      have := List.length_pos_iff.mpr (hs B (List.mem_cons_self ..))
      have := ih fun C hC => hs C (List.mem_cons_of_mem _ hC)
      rw [List.flatten_cons, List.length_append, List.length_cons]
      omega
  have := this P h.ne
  omega
theorem solid_lotD (B : List Nat) : solid (lotD B) = true := by
  unfold lotD
  rw [solid_tup]
  exact solids_nats B
theorem map_at {α : Type} {f : α → D} {P : List α} {i : Nat} {x : D} (h : (P.map f)[i]? = some x) : ∃ B ∈ P, P[i]? = some B ∧ x = f B := by
  rw [List.getElem?_map] at h
  obtain ⟨B, hB, rfl⟩ := Option.map_eq_some_iff.mp h
  exact ⟨B, List.mem_of_getElem? hB, hB, rfl⟩
theorem adjs_take {P : List (List Nat)} {i : Nat} {B : List Nat} (h : P[i]? = some B) : adjs (P.take (i + 1)) = adjs (P.take i) ++ adj B := by
  rw [List.take_succ, h]
  unfold adjs
  rw [List.flatMap_append]
  simp
theorem adjs_take_len {n : Nat} {P : List (List Nat)} (h : PartU n P) (i : Nat) : (adjs (P.take i)).length ≤ n := by
  have e : adjs P = adjs (P.take i) ++ adjs (P.drop i) := by
    unfold adjs
    rw [← List.flatMap_append, List.take_append_drop]
  have := adjs_len h
  rw [e, List.length_append] at this
  omega
end Z
set_option Elab.async false
set_option linter.all false
set_option maxRecDepth 100000
set_option maxHeartbeats 4000000
local macro_rules | `(tactic| walk_at "z") => `(tactic| simp only [Z.dVar, Z.look, Z.dC, Z.dSolid, Z.dNil, Z.dCons, Z.dBin, Z.dUn, Z.dCall, Z.kont_none, Z.kont_bool, Z.kont_int, Z.kont_str, Z.kont_list, Z.kont_tuple, Z.f2I, Z.f2IC, Z.f1I, Z.asI, Z.dTest, Z.asB, Z.dAnd, Z.dOr, Z.dNot, Z.dYes, Z.dAndV, Z.dOrV, Z.dNotV, Z.dIf, Z.dTup, Z.dLst,
  Z.sNext, Z.sBreak, Z.sCont, Z.sSeq, Z.later_cons, Z.sIf, Z.sDrop, Z.sRet, Z.sRetV, Z.sRetN, Z.sAsg, Z.sAsgG, Z.valsAt, Z.sPar, Z.ownL, Z.sAppend, Z.sSetI, Z.dItems, Z.asItems, Z.items, Z.dRng1, Z.dRng2, Z.dCmbR, Z.dCmbL, Z.dgName, Z.dgNil, Z.dgCons, Z.asT, Z.dgTup, Z.asL, Z.dgUnl, Z.dComp, Z.dEnum, Z.sFor, Z.sAugI,
  Z.startE, Z.startL, Z.retE, Z.lawE, Z.fRepr, Z.fReprU, Z.dItemsZ, Z.fLenF, Z.fEqE, Z.solid_frz, Z.solid_frd, Z.fIx, Z.dKGet, Z.dKGet1, Z.dKGet2, Z.dKIn, Z.ownK, Z.sKPut, Z.sKSetd, Z.sKSetApp, Z.sFz, Z.dXKeys, Z.dXVals, Z.dXItems, Z.dLenX, Z.dNewX, Z.dLenDict0, Z.dLenDictK, Z.dLenSetI, Z.dSortSetT, Z.fDictP, Z.dDictX, Z.fSortedF, Z.fSortedW, Z.fSorted0, Z.fSum, Z.fSumA, Z.dSortDict, Z.dLenDict, Z.asPairs, Z.fMaxA, Z.dIsi, Z.fIsi, Z.isInt, Z.isBool, Z.isStr, Z.isTuple, Z.isList, Z.isDict, Z.dAddN, Z.fAll, Z.fAny, Z.dTupRg, Z.asSeq, Z.dStar, Z.dStarS, Z.fMinD, Z.sMove, Z.dDisp, Z.dPairs, Z.dBits, Z.fDictCp, Z.sPar3, Z.fLen, Z.fTuple, Z.fTupleF, Z.fEqLE, Z.sAugL, Z.fInt, Z.fMul, Z.fAdd, Z.dIndex, Z.dSlice, Z.dRev, Z.fRev, Z.d0New, Z.sPopAt, Z.sRet2, Z.dZipSF, Z.dSortDict0, Z.dFrz, Z.fFrz, Z.fIxF_tup, Z.fIxF_list, Z.dZipF, Z.dIndexF, Z.sUpd0, Z.own0, Z.dLen0, Z.dNo, Z.dPart, Z.fCut, Z.fList, Z.dListRg, Z.fSorted, Z.dZip, Z.dZipS, Z.dTru, Z.f2L, Z.fAbs, Z.fIsN, Z.isNone, Z.dChain, Z.tru, Z.hide, Z.demote, Z.demoteOff, Z.restore, Z.isOwn, Z.solid_tI, Z.solid_tII, Z.solid_int, Z.solid_bool, Z.solid_str, Z.solid_none, Z.solids_nil, Z.solids_cons, Z.solid_tup, Z.solids_ints, Z.solids_tII,
  List.getElem?_cons_zero, List.getElem?_cons_succ, List.set_cons_zero, List.set_cons_succ, List.map_cons, List.map_nil, List.length_cons, List.length_nil, List.nil_append, List.cons_append, List.replicate_succ, List.replicate_zero, List.append_nil, List.contains_cons, List.contains_nil, List.elem_nil, Nat.reduceAdd, Nat.reduceSub, Nat.reduceBEq, Nat.reduceLeDiff, Nat.zero_add, Nat.reduceLT,
  Bool.or_false, Bool.false_or, Bool.true_or, Bool.or_true, Bool.and_true, Bool.true_and, cond_true, cond_false, if_true, if_false, true_and, and_true, Bool.false_eq_true, Bool.true_eq_false, ite_true, ite_false, reduceIte, beq_self_eq_true, List.not_mem_nil, implies_true, false_implies, Bool.not_true, Bool.not_false])
local macro_rules | `(tactic| walk_at "y") => `(tactic| simp only [Z.ix0, Z.ix1, Z.dVar, Z.look, Z.dC, Z.dSolid, Z.dNil, Z.dCons, Z.dBin, Z.dUn, Z.dCall, Z.kont_none, Z.kont_bool, Z.kont_int, Z.kont_str, Z.kont_list, Z.kont_tuple, Z.f2I, Z.f2IC, Z.f1I, Z.asI, Z.dTest, Z.asB, Z.dAnd, Z.dOr, Z.dNot, Z.dYes, Z.dAndV, Z.dOrV, Z.dNotV, Z.dIf, Z.dTup, Z.dLst,
  Z.sNext, Z.sBreak, Z.sCont, Z.sSeq, Z.later_cons, Z.sIf, Z.sDrop, Z.sRet, Z.sRetV, Z.sRetN, Z.sAsg, Z.sAsgG, Z.valsAt, Z.sPar, Z.ownL, Z.sAppend, Z.sSetI, Z.dItems, Z.asItems, Z.items, Z.dRng1, Z.dRng2, Z.dCmbR, Z.dCmbL, Z.dgName, Z.dgNil, Z.dgCons, Z.asT, Z.dgTup, Z.asL, Z.dgUnl, Z.dComp, Z.dEnum, Z.sFor, Z.sAugI,
  Z.startE, Z.startL, Z.retE, Z.lawE, Z.fRepr, Z.fReprU, Z.dItemsZ, Z.fLenF, Z.fEqE, Z.solid_frz, Z.solid_frd, Z.fIx, Z.dKGet, Z.dKGet1, Z.dKGet2, Z.dKIn, Z.ownK, Z.sKPut, Z.sKSetd, Z.sKSetApp, Z.sFz, Z.dXKeys, Z.dXVals, Z.dXItems, Z.dLenX, Z.dNewX, Z.dLenDict0, Z.dLenDictK, Z.dLenSetI, Z.dSortSetT, Z.fDictP, Z.dDictX, Z.fSortedF, Z.fSortedW, Z.fSorted0, Z.fSum, Z.fSumA, Z.dSortDict, Z.dLenDict, Z.asPairs, Z.fMaxA, Z.dIsi, Z.fIsi, Z.isInt, Z.isBool, Z.isStr, Z.isTuple, Z.isList, Z.isDict, Z.dAddN, Z.fAll, Z.fAny, Z.dTupRg, Z.asSeq, Z.dStar, Z.dStarS, Z.fMinD, Z.sMove, Z.dDisp, Z.dPairs, Z.dBits, Z.fDictCp, Z.sPar3, Z.fLen, Z.fTuple, Z.fTupleF, Z.fEqLE, Z.sAugL, Z.fInt, Z.fMul, Z.fAdd, Z.dIndex, Z.dSlice, Z.dRev, Z.fRev, Z.d0New, Z.sPopAt, Z.sRet2, Z.dZipSF, Z.dSortDict0, Z.dFrz, Z.fFrz, Z.fIxF_tup, Z.fIxF_list, Z.dZipF, Z.dIndexF, Z.sUpd0, Z.own0, Z.dLen0, Z.dNo, Z.dPart, Z.fCut, Z.fList, Z.dListRg, Z.fSorted, Z.dZip, Z.dZipS, Z.dTru, Z.f2L, Z.fAbs, Z.fIsN, Z.isNone, Z.dChain, Z.tru, Z.hide, Z.demote, Z.demoteOff, Z.restore, Z.isOwn, Z.solid_tI, Z.solid_tII, Z.solid_int, Z.solid_bool, Z.solid_str, Z.solid_none, Z.solids_nil, Z.solids_cons, Z.solid_tup, Z.solids_ints, Z.solids_tII,
  List.getElem?_cons_zero, List.getElem?_cons_succ, List.set_cons_zero, List.set_cons_succ, List.map_cons, List.map_nil, List.length_cons, List.length_nil, List.nil_append, List.cons_append, List.replicate_succ, List.replicate_zero, List.append_nil, List.contains_cons, List.contains_nil, List.elem_nil, Nat.reduceAdd, Nat.reduceSub, Nat.reduceBEq, Nat.reduceLeDiff, Nat.zero_add, Nat.reduceLT,
  Bool.or_false, Bool.false_or, Bool.true_or, Bool.or_true, Bool.and_true, Bool.true_and, cond_true, cond_false, if_true, if_false, true_and, and_true, Bool.false_eq_true, Bool.true_eq_false, ite_true, ite_false, reduceIte, beq_self_eq_true, List.not_mem_nil, implies_true, false_implies, Bool.not_true, Bool.not_false])
local macro_rules | `(tactic| walk_at "h") => `(tactic| simp only [Z.ix0, Z.ix1, Z.dVar, Z.look, Z.dC, Z.dSolid, Z.dNil, Z.dCons, Z.dBin, Z.dUn, Z.dCall, Z.kont_none, Z.kont_bool, Z.kont_int, Z.kont_str, Z.kont_list, Z.kont_tuple, Z.f2I, Z.f2IC, Z.f1I, Z.asI, Z.dTest, Z.asB, Z.dAnd, Z.dOr, Z.dNot, Z.dYes, Z.dAndV, Z.dOrV, Z.dNotV, Z.dIf, Z.dTup, Z.dLst,
  Z.sNext, Z.sBreak, Z.sCont, Z.sSeq, Z.sIf, Z.sDrop, Z.sRet, Z.sRetV, Z.sRetN, Z.sAsg, Z.sAsgG, Z.valsAt, Z.sPar, Z.ownL, Z.sAppend, Z.sSetI, Z.dItems, Z.asItems, Z.items, Z.dRng1, Z.dRng2, Z.dCmbR, Z.dCmbL, Z.dgName, Z.dgNil, Z.dgCons, Z.asT, Z.dgTup, Z.asL, Z.dgUnl, Z.dComp, Z.dEnum, Z.sFor, Z.sAugI,
  Z.startE, Z.startL, Z.retE, Z.lawE, Z.fRepr, Z.fReprU, Z.dItemsZ, Z.fLenF, Z.fEqE, Z.solid_frz, Z.solid_frd, Z.fIx, Z.dKGet, Z.dKGet1, Z.dKGet2, Z.dKIn, Z.ownK, Z.sKPut, Z.sKSetd, Z.sKSetApp, Z.sFz, Z.dXKeys, Z.dXVals, Z.dXItems, Z.dLenX, Z.dNewX, Z.dLenDict0, Z.dLenDictK, Z.dLenSetI, Z.dSortSetT, Z.fDictP, Z.dDictX, Z.fSortedF, Z.fSortedW, Z.fSorted0, Z.fSum, Z.fSumA, Z.dSortDict, Z.dLenDict, Z.asPairs, Z.fMaxA, Z.dIsi, Z.fIsi, Z.isInt, Z.isBool, Z.isStr, Z.isTuple, Z.isList, Z.isDict, Z.dAddN, Z.fAll, Z.fAny, Z.dTupRg, Z.asSeq, Z.dStar, Z.dStarS, Z.fMinD, Z.sMove, Z.dDisp, Z.dPairs, Z.dBits, Z.fDictCp, Z.sPar3, Z.fLen, Z.fTuple, Z.fTupleF, Z.fEqLE, Z.sAugL, Z.fInt, Z.fMul, Z.fAdd, Z.dIndex, Z.dSlice, Z.dRev, Z.fRev, Z.d0New, Z.sPopAt, Z.sRet2, Z.dZipSF, Z.dSortDict0, Z.dFrz, Z.fFrz, Z.fIxF_tup, Z.fIxF_list, Z.dZipF, Z.dIndexF, Z.sUpd0, Z.own0, Z.dLen0, Z.dNo, Z.dPart, Z.fCut, Z.fList, Z.dListRg, Z.fSorted, Z.dZip, Z.dZipS, Z.dTru, Z.f2L, Z.fAbs, Z.fIsN, Z.isNone, Z.dChain, Z.tru, Z.hide, Z.demote, Z.demoteOff, Z.restore, Z.isOwn, Z.solid_tI, Z.solid_tII, Z.solid_int, Z.solid_bool, Z.solid_str, Z.solid_none, Z.solids_nil, Z.solids_cons, Z.solid_tup, Z.solids_ints, Z.solids_tII,
  List.getElem?_cons_zero, List.getElem?_cons_succ, List.set_cons_zero, List.set_cons_succ, List.map_cons, List.map_nil, List.length_cons, List.length_nil, List.nil_append, List.cons_append, List.replicate_succ, List.replicate_zero, List.append_nil, List.contains_cons, List.contains_nil, List.elem_nil, Nat.reduceAdd, Nat.reduceSub, Nat.reduceBEq, Nat.reduceLeDiff, Nat.zero_add, Nat.reduceLT,
  Bool.or_false, Bool.false_or, Bool.true_or, Bool.or_true, Bool.and_true, Bool.true_and, cond_true, cond_false, if_true, if_false, true_and, and_true, Bool.false_eq_true, Bool.true_eq_false, ite_true, ite_false, reduceIte, beq_self_eq_true, List.not_mem_nil, implies_true, false_implies, Bool.not_true, Bool.not_false])
local macro_rules | `(tactic| walk_at "s") => `(tactic| ((first | rw [Z.later_cons] | (simp only []; rw [Z.later_cons])); walk_at "h"))
namespace Z
open PySem PySem.Spec PyProof.Rows L2
/-! ### the text -/
def topS (i : Nat) : Stmt := PySem.Challenge.pw_spancodes_k43_whole_spans_and_partings.main.body.getD i (.Pass ⟨0, 0, 0, 0⟩)
abbrev s_parting_of : Stmt := topS 1
theorem sc_parting_of : FnScope ["n", "lot", "late", "span", "lasts", "found", "first", "number", "one"] ["n", "lot"] (defScope s_parting_of) := ⟨rfl, rfl, rfl, by decide +kernel, rfl, by decide +kernel, by decide +kernel⟩
abbrev s_lot_of_parting : Stmt := topS 2
theorem sc_lot_of_parting : FnScope ["n", "parting", "found", "one", "low", "high"] ["n", "parting"] (defScope s_lot_of_parting) := ⟨rfl, rfl, rfl, by decide +kernel, rfl, by decide +kernel, by decide +kernel⟩
abbrev s_all_span_lots : Stmt := topS 3
theorem sc_all_span_lots : FnScope ["n", "found", "first", "late", "lot", "lasts", "span", "last"] ["n"] (defScope s_all_span_lots) := ⟨rfl, rfl, rfl, by decide +kernel, rfl, by decide +kernel, by decide +kernel⟩
abbrev s_codes_with : Stmt := topS 4
theorem sc_codes_with : FnScope ["n", "rank", "row", "length", "k"] ["n", "rank"] (defScope s_codes_with) := ⟨rfl, rfl, rfl, by decide +kernel, rfl, by decide +kernel, by decide +kernel⟩
abbrev s__law_source : Stmt := topS 6
theorem sc__law_source : FnScope ["script", "mixed", "cell"] ["script"] (defScope s__law_source) := ⟨rfl, rfl, rfl, by decide +kernel, rfl, by decide +kernel, by decide +kernel⟩
abbrev s__law_pick : Stmt := topS 7
theorem sc__law_pick : FnScope ["source", "many", "left", "mixed"] ["source", "many"] (defScope s__law_pick) := ⟨rfl, rfl, rfl, by decide +kernel, rfl, by decide +kernel, by decide +kernel⟩
abbrev s__law_of : Stmt := topS 8
theorem sc__law_of : FnScope ["source", "some"] ["source", "some"] (defScope s__law_of) := ⟨rfl, rfl, rfl, by decide +kernel, rfl, by decide +kernel, by decide +kernel⟩
abbrev s__law_mixed : Stmt := topS 9
theorem sc__law_mixed : FnScope ["source", "things", "rest", "lap"] ["source", "things"] (defScope s__law_mixed) := ⟨rfl, rfl, rfl, by decide +kernel, rfl, by decide +kernel, by decide +kernel⟩
abbrev s__law_pairs : Stmt := topS 10
theorem sc__law_pairs : FnScope ["n", "found", "x", "y"] ["n"] (defScope s__law_pairs) := ⟨rfl, rfl, rfl, by decide +kernel, rfl, by decide +kernel, by decide +kernel⟩
abbrev s__law_lot : Stmt := topS 11
theorem sc__law_lot : FnScope ["source", "n", "found", "pair", "x", "y"] ["source", "n"] (defScope s__law_lot) := ⟨rfl, rfl, rfl, by decide +kernel, rfl, by decide +kernel, by decide +kernel⟩
abbrev s__law_free : Stmt := topS 12
theorem sc__law_free : FnScope ["lot", "x", "y", "a", "b"] ["lot"] (defScope s__law_free) := ⟨rfl, rfl, rfl, by decide +kernel, rfl, by decide +kernel, by decide +kernel⟩
abbrev s__law_parting : Stmt := topS 13
theorem sc__law_parting : FnScope ["n", "lot", "names", "x", "y", "one", "some", "name", "k"] ["n", "lot"] (defScope s__law_parting) := ⟨rfl, rfl, rfl, by decide +kernel, rfl, by decide +kernel, by decide +kernel⟩
abbrev s__law_lot_of : Stmt := topS 14
theorem sc__law_lot_of : FnScope ["parting", "found", "some", "k"] ["parting"] (defScope s__law_lot_of) := ⟨rfl, rfl, rfl, by decide +kernel, rfl, by decide +kernel, by decide +kernel⟩
abbrev s__law_partings : Stmt := topS 15
theorem sc__law_partings : FnScope ["n", "found", "k", "late", "parting", "i"] ["n"] (defScope s__law_partings) := ⟨rfl, rfl, rfl, by decide +kernel, rfl, by decide +kernel, by decide +kernel⟩
abbrev s__law_many : Stmt := topS 16
theorem sc__law_many : FnScope ["n", "rank", "found", "k"] ["n", "rank"] (defScope s__law_many) := ⟨rfl, rfl, rfl, by decide +kernel, rfl, by decide +kernel, by decide +kernel⟩
abbrev s_law : Stmt := topS 17
theorem sc_law : FnScope ["script", "source", "lap", "n", "lot", "due", "parting", "k", "join", "one", "told", "rank", "every", "sums"] ["script"] (defScope s_law) := ⟨rfl, rfl, rfl, by decide +kernel, rfl, by decide +kernel, by decide +kernel⟩
structure Tx (K : PySem.W.Frag) (mg : Str → Option Value) : Prop where
  b_abs : mg "abs" = none
  b_dict : mg "dict" = none
  b_int : mg "int" = none
  b_len : mg "len" = none
  b_list : mg "list" = none
  b_max : mg "max" = none
  b_range : mg "range" = none
  b_repr : mg "repr" = none
  b_set : mg "set" = none
  b_sorted : mg "sorted" = none
  b_sum : mg "sum" = none
  b_tuple : mg "tuple" = none
  b_zip : mg "zip" = none
  f_parting_of : ∃ f fd, mg "parting_of" = some (.ref f) ∧ Fun K "parting_of" "parting_of" s_parting_of f fd
  f_lot_of_parting : ∃ f fd, mg "lot_of_parting" = some (.ref f) ∧ Fun K "lot_of_parting" "lot_of_parting" s_lot_of_parting f fd
  f_all_span_lots : ∃ f fd, mg "all_span_lots" = some (.ref f) ∧ Fun K "all_span_lots" "all_span_lots" s_all_span_lots f fd
  f_codes_with : ∃ f fd, mg "codes_with" = some (.ref f) ∧ Fun K "codes_with" "codes_with" s_codes_with f fd
  f__law_source : ∃ f fd, mg "_law_source" = some (.ref f) ∧ Fun K "_law_source" "_law_source" s__law_source f fd
  f__law_pick : ∃ f fd, mg "_law_pick" = some (.ref f) ∧ Fun K "_law_pick" "_law_pick" s__law_pick f fd
  f__law_of : ∃ f fd, mg "_law_of" = some (.ref f) ∧ Fun K "_law_of" "_law_of" s__law_of f fd
  f__law_mixed : ∃ f fd, mg "_law_mixed" = some (.ref f) ∧ Fun K "_law_mixed" "_law_mixed" s__law_mixed f fd
  f__law_pairs : ∃ f fd, mg "_law_pairs" = some (.ref f) ∧ Fun K "_law_pairs" "_law_pairs" s__law_pairs f fd
  f__law_lot : ∃ f fd, mg "_law_lot" = some (.ref f) ∧ Fun K "_law_lot" "_law_lot" s__law_lot f fd
  f__law_free : ∃ f fd, mg "_law_free" = some (.ref f) ∧ Fun K "_law_free" "_law_free" s__law_free f fd
  f__law_parting : ∃ f fd, mg "_law_parting" = some (.ref f) ∧ Fun K "_law_parting" "_law_parting" s__law_parting f fd
  f__law_lot_of : ∃ f fd, mg "_law_lot_of" = some (.ref f) ∧ Fun K "_law_lot_of" "_law_lot_of" s__law_lot_of f fd
  f__law_partings : ∃ f fd, mg "_law_partings" = some (.ref f) ∧ Fun K "_law_partings" "_law_partings" s__law_partings f fd
  f__law_many : ∃ f fd, mg "_law_many" = some (.ref f) ∧ Fun K "_law_many" "_law_many" s__law_many f fd
  f_law : ∃ f fd, mg "law" = some (.ref f) ∧ Fun K "law" "law" s_law f fd
section
variable {P : Program} {w : World} {K : PySem.W.Frag} {mg : Str → Option Value} {base : Heap}
def spec_parting_of : List D → (D → Prop) → Prop := fun ds R => ∃ (n : Nat) (L : List (Nat × Nat)), ds = [.int ((n : Nat) : Int), .tuple (L.map prD)] ∧ n ≤ 1000 ∧ Apart n L ∧ R (.tuple ((chains n L).map lotD))
theorem len_parting_of : ∀ ds R, spec_parting_of ds R → ds.length = 2 := by
  rintro ds R ⟨n, L, rfl, _⟩
  rfl
def m_parting_of : DMS :=
  (sSeq (sAsg 2 (dCall fDictP (dCons (dComp (dItems (dVar 1)) (dgName 3) dYes (dSolid (dTup (dCons (dBin fIx (dVar 3) (dC (.int 0))) (dCons (dBin fAdd (dBin fIx (dVar 3) (dC (.int 1))) (dC (.int 1))) dNil)))) [3]) dNil)))
  (sSeq (sPar 4 5 (dCons (dComp (dItems (dVar 1)) (dgName 3) dYes (dBin fAdd (dBin fIx (dVar 3) (dC (.int 1))) (dC (.int 1))) [3]) (dCons (dLst dNil) dNil)))
  (sSeq (sFor (dItems (dComp (dRng1 (dCons (dBin fAdd (dVar 0) (dC (.int 1))) dNil)) (dgName 7) (dTest (dBin (fIn true) (dVar 7) (dVar 4))) (dSolid (dVar 7)) [7])) (dgName 6) (sSeq (sAsg 8 (dLst (dCons (dSolid (dVar 6)) dNil)))
  (sSeq (sWhile (dTest (dKIn false (dBin fIx (dVar 8) (dUn (f1I fun i => .int (-i)) (dC (.int 1)))) (dVar 2))) (sAppend 8 (dSolid (dKGet (dVar 2) (dBin fIx (dVar 8) (dUn (f1I fun i => .int (-i)) (dC (.int 1))))))) [])
  (sAppend 5 (dCall fTuple (dCons (dVar 8) dNil))))) [6, 8, 8, 5] [6, 8])
  (sRet (dCall fTuple (dCons (dVar 5) dNil))))))
/-- the pairs of the dict -/
def nextP (L : List (Nat × Nat)) : List (Nat × Nat) := L.map fun p => (p.1, p.2 + 1)
theorem next_find {n : Nat} {L : List (Nat × Nat)} (ap : Apart n L) (a : Nat) : (∃ b, aFind (nextP L) a = some b ∧ ∃ p ∈ L, p.1 = a ∧ p.2 + 1 = b) ∨ (aFind (nextP L) a = none ∧ ∀ p ∈ L, p.1 ≠ a) := by
  cases c : aFind (nextP L) a with
  | none =>
    refine .inr ⟨rfl, fun p hp e => aFind_none.mp c (List.mem_map.mpr ⟨(p.1, p.2 + 1), List.mem_map.mpr ⟨p, hp, rfl⟩, e⟩)⟩
  | some b =>
    refine .inl ⟨b, rfl, ?_⟩
    unfold aFind at c
    obtain ⟨q, hq, rfl⟩ := Option.map_eq_some_iff.mp c
    obtain ⟨p, hp, rfl⟩ := List.mem_map.mp (List.mem_of_find?_eq_some hq)
    have := List.find?_some hq
    exact ⟨p, hp, by simpa using this, rfl⟩
/-- the chain as far as k -/
def upto (L : List (Nat × Nat)) (h k : Nat) : List Nat := (List.range (k + 1)).filter fun x => root L x == h
theorem upto_last {n : Nat} {L : List (Nat × Nat)} {h k : Nat} (e : root L k = h) : ∃ T, upto L h k = T ++ [k] := by
  unfold upto
  rw [List.range_succ, List.filter_append]
  exact ⟨_, by rw [show List.filter (fun x => root L x == h) [k] = [k] by simp [e]]⟩
theorem upto_next {n : Nat} {L : List (Nat × Nat)} (ap : Apart n L) {h : Nat} {p : Nat × Nat} (hp : p ∈ L) (e : root L p.1 = h) : upto L h (p.2 + 1) = upto L h p.1 ++ [p.2 + 1] := by
  have r2 : root L (p.2 + 1) = h := by rw [root_some ap ((prev_some ap).mpr ⟨p, hp, rfl, rfl⟩), e]
  have ok := (ap.ok p hp).1
  refine asc_nats ((List.pairwise_lt_range).filter _) (List.pairwise_append.mpr ⟨(List.pairwise_lt_range).filter _, List.pairwise_singleton _ _, fun x hx y hy => ?_⟩) fun x => ?_
  · have := List.mem_range.mp (List.mem_filter.mp hx).1
    rw [List.mem_singleton.mp hy]
    omega
  · unfold upto
    rw [List.mem_append, List.mem_filter, List.mem_filter, List.mem_range, List.mem_range, List.mem_singleton, beq_iff_eq]
    constructor
    · rintro ⟨h1, h2⟩
      by_cases c : x ≤ p.1
      · exact .inl ⟨by omega, h2⟩
      · right
        obtain ⟨q, hq, e1, e2⟩ := follow ap x p.1 (by rw [e, h2]) (by omega)
        have := ap_fst ap hq hp e1
        rw [this] at e2
        omega
    · rintro (⟨h1, h2⟩ | rfl)
      · exact ⟨by omega, h2⟩
      · exact ⟨by omega, r2⟩
theorem upto_end {n : Nat} {L : List (Nat × Nat)} (ap : Apart n L) {h k : Nat} (hk : k ≤ n) (e : root L k = h) (no : ∀ p ∈ L, p.1 ≠ k) : upto L h k = chain n L h := by
  refine asc_nats ((List.pairwise_lt_range).filter _) (chain_asc n L h) fun x => ?_
  rw [mem_chain]
  unfold upto
  rw [List.mem_filter, List.mem_range, beq_iff_eq]
  constructor
  · rintro ⟨h1, h2⟩
    exact ⟨by omega, h2⟩
  · rintro ⟨h1, h2⟩
    refine ⟨?_, h2⟩
    refine Classical.byContradiction fun c => ?_
    obtain ⟨q, hq, e1, e2⟩ := follow ap x k (by rw [e, h2]) (by omega)
    exact no q hq e1
theorem not_last {n k : Nat} {L : List (Nat × Nat)} (ap : Apart n L) : (!(L.map fun p => p.2 + 1).contains k) = (prevL L k).isNone := by
  rw [Bool.eq_iff_iff, Bool.not_eq_true', Option.isNone_iff_eq_none, ← Bool.not_eq_true, List.contains_iff_mem, List.mem_map]
  constructor
  · intro h
    cases c : prevL L k with
    | none => rfl
    | some a =>
      obtain ⟨p, hp, _, e⟩ := (prev_some ap).mp c
      exact (h ⟨p, hp, e⟩).elim
  · rintro h ⟨p, hp, e⟩
    rw [(prev_some ap).mpr ⟨p, hp, rfl, e⟩] at h
    cases h
theorem pl_parting_of : ∀ ds R, spec_parting_of ds R → m_parting_of (startE ["n", "lot", "late", "span", "lasts", "found", "first", "number", "one"] ds) (retE R) := by
  rintro ds R ⟨n, L, rfl, hn, ap, h⟩
  have ll := ap.len
  unfold m_parting_of
  walk_at "h"
  refine ⟨by rw [List.length_map]; omega, compD_map (fun p => .tuple [natD p.1, natD (p.2 + 1)]) (fun p hp k k0 hk => ?_) ?_⟩
  · rw [show prD p = .tuple [.int ((p.1 : Nat) : Int), .int ((p.2 : Nat) : Int)] from rfl]
    walk_at "y"
    exact hk
  refine ⟨L.map fun p => (Sum.inl ((p.1 : Nat) : Int), natD (p.2 + 1)), ?_, ?_, ?_⟩
  · unfold kpD
    rw [List.map_map]
    rfl
  · intro q hq
    obtain ⟨p, _, rfl⟩ := List.mem_map.mp hq
    exact solid_int _
  rw [aMerge_same (by
    rw [List.map_map]
    exact List.pairwise_map.mpr ((List.pairwise_map.mp ap.fst).imp fun {a b} z e => z (by
      have e : (Sum.inl ((a.1 : Nat) : Int) : Key) = Sum.inl ((b.1 : Nat) : Int) := e
      injection e with e
      omega))), List.map_map, show (L.map ((fun q : Key × D => (keyD q.1, q.2)) ∘ fun p => (Sum.inl ((p.1 : Nat) : Int), natD (p.2 + 1)))) = tD natD natD (nextP L) by
      unfold tD nextP
      rw [List.map_map]
      rfl]
  walk_at "s"
  refine ⟨by rw [List.length_map]; omega, compD_map (fun p => natD (p.2 + 1)) (fun p hp k k0 hk => ?_) ?_⟩
  · rw [show prD p = .tuple [.int ((p.1 : Nat) : Int), .int ((p.2 : Nat) : Int)] from rfl]
    walk_at "y"
    exact hk
  walk_at "s"
  refine ⟨⟨by omega, by omega⟩, ?_⟩
  rw [show (((n : Nat) : Int) + 1).toNat = n + 1 by omega, rangeD_nats]
  refine ⟨by rw [List.length_map, List.length_range]; omega, compD_filter natD (fun k => (prevL L k).isNone) (fun k hk c c0 h1 h0 => ?_) ?_⟩
  · walk_at "h"
    rw [show (L.map fun p => natD (p.2 + 1)) = (L.map fun p => p.2 + 1).map natD by rw [List.map_map]; rfl]
    refine fIn_natsL ?_
    simp only [if_true]
    rw [not_last ap]
    cases d : (prevL L k).isNone
    · exact h0 d
    · exact h1 d
  refine forD_inv (fun m ρ => ρ = [.val (natD n), .val (.tuple (L.map prD)), .val (.dict (tD natD natD (nextP L))), .unk, .val (.list (L.map fun p => natD (p.2 + 1))), .own (.list (((headsL n L).take m).map fun h => lotD (chain n L h))), .unk, .unk, .unk]) _ 0 _ rfl ?_ ?_
  · rintro i x ρ Nx hx rfl hN
    rw [Nat.zero_add] at hN ⊢
    obtain ⟨hd, hh, ei, rfl⟩ := map_at hx
    have ei' : (headsL n L)[i]? = some hd := ei
    rw [List.take_succ, ei'] at hN
    have hh' : hd ∈ headsL n L := hh
    have hl : ((headsL n L).take i).length ≤ n + 1 := by
      have := List.length_filter_le (fun k => (prevL L k).isNone) (List.range (n + 1))
      rw [List.length_range] at this
      rw [List.length_take]
      unfold headsL
      omega
    obtain ⟨h1, h2⟩ := mem_headsL.mp hh'
    have r0 : root L hd = hd := root_none h2
    walk_at "h"
    walk_at "s"
    refine ⟨fun m ρ => ∃ k, k ≤ n ∧ m = n - k ∧ root L k = hd ∧ ρ = [.val (natD n), .val (.tuple (L.map prD)), .val (.dict (tD natD natD (nextP L))), .unk, .val (.list (L.map fun p => natD (p.2 + 1))), .own (.list (((headsL n L).take i).map fun h => lotD (chain n L h))), .val (natD hd), .unk, .own (.list ((upto L hd k).map natD))], ⟨n - hd, hd, h1, rfl, r0, ?_⟩, ?_⟩
    · have : upto L hd hd = [hd] := by
        refine asc_nats ((List.pairwise_lt_range).filter _) (List.pairwise_singleton _ _) fun x => ?_
        unfold upto
        rw [List.mem_filter, List.mem_range, beq_iff_eq, List.mem_singleton]
        constructor
        · rintro ⟨z1, z2⟩
          have := root_le ap x
          omega
        · rintro rfl
          exact ⟨by omega, r0⟩
      rw [this]
      rfl
    · rintro m ρ ⟨k, hk, rfl, rk, rfl⟩
      obtain ⟨T, eT⟩ := upto_last (n := n) rk
      have lu : (upto L hd k).length ≤ k + 1 := by
        have := List.length_filter_le (fun x => root L x == hd) (List.range (k + 1))
        rw [List.length_range] at this
        exact this
      have eT' : (upto L hd k).map natD = T.map natD ++ [natD k] := by rw [eT, List.map_append]; rfl
      have dcl : IsDc (.dict (tD natD natD (nextP L))) (tD natD natD (nextP L)) := .inl ⟨rfl, plainK_tD keyOk_nat _⟩
      have hom : Homog (tD natD natD (nextP L)) (natD k) := homog_tD (t := false) (fun _ => rfl) _ _
      walk_at "h"
      refine ⟨natD k, by rw [eT']; exact at_last, ?_⟩
      refine ⟨keyOk_nat k, _, dcl, hom, ?_⟩
      rw [kFind_tD natD_inj]
      rcases next_find ap k with ⟨b, hb, p, hp, e1, e2⟩ | ⟨hb, no⟩
      · rw [hb]
        simp only [Option.map_some, Option.isSome_some, Bool.xor_true, Bool.not_false, cond_true]
        refine ⟨_, dcl, natD k, by rw [eT']; exact at_last, keyOk_nat k, hom, natD b, by rw [kFind_tD natD_inj, hb]; rfl, solid_int _, by rw [List.length_map]; omega, ?_⟩
        have okp := ap.ok p hp
        have o1 := okp.1
        have o2 := okp.2
        refine ⟨n - b, by omega, b, by omega, rfl, ?_, ?_⟩
        · rw [← e2, root_some ap ((prev_some ap).mpr ⟨p, hp, rfl, rfl⟩), e1]
          exact rk
        · rw [← e2, upto_next ap hp (by rw [e1]; exact rk), e1, List.map_append]
          rfl
      · rw [hb]
        simp only [Option.map_none, Option.isSome_none, Bool.xor_false, cond_false]
        rw [Z.later_cons]
        walk_at "h"
        rw [upto_end ap hk rk no]
        refine ⟨solids_nats _, by rw [List.length_map]; omega, hN _ ?_⟩
        rw [List.map_append]
        rfl
  · rintro ρ rfl
    rw [Nat.zero_add, List.length_map]
    have e : (headsL n L).take ((List.range (n + 1)).filter fun k => (prevL L k).isNone).length = headsL n L := List.take_length ..
    rw [e]
    walk_at "h"
    rw [Z.later_cons]
    walk_at "h"
    refine ⟨solids_of fun h _ => solid_lotD _, ?_⟩
    have e2 : (headsL n L).map (fun h => lotD (chain n L h)) = (chains n L).map lotD := by
      unfold chains
      rw [List.map_map]
      rfl
    rw [e2]
    exact h
theorem at_parting_of (T : Tx K mg) : FnAt P w K mg base "parting_of" 1 2 (spD K spec_parting_of) := by
  obtain ⟨f, fd, hm, F⟩ := T.f_parting_of
  refine fnAt_of hm F rfl (F.binds (ps := ["n", "lot"]) fun _ _ _ _ _ _ us hl => match us, hl with | [_, _], _ => rfl) (fnG_of F sc_parting_of (spD_len len_parting_of) fun cdv A outer s H vs Q E hr hg h => ?_)
  exact body_of (m := fun _ => m_parting_of) ["n", "lot", "late", "span", "lasts", "found", "first", "number", "one"]
    ((pss_cons (ps_set (i := 2) sc_parting_of.nd rfl (by first | exact Or.inl rfl | exact Or.inr rfl) (pe_callTy (call_dictP rfl) (by rfl) T.b_dict (by decide +kernel) (pa_cons (pe_lc (own := [("span", 3)]) rfl sc_parting_of.nd (pi_seq (pv 1)) (blkOk_by (N := ["n", "lot", "late", "span", "lasts", "found", "first", "number", "one"]) (sc := defScope s_parting_of) (by decide +kernel)) (fun _ _ _ _ _ => (pg_name (i := 3) sc_parting_of.nd rfl (by first | exact Or.inl rfl | exact Or.inr rfl))) (fun _ _ _ _ _ => pts_nil) (fun _ _ _ _ _ => (pe_tupF (pa_cons (pe_ix ix_seq (pv 3) pe_int (fun _ _ => rfl)) (pa_cons (pe_op op_addZ (pe_ix ix_seq (pv 3) pe_int (fun _ _ => rfl)) pe_int) pa_nil))))) pa_nil)))
      (pss_cons (ps_asg (pe_tupF (pa_cons (pe_lc (own := [("span", 3)]) rfl sc_parting_of.nd (pi_seq (pv 1)) (blkOk_by (N := ["n", "lot", "late", "span", "lasts", "found", "first", "number", "one"]) (sc := defScope s_parting_of) (by decide +kernel)) (fun _ _ _ _ _ => (pg_name (i := 3) sc_parting_of.nd rfl (by first | exact Or.inl rfl | exact Or.inr rfl))) (fun _ _ _ _ _ => pts_nil) (fun _ _ _ _ _ => (pe_op op_addZ (pe_ix ix_seq (pv 3) pe_int (fun _ _ => rfl)) pe_int))) (pa_cons (pe_lst pa_nil) pa_nil))) (pg_tup rfl (pgs_cons (pg_name (i := 4) sc_parting_of.nd rfl (by first | exact Or.inl rfl | exact Or.inr rfl)) (pgs_cons (pg_name (i := 5) sc_parting_of.nd rfl (by first | exact Or.inl rfl | exact Or.inr rfl)) pgs_nil))))
      (pss_cons (ps_for PassesOwn.never rfl (pi_seq (pe_lc (own := [("number", 7)]) rfl sc_parting_of.nd (pi_range1 (by rfl) T.b_range (pa_cons (pe_op op_addZ (pv 0) pe_int) pa_nil)) (blkOk_by (N := ["n", "lot", "late", "span", "lasts", "found", "first", "number", "one"]) (sc := defScope s_parting_of) (by decide +kernel)) (fun _ _ _ _ _ => (pg_name (i := 7) sc_parting_of.nd rfl (by first | exact Or.inl rfl | exact Or.inr rfl))) (fun _ _ _ _ _ => (pts_one (pt_cmpR (op_notInZ hr.units) (pv 7) (pv 4) (by with_unfolding_all rfl)))) (fun _ _ _ _ _ => (pv 7)))) (pg_name (i := 6) sc_parting_of.nd rfl (by first | exact Or.inl rfl | exact Or.inr rfl)) (pss_cons (ps_set (i := 8) sc_parting_of.nd rfl (by first | exact Or.inl rfl | exact Or.inr rfl) (pe_lst (pa_cons (pv 6) pa_nil)))
      (pss_cons (ps_while PassesOwn.never (pt_cmp (pc_xin hr.units (pe_ix ix_seq (pv 8) (pe_un un_neg pe_int) (fun _ _ => rfl)) (pv 2))) (pss_one (ps_expr (pe_bm PySem.F.plainAttrs_list PySem.F.slot_list_append PySem.F.type_list_append mt_append (pv 8) (pa_cons (pe_xget hr.units (pv 2) (pe_ix ix_seq (pv 8) (pe_un un_neg pe_int) (fun _ _ => rfl)) (fun _ _ => rfl)) pa_nil)))))
      (pss_one (ps_expr (pe_bm PySem.F.plainAttrs_list PySem.F.slot_list_append PySem.F.type_list_append mt_append (pv 5) (pa_cons (pe_callTy call_tupF (by rfl) T.b_tuple (by decide +kernel) (pa_cons (pv 8) pa_nil)) pa_nil)))))))
      (pss_one (ps_ret (pe_callTy call_tupF (by rfl) T.b_tuple (by decide +kernel) (pa_cons (pv 5) pa_nil))))))))
    (fun S => (ds_seq (ds_asg 2 (de_cb cd_dictP (da_cons (de_lc (di_seq (de_var 1)) (dg_name 3) dt_yes (de_solid (de_tup (da_cons (de_opA oa_ix (de_var 3) de_int) (da_cons (de_op od_add (de_opA oa_ix (de_var 3) de_int) de_int) da_nil)))) (by decide)) da_nil)))
      (ds_seq (ds_parG 4 5 (da_cons (de_lc (di_seq (de_var 1)) (dg_name 3) dt_yes (de_op od_add (de_opA oa_ix (de_var 3) de_int) de_int) (by decide)) (da_cons (de_lst da_nil) da_nil)))
      (ds_seq (ds_for (Wg := [6]) (Wb := [8, 8, 5]) (F := [6, 8]) (di_seq (de_lc (di_rng1 (da_cons (de_op od_add (de_var 0) de_int) da_nil)) (dg_name 7) (dt_val (de_op od_in (de_var 7) (de_var 4))) (de_solid (de_var 7)) (by decide))) (dg_name 6) (ds_seq (ds_asg 8 (de_lst (da_cons (de_solid (de_var 6)) da_nil)))
      (ds_seq (ds_while (F := []) (dt_val (de_kin (de_opA oa_ix (de_var 8) (de_un ud_I de_int)) (de_var 2))) (ds_append 8 (de_solid (de_kget (de_var 2) (de_opA oa_ix (de_var 8) (de_un ud_I de_int))))))
      (ds_append 5 (de_cb cd_tuple (da_cons (de_var 8) da_nil))))) (by decide))
      (ds_ret (de_cb cd_tuple (da_cons (de_var 5) da_nil))))))) h (fun S ds R hs => pl_parting_of ds R hs)
def spec_lot_of_parting : List D → (D → Prop) → Prop := fun ds R => ∃ (n : Nat) (P : List (List Nat)), ds = [.int ((n : Nat) : Int), .tuple (P.map lotD)] ∧ n ≤ 1000 ∧ PartU n P ∧ R (.tuple ((lotOf P).map prD))
theorem len_lot_of_parting : ∀ ds R, spec_lot_of_parting ds R → ds.length = 2 := by
  rintro ds R ⟨n, L, rfl, _⟩
  rfl
def m_lot_of_parting : DMS :=
  (sSeq (sAsg 2 (dLst dNil))
  (sSeq (sFor (dItems (dVar 1)) (dgName 3) (sAsg 2 (dBin fAdd (dVar 2) (dComp (dZip (dCons (dVar 3) (dCons (dSlice (dVar 3) (dPart (dC (.int 1))) dNo) dNil))) (dgTup 2 (dgCons (dgName 4) (dgCons (dgName 5) dgNil))) dYes (dSolid (dTup (dCons (dVar 4) (dCons (dBin (f2I fun i j => .int (i - j)) (dVar 5) (dC (.int 1))) dNil)))) [4, 5]))) [3, 2] [3])
  (sRet (dCall fTuple (dCons (dCall (fSorted false) (dCons (dVar 2) dNil)) dNil)))))
theorem pl_lot_of_parting : ∀ ds R, spec_lot_of_parting ds R → m_lot_of_parting (startE ["n", "parting", "found", "one", "low", "high"] ds) (retE R) := by
  rintro ds R ⟨n, P, rfl, hn, hP, h⟩
  unfold m_lot_of_parting
  have al := adjs_len hP
  walk_at "h"
  walk_at "s"
  refine forD_inv (fun m ρ => ρ = [.val (natD n), .val (.tuple (P.map lotD)), .own (.list ((adjs (P.take m)).map prD)), .unk, .unk, .unk]) _ 0 _ rfl ?_ ?_
  · rintro i x ρ Nx hx rfl hN
    rw [Nat.zero_add] at hN ⊢
    obtain ⟨B, hB, ei, rfl⟩ := map_at hx
    have lb := part_block hP hB
    have lt := adjs_take_len hP (i + 1)
    rw [adjs_take ei] at lt hN
    rw [List.length_append] at lt
    unfold lotD
    walk_at "h"
    refine ⟨solids_nats _, ?_⟩
    rw [show (1 : Int) = ((1 : Nat) : Int) from rfl, cutL_drop, ← List.map_drop, zipD_map]
    refine ⟨?_, compD_map (fun p : Nat × Nat => PyData.tuple [natD p.1, .int (((p.2 : Nat) : Int) - 1)]) (fun p hp k k0 hk => ?_) ?_⟩
    · rw [List.length_map, List.length_zip, List.length_drop]
      omega
    · walk_at "h"
      exact hk
    · rw [adj_zip B (hP.asc B hB)]
      refine ⟨solids_prD _, solids_prD _, by rw [List.length_map, List.length_map]; omega, hN _ ?_⟩
      walk_at "h"
      rw [List.map_append]
      rfl
  · rintro ρ rfl
    rw [Nat.zero_add, List.length_map, List.take_length]
    walk_at "h"
    rw [Z.later_cons]
    walk_at "h"
    refine ⟨solids_prD _, sortOk_pr (by omega), ?_⟩
    rw [sortD_pr]
    exact ⟨solids_prD _, h⟩
theorem at_lot_of_parting (T : Tx K mg) : FnAt P w K mg base "lot_of_parting" 1 2 (spD K spec_lot_of_parting) := by
  obtain ⟨f, fd, hm, F⟩ := T.f_lot_of_parting
  refine fnAt_of hm F rfl (F.binds (ps := ["n", "parting"]) fun _ _ _ _ _ _ us hl => match us, hl with | [_, _], _ => rfl) (fnG_of F sc_lot_of_parting (spD_len len_lot_of_parting) fun cdv A outer s H vs Q E hr hg h => ?_)
  exact body_of (m := fun _ => m_lot_of_parting) ["n", "parting", "found", "one", "low", "high"]
    ((pss_cons (ps_set (i := 2) sc_lot_of_parting.nd rfl (by first | exact Or.inl rfl | exact Or.inr rfl) (pe_lst pa_nil))
      (pss_cons (ps_for PassesOwn.never rfl (pi_seq (pv 1)) (pg_name (i := 3) sc_lot_of_parting.nd rfl (by first | exact Or.inl rfl | exact Or.inr rfl)) (pss_one (ps_set (i := 2) sc_lot_of_parting.nd rfl (by first | exact Or.inl rfl | exact Or.inr rfl) (pe_op op_addZ (pv 2) (pe_lc (own := [("low", 4), ("high", 5)]) rfl sc_lot_of_parting.nd (RZ.pi_zipA (by rfl) T.b_zip (pa_cons (pv 3) (pa_cons (pe_slice sl_cut (pv 3) (po_some pe_int) po_none) pa_nil))) (blkOk_by (N := ["n", "parting", "found", "one", "low", "high"]) (sc := defScope s_lot_of_parting) (by decide +kernel)) (fun _ _ _ _ _ => (pg_tup rfl (pgs_cons (pg_name (i := 4) sc_lot_of_parting.nd rfl (by first | exact Or.inl rfl | exact Or.inr rfl)) (pgs_cons (pg_name (i := 5) sc_lot_of_parting.nd rfl (by first | exact Or.inl rfl | exact Or.inr rfl)) pgs_nil)))) (fun _ _ _ _ _ => pts_nil) (fun _ _ _ _ _ => (pe_tupF (pa_cons (pv 4) (pa_cons (pe_op op_sub (pv 5) pe_int) pa_nil)))))))))
      (pss_one (ps_ret (pe_callTy call_tupF (by rfl) T.b_tuple (by decide +kernel) (pa_cons (pe_callB (cr_sortZ hr.units) (by rfl) T.b_sorted (by decide +kernel) (pa_cons (pv 2) pa_nil)) pa_nil)))))))
    (fun S => (ds_seq (ds_asg 2 (de_lst da_nil))
      (ds_seq (ds_for (Wg := [3]) (Wb := [2]) (F := [3]) (di_seq (de_var 1)) (dg_name 3) (ds_asg 2 (de_op od_add (de_var 2) (de_lc (di_zip (da_cons (de_var 3) (da_cons (de_slice (de_var 3) (do_part de_int) do_no) da_nil))) (dg_tup (dgs_cons (dg_name 4) (dgs_cons (dg_name 5) dgs_nil))) dt_yes (de_solid (de_tup (da_cons (de_var 4) (da_cons (de_op od_I0 (de_var 5) de_int) da_nil)))) (by decide)))) (by decide))
      (ds_ret (de_cb cd_tuple (da_cons (de_cb cd_sorted (da_cons (de_var 2) da_nil)) da_nil)))))) h (fun S ds R hs => pl_lot_of_parting ds R hs)
def spec_all_span_lots : List D → (D → Prop) → Prop := fun ds R => ∃ (n : Nat), ds = [.int ((n : Nat) : Int)] ∧ n ≤ 6 ∧ R (.list (sortD false ((allLots n n).map lotP)))
theorem len_all_span_lots : ∀ ds R, spec_all_span_lots ds R → ds.length = 1 := by
  rintro ds R ⟨n, rfl, _⟩
  rfl
def m_all_span_lots : DMS :=
  (sSeq (sAsg 1 (dLst (dCons (dTup dNil) dNil)))
  (sSeq (sFor (dRng1 (dCons (dVar 0) dNil)) (dgName 2) (sSeq (sAsg 3 (dCall fList (dCons (dVar 1) dNil)))
  (sSeq (sFor (dItems (dVar 1)) (dgName 4) (sSeq (sAsg 5 (dComp (dItems (dVar 4)) (dgName 6) dYes (dSolid (dBin fIx (dVar 6) (dC (.int 1)))) [6]))
  (sAsg 3 (dBin fAdd (dVar 3) (dComp (dRng2 (dCons (dVar 2) (dCons (dVar 0) dNil))) (dgName 7) (dTest (dBin (fIn true) (dVar 7) (dVar 5))) (dBin fAdd (dVar 4) (dTup (dCons (dTup (dCons (dVar 2) (dCons (dVar 7) dNil))) dNil))) [7])))) [4, 5, 3] [4, 5])
  (sMove 1 3))) [2, 3, 4, 5, 3, 1, 3] [2, 3, 4, 5])
  (sRet (dCall fSorted0 (dCons (dVar 1) dNil)))))
theorem solid_lotP (L : List (Nat × Nat)) : solid (lotP L) = true := by
  unfold lotP
  rw [solid_tup]
  exact solids_prD L
theorem solids_lotP (A : List (List (Nat × Nat))) : solids (A.map lotP) = true := solids_of fun L _ => solid_lotP L
theorem rangeD_from (m k : Nat) : rangeD ((m : Nat) : Int) k 1 = (List.range' m k).map natD := by
  unfold rangeD
  rw [List.range'_eq_map_range, List.map_map]
  refine List.map_congr_left fun j _ => ?_
  show PyData.int _ = PyData.int _
  congr 1
  push_cast
  omega
theorem allLots_cons (n : Nat) : ∀ m, ∃ r, allLots n m = [] :: r := by
  intro m
  induction m with
  | zero => exact ⟨[], rfl⟩
  | succ m ih =>
    obtain ⟨r, e⟩ := ih
    rw [allLots, e]
    exact ⟨_, rfl⟩
theorem alike_prD (p q : Nat × Nat) : PySem.W.alike (prD p) (prD q) = true := by simp [prD, natD, PySem.W.alike, PySem.W.alikeAll]
theorem alike_prs : ∀ L M : List (Nat × Nat), PySem.W.alikeAll (L.map prD) (M.map prD) = true
  | [], _ => by simp [PySem.W.alikeAll]
  | _ :: _, [] => by simp [PySem.W.alikeAll]
  | p :: L, q :: M => by
    simp only [List.map_cons, PySem.W.alikeAll, alike_prD, Bool.true_and]
    exact alike_prs L M
theorem sortOk0_lots {A : List (List (Nat × Nat))} (h0 : ∃ r, A = [] :: r) (hl : A.length ≤ 10000000) : SortOk0 (A.map lotP) := by
  refine ⟨plainAll_of fun d hd => ?_, PySem.W.AllAlike.of fun a b => ?_, ⟨?_, fun d hd => ?_⟩, by rw [List.length_map]; exact hl, Nat.le_trans (depthAll_of (k := 2) fun d hd => ?_) (by decide)⟩
  · obtain ⟨L, _, rfl⟩ := List.mem_map.mp hd
    unfold lotP
    simp only [PyData.plain]
    exact plain_prs L
  · unfold lotP
    simp only [PySem.W.alike]
    exact alike_prs a b
  · obtain ⟨r, rfl⟩ := h0
    exact ⟨r.map lotP, rfl⟩
  · obtain ⟨L, _, rfl⟩ := List.mem_map.mp hd
    exact ⟨_, rfl⟩
  · obtain ⟨L, _, rfl⟩ := List.mem_map.mp hd
    have := depth_prs L
    unfold lotP
    simp only [PyData.depth]
    omega
/-- the lots that one lot gives -/
def moreLots (n m : Nat) (L : List (Nat × Nat)) : List (List (Nat × Nat)) := ((List.range' m (n - m)).filter fun last => !(L.map Prod.snd).contains last).map fun last => L ++ [(m, last)]
theorem allLots_short (n : Nat) : ∀ m, ∀ L ∈ allLots n m, L.length ≤ m := by
  intro m
  induction m with
  | zero => intro L hL; simp [allLots] at hL; rw [hL]; exact Nat.le_refl _
  | succ m ih =>
    intro L hL
    rw [allLots] at hL
    rcases List.mem_append.mp hL with hL | hL
    · have := ih L hL
      omega
    · obtain ⟨M, hM, hL⟩ := List.mem_flatMap.mp hL
      obtain ⟨last, _, rfl⟩ := List.mem_map.mp hL
      have := ih M hM
      rw [List.length_append]
      simp
      omega
theorem pl_all_span_lots : ∀ ds R, spec_all_span_lots ds R → m_all_span_lots (startE ["n", "found", "first", "late", "lot", "lasts", "span", "last"] ds) (retE R) := by
  rintro ds R ⟨n, rfl, hn, h⟩
  unfold m_all_span_lots
  walk_at "h"
  walk_at "s"
  refine ⟨⟨by omega, by omega⟩, ?_⟩
  rw [Int.toNat_natCast]
  refine forD_inv (fun m ρ => ρ = [.val (natD n), .own (.list ((allLots n m).map lotP)), .unk, .unk, .unk, .unk, .unk, .unk]) _ 0 _ rfl ?_ ?_
  · rintro i x ρ Nx hx rfl hN
    obtain ⟨hi, rfl⟩ := range_at hx
    rw [Nat.zero_add] at hN ⊢
    have bound := allLots_len n (i + 1) (by omega)
    have b2 : (n + 1) ^ (i + 1) ≤ 7 ^ 6 := Nat.le_trans (Nat.pow_le_pow_left (by omega) _) (Nat.pow_le_pow_right (by decide) (by omega))
    have ea : allLots n (i + 1) = allLots n i ++ (allLots n i).flatMap (moreLots n i) := rfl
    rw [ea] at hN bound
    rw [List.length_append] at bound
    generalize (n + 1) ^ (i + 1) = z at *
    have b3 : (7 : Nat) ^ 6 = 117649 := by decide
    have hlen : ∀ L ∈ allLots n i, L.length ≤ 1000 := fun L hL => Nat.le_trans (allLots_short n i L hL) (by omega)
    obtain ⟨A, hA⟩ : ∃ A, A = allLots n i := ⟨_, rfl⟩
    rw [← hA] at hN bound hlen ⊢
    walk_at "h"
    refine ⟨solids_lotP _, ?_⟩
    walk_at "s"
    refine forD_inv (fun j ρ => ρ = [.val (natD n), .val (.list (A.map lotP)), .val (natD i), .own (.list ((A ++ (A.take j).flatMap (moreLots n i)).map lotP)), .unk, .unk, .unk, .unk]) _ 0 _ (by simp) ?_ ?_
    · rintro j y ρ Nx hy rfl hN2
      rw [Nat.zero_add] at hN2 ⊢
      obtain ⟨L, hL, ej, rfl⟩ := map_at hy
      have e2 : A.take (j + 1) = A.take j ++ [L] := by rw [List.take_succ, ej]; rfl
      rw [e2, List.flatMap_append] at hN2
      have b4 : ((A.take j).flatMap (moreLots n i)).length + (moreLots n i L).length ≤ (A.flatMap (moreLots n i)).length := by
        have : A = A.take j ++ (L :: A.drop (j + 1)) := by
          rw [List.getElem?_eq_some_iff] at ej
          obtain ⟨hj, ej⟩ := ej
          rw [← ej, List.getElem_cons_drop, List.take_append_drop]
        conv => rhs; rw [this]
        rw [List.flatMap_append, List.flatMap_cons, List.length_append, List.length_append]
        omega
      rw [show lotP L = .tuple (L.map prD) from rfl]
      have lL : L.length ≤ 1000 := hlen L hL
      walk_at "h"
      refine ⟨by rw [List.length_map]; omega, compD_map (fun p => natD p.2) (fun p hp k k0 hk => ?_) ?_⟩
      · rw [show prD p = .tuple [.int ((p.1 : Nat) : Int), .int ((p.2 : Nat) : Int)] from rfl]
        walk_at "y"
        exact hk
      walk_at "s"
      refine ⟨⟨by omega, by omega, by omega, by omega⟩, ?_⟩
      rw [show (((n : Nat) : Int) - ((i : Nat) : Int)).toNat = n - i by omega, rangeD_from]
      refine ⟨by rw [List.length_map, List.length_range']; omega, compD_filter (fun last => lotP (L ++ [(i, last)])) (fun last => !(L.map Prod.snd).contains last) (fun last hk c c0 h1 h0 => ?_) ?_⟩
      · walk_at "h"
        rw [show (L.map fun p => natD p.2) = (L.map Prod.snd).map natD by rw [List.map_map]; rfl]
        refine fIn_natsL ?_
        simp only [if_true]
        cases d : !(L.map Prod.snd).contains last
        · exact h0 d
        · have := h1 d
          walk_at "h"
          refine ⟨solids_prD _, by rw [List.length_map]; omega, ?_⟩
          have e3 : lotP (L ++ [(i, last)]) = .tuple (L.map prD ++ [.tuple [natD i, natD last]]) := by
            unfold lotP
            rw [List.map_append]
            rfl
          rw [← e3]
          exact this
      · have e4 : (((List.range' i (n - i)).filter fun last => !(L.map Prod.snd).contains last).map fun last => lotP (L ++ [(i, last)])) = (moreLots n i L).map lotP := by
          unfold moreLots
          rw [List.map_map]
          rfl
        rw [e4]
        refine ⟨solids_lotP _, solids_lotP _, by rw [List.length_map, List.length_map, List.length_append]; omega, hN2 _ ?_⟩
        walk_at "h"
        simp
    · rintro ρ rfl
      rw [Nat.zero_add, List.length_map, List.take_length]
      walk_at "h"
      rw [Z.later_cons]
      walk_at "h"
      exact ⟨_, rfl, hN _ rfl⟩
  · rintro ρ rfl
    rw [Nat.zero_add, rangeD_len]
    walk_at "h"
    rw [Z.later_cons]
    walk_at "h"
    have bound := allLots_len n n (Nat.le_refl _)
    have b2 : (n + 1) ^ n ≤ 7 ^ 6 := Nat.le_trans (Nat.pow_le_pow_left (by omega) _) (Nat.pow_le_pow_right (by decide) (by omega))
    have b3 : (7 : Nat) ^ 6 = 117649 := by decide
    generalize (n + 1) ^ n = z at *
    exact ⟨_, .inl rfl, solids_lotP _, sortOk0_lots (allLots_cons n n) (by omega), h⟩
theorem at_all_span_lots (T : Tx K mg) : FnAt P w K mg base "all_span_lots" 1 1 (spD K spec_all_span_lots) := by
  obtain ⟨f, fd, hm, F⟩ := T.f_all_span_lots
  refine fnAt_of hm F rfl (F.binds (ps := ["n"]) fun _ _ _ _ _ _ us hl => match us, hl with | [_], _ => rfl) (fnG_of F sc_all_span_lots (spD_len len_all_span_lots) fun cdv A outer s H vs Q E hr hg h => ?_)
  exact body_of (m := fun _ => m_all_span_lots) ["n", "found", "first", "late", "lot", "lasts", "span", "last"]
    ((pss_cons (ps_set (i := 1) sc_all_span_lots.nd rfl (by first | exact Or.inl rfl | exact Or.inr rfl) (pe_lst (pa_cons (pe_tupF pa_nil) pa_nil)))
      (pss_cons (ps_for PassesOwn.never rfl (pi_range1 (by rfl) T.b_range (pa_cons (pv 0) pa_nil)) (pg_name (i := 2) sc_all_span_lots.nd rfl (by first | exact Or.inl rfl | exact Or.inr rfl)) (pss_cons (ps_set (i := 3) sc_all_span_lots.nd rfl (by first | exact Or.inl rfl | exact Or.inr rfl) (pe_callTy call_list_of (by rfl) T.b_list (by decide +kernel) (pa_cons (pv 1) pa_nil)))
      (pss_cons (ps_for PassesOwn.never rfl (pi_seq (pv 1)) (pg_name (i := 4) sc_all_span_lots.nd rfl (by first | exact Or.inl rfl | exact Or.inr rfl)) (pss_cons (ps_set (i := 5) sc_all_span_lots.nd rfl (by first | exact Or.inl rfl | exact Or.inr rfl) (pe_lc (own := [("span", 6)]) rfl sc_all_span_lots.nd (pi_seq (pv 4)) (blkOk_by (N := ["n", "found", "first", "late", "lot", "lasts", "span", "last"]) (sc := defScope s_all_span_lots) (by decide +kernel)) (fun _ _ _ _ _ => (pg_name (i := 6) sc_all_span_lots.nd rfl (by first | exact Or.inl rfl | exact Or.inr rfl))) (fun _ _ _ _ _ => pts_nil) (fun _ _ _ _ _ => (pe_ix ix_seq (pv 6) pe_int (fun _ _ => rfl)))))
      (pss_one (ps_set (i := 3) sc_all_span_lots.nd rfl (by first | exact Or.inl rfl | exact Or.inr rfl) (pe_op op_addZ (pv 3) (pe_lc (own := [("last", 7)]) rfl sc_all_span_lots.nd (pi_range2 (by rfl) T.b_range (pa_cons (pv 2) (pa_cons (pv 0) pa_nil))) (blkOk_by (N := ["n", "found", "first", "late", "lot", "lasts", "span", "last"]) (sc := defScope s_all_span_lots) (by decide +kernel)) (fun _ _ _ _ _ => (pg_name (i := 7) sc_all_span_lots.nd rfl (by first | exact Or.inl rfl | exact Or.inr rfl))) (fun _ _ _ _ _ => (pts_one (pt_cmpR (op_notInZ hr.units) (pv 7) (pv 5) (by with_unfolding_all rfl)))) (fun _ _ _ _ _ => (pe_op op_addZ (pv 4) (pe_tupF (pa_cons (pe_tupF (pa_cons (pv 2) (pa_cons (pv 7) pa_nil))) pa_nil))))))))))
      (pss_one (ps_set (i := 1) sc_all_span_lots.nd rfl (by first | exact Or.inl rfl | exact Or.inr rfl) (pv 3))))))
      (pss_one (ps_ret (pe_callB (cr_sort0 hr.units) (by rfl) T.b_sorted (by decide +kernel) (pa_cons (pv 1) pa_nil)))))))
    (fun S => (ds_seq (ds_asg 1 (de_lst (da_cons (de_tup da_nil) da_nil)))
      (ds_seq (ds_for (Wg := [2]) (Wb := [3, 4, 5, 3, 1, 3]) (F := [2, 3, 4, 5]) (di_rng1 (da_cons (de_var 0) da_nil)) (dg_name 2) (ds_seq (ds_asg 3 (de_cb cd_list (da_cons (de_var 1) da_nil)))
      (ds_seq (ds_for (Wg := [4]) (Wb := [5, 3]) (F := [4, 5]) (di_seq (de_var 1)) (dg_name 4) (ds_seq (ds_asg 5 (de_lc (di_seq (de_var 4)) (dg_name 6) dt_yes (de_solid (de_opA oa_ix (de_var 6) de_int)) (by decide)))
      (ds_asg 3 (de_op od_add (de_var 3) (de_lc (di_rng2 (da_cons (de_var 2) (da_cons (de_var 0) da_nil))) (dg_name 7) (dt_val (de_op od_in (de_var 7) (de_var 5))) (de_op od_add (de_var 4) (de_tup (da_cons (de_tup (da_cons (de_var 2) (da_cons (de_var 7) da_nil))) da_nil))) (by decide))))) (by decide))
      (ds_move 1 3))) (by decide))
      (ds_ret (de_cb cd_sorted0 (da_cons (de_var 1) da_nil)))))) h (fun S ds R hs => pl_all_span_lots ds R hs)
def spec_codes_with : List D → (D → Prop) → Prop := fun ds R => ∃ (n r : Nat), ds = [.int ((n : Nat) : Int), .int ((r : Nat) : Int)] ∧ n ≤ 12 ∧ r ≤ n ∧ R (.int ((codesQ n r : Nat) : Int))
theorem len_codes_with : ∀ ds R, spec_codes_with ds R → ds.length = 2 := by
  rintro ds R ⟨n, r, rfl, _⟩
  rfl
def m_codes_with : DMS :=
  (sSeq (sAsg 2 (dLst (dCons (dC (.int 1)) dNil)))
  (sSeq (sFor (dRng1 (dCons (dVar 0) dNil)) (dgName 3) (sAsg 2 (dComp (dRng1 (dCons (dBin fAdd (dCall fLen (dCons (dVar 2) dNil)) (dC (.int 1))) dNil)) (dgName 4) dYes (dBin fAdd (dIf (dTest (dBin (f2I fun i j => .bool (decide (j < i))) (dVar 4) (dC (.int 0)))) (dBin fIx (dVar 2) (dBin (f2I fun i j => .int (i - j)) (dVar 4) (dC (.int 1)))) (dC (.int 0))) (dIf (dTest (dBin (f2I fun i j => .bool (decide (i < j))) (dVar 4) (dCall fLen (dCons (dVar 2) dNil)))) (dBin (f2IC CPow fun i j => .int (i * 2 ^ j.toNat)) (dBin fIx (dVar 2) (dVar 4)) (dVar 4)) (dC (.int 0)))) [4])) [3, 2] [3])
  (sRet (dSolid (dIf (dTest (dChain (f2I fun i j => .bool (decide (i ≤ j))) (f2I fun i j => .bool (decide (i ≤ j))) (dC (.int 0)) (dVar 1) (dVar 0))) (dBin fIx (dVar 2) (dVar 1)) (dC (.int 0)))))))
theorem rowQ_small : ∀ n, n ≤ 12 → ∀ k, k ≤ n → (rowQ n).getD k 0 < 2 ^ 60 := by
  have h : ∀ n, n < 13 → ∀ k, k < n + 1 → (rowQ n).getD k 0 < 2 ^ 60 := by decide +kernel
  exact fun n hn k hk => h n (by omega) k (by omega)
theorem pl_codes_with : ∀ ds R, spec_codes_with ds R → m_codes_with (startE ["n", "rank", "row", "length", "k"] ds) (retE R) := by
  rintro ds R ⟨n, r, rfl, hn, hr, h⟩
  unfold m_codes_with
  walk_at "h"
  walk_at "s"
  refine ⟨⟨by omega, by omega⟩, ?_⟩
  rw [Int.toNat_natCast]
  refine forD_inv (fun m ρ => ρ = [.val (natD n), .val (natD r), .own (.list ((rowQ m).map natD)), .unk, .unk]) _ 0 _ rfl ?_ ?_
  · rintro i x ρ Nx hx rfl hN
    obtain ⟨hi, rfl⟩ := range_at hx
    rw [Nat.zero_add] at hN ⊢
    have lr := rowQ_len i
    walk_at "h"
    rw [List.length_map, lr]
    refine ⟨⟨by omega, by omega⟩, by rw [rangeD_len]; omega, ?_⟩
    rw [show (((i + 1 : Nat) : Int) + 1).toNat = i + 2 by omega, rangeD_nats]
    refine compD_map (fun k => natD ((if 0 < k then (rowQ i).getD (k - 1) 0 else 0) + (if k < (rowQ i).length then (rowQ i).getD k 0 * 2 ^ k else 0))) (fun k hk c c0 hc => ?_) ?_
    · have hk := List.mem_range.mp hk
      walk_at "h"
      by_cases c1 : 0 < k
      · have e1 : decide ((0 : Int) < ((k : Nat) : Int)) = true := by simpa using c1
        rw [e1]
        walk_at "h"
        refine ⟨_, at_nats (k := k - 1) (by omega) (by omega), ?_⟩
        by_cases c2 : k < (rowQ i).length
        · have e2 : decide (((k : Nat) : Int) < (((List.map natD (rowQ i)).length : Nat) : Int)) = true := by rw [List.length_map]; simpa using c2
          rw [e2]
          walk_at "h"
          refine ⟨_, at_nats (k := k) rfl (by omega), ?_⟩
          rw [if_pos c1, if_pos c2] at hc
          refine ⟨by have := rowQ_small i (by omega) k (by omega); unfold CPow; omega, ?_⟩
          rw [Int.toNat_natCast]
          have : natD ((rowQ i).getD (k - 1) 0 + (rowQ i).getD k 0 * 2 ^ k) = .int ((((rowQ i).getD (k - 1) 0 : Nat) : Int) + (((rowQ i).getD k 0 : Nat) : Int) * 2 ^ k) := by
            show PyData.int _ = _
            push_cast
            rfl
          rw [← this]
          exact hc
        · have e2 : decide (((k : Nat) : Int) < (((List.map natD (rowQ i)).length : Nat) : Int)) = false := by rw [List.length_map]; simpa using c2
          rw [e2]
          walk_at "h"
          rw [if_pos c1, if_neg c2] at hc
          have : natD ((rowQ i).getD (k - 1) 0 + 0) = .int ((((rowQ i).getD (k - 1) 0 : Nat) : Int) + 0) := by
            show PyData.int _ = _
            push_cast
            rfl
          rw [← this]
          exact hc
      · have e1 : decide ((0 : Int) < ((k : Nat) : Int)) = false := by simpa using c1
        rw [e1]
        have c2 : k < (rowQ i).length := by omega
        have e2 : decide (((k : Nat) : Int) < (((List.map natD (rowQ i)).length : Nat) : Int)) = true := by rw [List.length_map]; simpa using c2
        rw [e2]
        walk_at "h"
        refine ⟨_, at_nats (k := k) rfl (by omega), ?_⟩
        rw [if_neg c1, if_pos c2] at hc
        refine ⟨by have := rowQ_small i (by omega) k (by omega); unfold CPow; omega, ?_⟩
        rw [Int.toNat_natCast]
        have : natD (0 + (rowQ i).getD k 0 * 2 ^ k) = .int (0 + (((rowQ i).getD k 0 : Nat) : Int) * 2 ^ k) := by
          show PyData.int _ = _
          push_cast
          rfl
        rw [← this]
        exact hc
    · refine hN _ ?_
      walk_at "h"
      rw [rowQ, lr, List.map_map]
      rfl
  · rintro ρ rfl
    rw [Nat.zero_add, rangeD_len]
    walk_at "h"
    rw [Z.later_cons]
    walk_at "h"
    have e1 : decide ((0 : Int) ≤ ((r : Nat) : Int)) = true := by simp
    have e2 : decide (((r : Nat) : Int) ≤ ((n : Nat) : Int)) = true := by simpa using hr
    rw [e1]
    walk_at "h"
    rw [e2]
    walk_at "h"
    refine ⟨_, at_nats (k := r) rfl (by rw [rowQ_len]; omega), solid_int _, h⟩
theorem at_codes_with (T : Tx K mg) : FnAt P w K mg base "codes_with" 1 2 (spD K spec_codes_with) := by
  obtain ⟨f, fd, hm, F⟩ := T.f_codes_with
  refine fnAt_of hm F rfl (F.binds (ps := ["n", "rank"]) fun _ _ _ _ _ _ us hl => match us, hl with | [_, _], _ => rfl) (fnG_of F sc_codes_with (spD_len len_codes_with) fun cdv A outer s H vs Q E hr hg h => ?_)
  exact body_of (m := fun _ => m_codes_with) ["n", "rank", "row", "length", "k"]
    ((pss_cons (ps_set (i := 2) sc_codes_with.nd rfl (by first | exact Or.inl rfl | exact Or.inr rfl) (pe_lst (pa_cons pe_int pa_nil)))
      (pss_cons (ps_for PassesOwn.never rfl (pi_range1 (by rfl) T.b_range (pa_cons (pv 0) pa_nil)) (pg_name (i := 3) sc_codes_with.nd rfl (by first | exact Or.inl rfl | exact Or.inr rfl)) (pss_one (ps_set (i := 2) sc_codes_with.nd rfl (by first | exact Or.inl rfl | exact Or.inr rfl) (pe_lc (own := [("k", 4)]) rfl sc_codes_with.nd (pi_range1 (by rfl) T.b_range (pa_cons (pe_op op_addZ (pe_callB call_len (by rfl) T.b_len PySem.boot_len (pa_cons (pv 2) pa_nil)) pe_int) pa_nil)) (blkOk_by (N := ["n", "rank", "row", "length", "k"]) (sc := defScope s_codes_with) (by decide +kernel)) (fun _ _ _ _ _ => (pg_name (i := 4) sc_codes_with.nd rfl (by first | exact Or.inl rfl | exact Or.inr rfl))) (fun _ _ _ _ _ => pts_nil) (fun _ _ _ _ _ => (pe_op op_addZ (pe_ifExp (pt_cmpR op_gt (pv 4) pe_int (nomark _)) (pe_ix ix_seq (pv 2) (pe_op op_sub (pv 4) pe_int) (fun _ _ => rfl)) pe_int) (pe_ifExp (pt_cmpR op_lt (pv 4) (pe_callB call_len (by rfl) T.b_len PySem.boot_len (pa_cons (pv 2) pa_nil)) (nomark _)) (pe_op op_shl (pe_ix ix_seq (pv 2) (pv 4) (fun _ _ => rfl)) (pv 4)) pe_int)))))))
      (pss_one (ps_ret (pe_ifExp (pt_chain op_le op_le pe_int (pv 1) (pv 0)) (pe_ix ix_seq (pv 2) (pv 1) (fun _ _ => rfl)) pe_int))))))
    (fun S => (ds_seq (ds_asg 2 (de_lst (da_cons de_int da_nil)))
      (ds_seq (ds_for (Wg := [3]) (Wb := [2]) (F := [3]) (di_rng1 (da_cons (de_var 0) da_nil)) (dg_name 3) (ds_asg 2 (de_lc (di_rng1 (da_cons (de_op od_add (de_cb cd_len (da_cons (de_var 2) da_nil)) de_int) da_nil)) (dg_name 4) dt_yes (de_op od_add (de_if (dt_val (de_op od_B0 (de_var 4) de_int)) (de_opA oa_ix (de_var 2) (de_op od_I0 (de_var 4) de_int)) de_int) (de_if (dt_val (de_op od_B0 (de_var 4) (de_cb cd_len (da_cons (de_var 2) da_nil)))) (de_op od_IC (de_opA oa_ix (de_var 2) (de_var 4)) (de_var 4)) de_int)) (by decide))) (by decide))
      (ds_ret (de_solid (de_if (dt_val (de_chain od_B0 od_B0 de_int (de_var 1) (de_var 0))) (de_opA oa_ix (de_var 2) (de_var 1)) de_int)))))) h (fun S ds R hs => pl_codes_with ds R hs)
theorem at__law_source (T : Tx K mg) : FnAt P w K mg base "_law_source" 1 1 (spSource K) := by
  obtain ⟨f, fd, hm, F⟩ := T.f__law_source
  refine fnAt_of hm F rfl (F.binds (ps := ["script"]) fun _ _ _ _ _ _ us hl => match us, hl with | [_], _ => rfl) (fnG_of F sc__law_source (fun vs H Q E h => by obtain ⟨a, ns, rfl, _⟩ := h; rfl) fun cdv A outer s H vs Q E hr hg h => ⟨tSource K, ?_, source_reading h⟩)
  exact (pss_cons (ps_set (i := 1) sc__law_source.nd rfl (.inl rfl) pe_int) (pss_cons (ps_for PassesOwn.never rfl (pi_list (pv 0)) (pg_name (i := 2) sc__law_source.nd rfl (.inl rfl))
    (pss_one (ps_set (i := 1) sc__law_source.nd rfl (.inl rfl) (pe_op op_mod (pe_callTy call_int1 (by rfl) T.b_int (by decide +kernel) (pa_cons (pe_op op_add (pe_op op_add (pe_op op_mul (pv 1) pe_int) (pe_op op_mul (pv 2) pe_int)) pe_int) pa_nil)) pe_int))))
    (pss_one (ps_ret (pe_disp (pps_cons pe_str (pe_revL (pe_lc (own := [("cell", 2)]) rfl sc__law_source.nd (pi_list (pv 0)) (blkOk_by (N := ["script", "mixed", "cell"]) (sc := defScope s__law_source) (by decide +kernel)) (fun _ _ _ _ _ => pg_name (i := 2) sc__law_source.nd rfl (.inl rfl)) (fun _ _ _ _ _ => pts_nil)
      (fun _ _ _ _ _ => pe_callB call_abs (by rfl) T.b_abs (by decide +kernel) (pa_cons (pv 2) pa_nil))))
      (pps_cons pe_str pe_int (pps_cons pe_str (pv 1) (pps_cons pe_str pe_int pps_nil)))) (by rfl) (by rfl) (fun z => by cases z) (by decide))))))
theorem at__law_pick (T : Tx K mg) : FnAt P w K mg base "_law_pick" 1 2 (spD K specPick) := by
  obtain ⟨f, fd, hm, F⟩ := T.f__law_pick
  refine fnAt_of hm F rfl (F.binds (ps := ["source", "many"]) fun _ _ _ _ _ _ us hl => match us, hl with | [_, _], _ => rfl) (fnG_of F sc__law_pick (spD_len fun ds R h => by obtain ⟨n, rfl, _⟩ := h; rfl) fun cdv A outer s H vs Q E hr hg h => ⟨tPick K, ?_, pick_reading h⟩)
  have hu := hu_of hr
  exact (pss_cons (ps_while PassesOwn.never (PW.pt (pw_and (pt_cmpR op_gt (pv 1) pe_int (nomark _)) (pw_and (pt_cmpR op_lt (pe_dget hu (pv 0) pe_str (fun _ _ => rfl)) pe_int (nomark _))
      (pw_and1 (pt_cmpR op_gt (pe_callB call_len (by rfl) T.b_len PySem.boot_len (pa_cons (pe_dget hu (pv 0) pe_str (fun _ _ => rfl)) pa_nil)) pe_int (nomark _))))))
      (pss_one (ps_dput hu (pv 0) pe_str (pe_bm0 PySem.F.plainAttrs_list PySem.F.slot_list_pop PySem.F.type_list_pop mt_pop (pe_dget hu (pv 0) pe_str (fun _ _ => rfl))) rfl)))
    (pss_cons (ps_set (i := 2) sc__law_pick.nd rfl (.inl rfl) (pe_dget hu (pv 0) pe_str (fun _ _ => rfl)))
    (pss_cons (ps_if (PW.pt (pw_or (pt_cmpR op_lt (pv 1) pe_int (nomark _)) (pw_or1 (pt_cmpR op_gt (pv 2) pe_int (nomark _)))))
      (pss_cons (ps_dput hu (pv 0) pe_str (pe_op op_fdiv (pv 2) (pe_callB (call_max2 rfl) (by rfl) T.b_max (by decide +kernel) (pa_cons pe_int (pa_cons (pv 1) pa_nil)))) rfl)
        (pss_one (ps_ret (pe_op op_mod (pe_callTy call_int1 (by rfl) T.b_int (by decide +kernel) (pa_cons (pv 2) pa_nil)) (pe_callB (call_max2 rfl) (by rfl) T.b_max (by decide +kernel) (pa_cons pe_int (pa_cons (pv 1) pa_nil)))))))
      pss_nil)
    (pss_cons (ps_dput hu (pv 0) pe_str (pe_op op_add (pe_dget hu (pv 0) pe_str (fun _ _ => rfl)) pe_int) rfl)
    (pss_cons (ps_set (i := 3) sc__law_pick.nd rfl (.inl rfl) (pe_op op_mod (pe_callTy call_int1 (by rfl) T.b_int (by decide +kernel) (pa_cons (pe_op op_add (pe_dget hu (pv 0) pe_str (fun _ _ => rfl)) (pe_op op_mul (pe_dget hu (pv 0) pe_str (fun _ _ => rfl)) pe_int)) pa_nil)) pe_int))
    (pss_cons (ps_set (i := 3) sc__law_pick.nd rfl (.inl rfl) (pe_op op_mod (pe_callTy call_int1 (by rfl) T.b_int (by decide +kernel) (pa_cons (pe_op op_add (pe_op op_mul (pv 3) (pv 3)) (pe_op op_mul (pe_dget hu (pv 0) pe_str (fun _ _ => rfl)) pe_int)) pa_nil)) pe_int))
    (pss_cons (ps_dput hu (pv 0) pe_str (pv 3) rfl)
    (pss_one (ps_ret (pe_op op_mod (pe_callTy call_int1 (by rfl) T.b_int (by decide +kernel) (pa_cons (pe_op op_fdiv (pv 3) pe_int) pa_nil)) (pv 1)))))))))))
abbrev spec__law_pick := specPick
def spec__law_of : List D → (D → Prop) → Prop := fun ds R => ∃ xs : List D, (ds = [srcD, .list xs] ∨ ds = [srcD, .tuple xs]) ∧ solids xs = true ∧ xs ≠ [] ∧ xs.length ≤ 1000000 ∧ ∀ x ∈ xs, R x
theorem len__law_of : ∀ ds R, spec__law_of ds R → ds.length = 2 := by
  rintro ds R ⟨xs, rfl | rfl, _⟩ <;> rfl
def m__law_of : DMS :=
  (sRet (dSolid (dBin fIx (dVar 1) (dCall spec__law_pick (dCons (dVar 0) (dCons (dCall fLen (dCons (dVar 1) dNil)) dNil))))))
theorem pl__law_of : ∀ ds R, spec__law_of ds R → m__law_of (startE ["source", "some"] ds) (retE R) := by
  rintro ds R ⟨xs, hds, hs, hne, hl, h⟩
  have pos : 0 < xs.length := List.length_pos_iff.mpr hne
  unfold m__law_of
  rcases hds with rfl | rfl <;> walk_at "z" <;> refine ⟨xs.length, rfl, by omega, fun k k0 k1 => ?_⟩
  all_goals
    walk_at "z"
    obtain ⟨x, hx, e⟩ := at_mem (xs := xs) k0 (by omega)
    exact ⟨x, e, solid_mem hs x hx, h x hx⟩
theorem at__law_of (T : Tx K mg) : FnAt P w K mg base "_law_of" 2 2 (spD K spec__law_of) := by
  obtain ⟨f, fd, hm, F⟩ := T.f__law_of
  refine fnAt_of hm F rfl (F.binds (ps := ["source", "some"]) fun _ _ _ _ _ _ us hl => match us, hl with | [_, _], _ => rfl) (fnG_of F sc__law_of (spD_len len__law_of) fun cdv A outer s H vs Q E hr hg h => ?_)
  exact body_of (m := fun _ => m__law_of) ["source", "some"]
    ((pss_one (ps_ret (pe_ix ix_seq (pv 1) (pe_callG (at__law_pick T) (hr.mono (by decide)) hg (by rfl) (pa_cons (pv 0) (pa_cons (pe_callB call_len (by rfl) T.b_len PySem.boot_len (pa_cons (pv 1) pa_nil)) pa_nil))) (fun _ _ => rfl)))))
    (fun S => (ds_ret (de_solid (de_opA oa_ix (de_var 1) (de_call (da_cons (de_var 0) (da_cons (de_cb cd_len (da_cons (de_var 1) da_nil)) da_nil))))))) h (fun S ds R hs => pl__law_of ds R hs)
theorem at__law_mixed (T : Tx K mg) : FnAt P w K mg base "_law_mixed" 2 2 (spD K specMixed) := by
  obtain ⟨f, fd, hm, F⟩ := T.f__law_mixed
  refine fnAt_of hm F rfl (F.binds (ps := ["source", "things"]) fun _ _ _ _ _ _ us hl => match us, hl with | [_, _], _ => rfl) (fnG_of F sc__law_mixed (spD_len fun ds R h => by obtain ⟨xs, rfl | rfl, _⟩ := h <;> rfl) fun cdv A outer s H vs Q E hr hg h => ⟨tMixed K E0, ?_, mixed_reading h⟩)
  exact (pss_cons (ps_set (i := 2) sc__law_mixed.nd rfl (by first | exact Or.inl rfl | exact Or.inr rfl) (pe_callTy call_list_of (by rfl) T.b_list (by decide +kernel) (pa_cons (pv 1) pa_nil)))
    (pss_one (ps_ret (pe_lc (own := [("lap", 3)]) rfl sc__law_mixed.nd (pi_range1 (by rfl) T.b_range (pa_cons (pe_callB call_len (by rfl) T.b_len PySem.boot_len (pa_cons (pv 2) pa_nil)) pa_nil))
      (blkOk_by (N := ["source", "things", "rest", "lap"]) (sc := defScope s__law_mixed) (by decide +kernel)) (fun _ _ _ _ _ => (pg_name (i := 3) sc__law_mixed.nd rfl (by first | exact Or.inl rfl | exact Or.inr rfl))) (fun _ _ _ _ _ => pts_nil)
      (fun _ _ _ _ _ => pe_bm PySem.F.plainAttrs_list PySem.F.slot_list_pop PySem.F.type_list_pop mt_popAt (pv 2) (pa_cons (pe_callG (at__law_pick T) (hr.mono (by decide)) hg (by rfl) (pa_cons (pv 0) (pa_cons (pe_callB call_len (by rfl) T.b_len PySem.boot_len (pa_cons (pv 2) pa_nil)) pa_nil))) pa_nil))))))
abbrev spec__law_mixed := specMixed
/-- all pairs of places below n, the first one not greater -/
def pairsN (n : Nat) : List (Nat × Nat) := (List.range n).flatMap fun x => (List.range (n - x)).map fun k => (x, x + k)
theorem pairsN_ok {n : Nat} {p : Nat × Nat} (h : p ∈ pairsN n) : PrOk n p := by
  obtain ⟨x, hx, hp⟩ := List.mem_flatMap.mp h
  obtain ⟨k, hk, rfl⟩ := List.mem_map.mp hp
  have hx := List.mem_range.mp hx
  have hk := List.mem_range.mp hk
  exact ⟨by show x ≤ x + k; omega, by show x + k < n; omega⟩
theorem pairsN_len (n : Nat) : (pairsN n).length ≤ n * n := by
  have : ∀ m, m ≤ n → ((List.range m).flatMap fun x => (List.range (n - x)).map fun k => (x, x + k)).length ≤ m * n := fun m => by
    induction m with
    | zero => intro _; simp
    | succ m ih =>
      intro h
      have := ih (by omega)
      rw [List.range_succ, List.flatMap_append, List.length_append]
      simp only [List.flatMap_cons, List.flatMap_nil, List.append_nil, List.length_map, List.length_range]
      rw [Nat.succ_mul]
      omega
  exact this n (Nat.le_refl _)
def spec__law_pairs : List D → (D → Prop) → Prop := fun ds R => ∃ n : Nat, ds = [.int ((n : Nat) : Int)] ∧ n ≤ 100 ∧ R (.list ((pairsN n).map prD))
theorem len__law_pairs : ∀ ds R, spec__law_pairs ds R → ds.length = 1 := by
  rintro ds R ⟨n, rfl, _⟩
  rfl
def m__law_pairs : DMS :=
  (sSeq (sAsg 1 (dLst dNil))
  (sSeq (sFor (dRng1 (dCons (dVar 0) dNil)) (dgName 2) (sAsg 1 (dBin fAdd (dVar 1) (dComp (dRng2 (dCons (dVar 2) (dCons (dVar 0) dNil))) (dgName 3) dYes (dSolid (dTup (dCons (dVar 2) (dCons (dVar 3) dNil)))) [3]))) [2, 1] [2])
  (sRetV 1)))
theorem pl__law_pairs : ∀ ds R, spec__law_pairs ds R → m__law_pairs (startE ["n", "found", "x", "y"] ds) (retE R) := by
  rintro ds R ⟨n, rfl, hn, h⟩
  unfold m__law_pairs
  walk_at "h"
  walk_at "s"
  rw [Int.toNat_natCast, rangeD_nats]
  obtain ⟨F, hF⟩ : ∃ F : Nat → List (Nat × Nat), F = fun m => (List.range m).flatMap fun x => (List.range (n - x)).map fun k => (x, x + k) := ⟨_, rfl⟩
  have lF : ∀ m, m ≤ n → (F m).length ≤ m * 100 := fun m => by
    rw [hF]
    induction m with
    | zero => intro _; simp
    | succ m ih =>
      intro h
      have := ih (by omega)
      simp only [] at this ⊢
      rw [List.range_succ, List.flatMap_append, List.length_append]
      simp only [List.flatMap_cons, List.flatMap_nil, List.append_nil, List.length_map, List.length_range]
      omega
  refine ⟨⟨by omega, by omega⟩, forD_nx (fun i ρ => ρ = [.val (.int ((n : Nat) : Int)), .own (.list ((F i).map prD)), .unk, .unk]) _ 0 _ (by rw [hF]; rfl) ?_ ?_⟩
  · rintro i x ρ E hx rfl hN
    obtain ⟨hi, rfl⟩ : i < n ∧ natD i = x := by
      rw [List.getElem?_map] at hx
      by_cases c : i < n
      · rw [List.getElem?_range c] at hx
        exact ⟨c, by injection hx⟩
      · rw [List.getElem?_eq_none (by simpa using c)] at hx
        cases hx
    have l1 := lF i (by omega)
    rw [Nat.zero_add] at *
    have er : rangeD ((i : Nat) : Int) (((n : Nat) : Int) - ((i : Nat) : Int)).toNat 1 = (List.range (n - i)).map fun k => natD (i + k) := by
      unfold rangeD
      rw [show (((n : Nat) : Int) - ((i : Nat) : Int)).toNat = n - i by omega]
      refine List.map_congr_left fun k _ => ?_
      show (.int _ : D) = .int _
      congr 1
      push_cast
      omega
    walk_at "h"
    rw [er]
    refine ⟨⟨by omega, by omega, by omega, by omega⟩, by rw [List.length_map, List.length_range]; omega, compD_map (enc := fun k => natD (i + k)) (ys := List.range (n - i)) (fun k => prD (i, i + k)) (fun k hk q q0 hq => ?_) ?_⟩
    · walk_at "h"
      exact hq
    · have eF : (F i).map prD ++ (List.range (n - i)).map (fun k => prD (i, i + k)) = (F (i + 1)).map prD := by
        rw [hF]
        simp only []
        rw [List.range_succ, List.flatMap_append, List.map_append]
        simp only [List.flatMap_cons, List.flatMap_nil, List.append_nil, List.map_map]
        rfl
      rw [eF]
      refine ⟨solids_prD _, solids_of fun k _ => solid_prD _, by rw [List.length_map, List.length_map, List.length_range]; omega, hN _ rfl⟩
  · rintro ρ rfl
    walk_at "h"
    rw [Z.later_cons]
    rw [List.length_map, List.length_range]
    have e : F n = pairsN n := by rw [hF]; rfl
    rw [e]
    exact h
theorem at__law_pairs (T : Tx K mg) : FnAt P w K mg base "_law_pairs" 1 1 (spD K spec__law_pairs) := by
  obtain ⟨f, fd, hm, F⟩ := T.f__law_pairs
  refine fnAt_of hm F rfl (F.binds (ps := ["n"]) fun _ _ _ _ _ _ us hl => match us, hl with | [_], _ => rfl) (fnG_of F sc__law_pairs (spD_len len__law_pairs) fun cdv A outer s H vs Q E hr hg h => ?_)
  exact body_of (m := fun _ => m__law_pairs) ["n", "found", "x", "y"]
    ((pss_cons (ps_set (i := 1) sc__law_pairs.nd rfl (by first | exact Or.inl rfl | exact Or.inr rfl) (pe_lst pa_nil))
      (pss_cons (ps_for PassesOwn.never rfl (pi_range1 (by rfl) T.b_range (pa_cons (pv 0) pa_nil)) (pg_name (i := 2) sc__law_pairs.nd rfl (by first | exact Or.inl rfl | exact Or.inr rfl)) (pss_one (ps_set (i := 1) sc__law_pairs.nd rfl (by first | exact Or.inl rfl | exact Or.inr rfl) (pe_op op_addZ (pv 1) (pe_lc (own := [("y", 3)]) rfl sc__law_pairs.nd (pi_range2 (by rfl) T.b_range (pa_cons (pv 2) (pa_cons (pv 0) pa_nil))) (blkOk_by (N := ["n", "found", "x", "y"]) (sc := defScope s__law_pairs) (by decide +kernel)) (fun _ _ _ _ _ => (pg_name (i := 3) sc__law_pairs.nd rfl (by first | exact Or.inl rfl | exact Or.inr rfl))) (fun _ _ _ _ _ => pts_nil) (fun _ _ _ _ _ => (pe_tupF (pa_cons (pv 2) (pa_cons (pv 3) pa_nil)))))))))
      (pss_one (ps_ret (pv 1))))))
    (fun S => (ds_seq (ds_asg 1 (de_lst da_nil))
      (ds_seq (ds_for (Wg := [2]) (Wb := [1]) (F := [2]) (di_rng1 (da_cons (de_var 0) da_nil)) (dg_name 2) (ds_asg 1 (de_op od_add (de_var 1) (de_lc (di_rng2 (da_cons (de_var 2) (da_cons (de_var 0) da_nil))) (dg_name 3) dt_yes (de_solid (de_tup (da_cons (de_var 2) (da_cons (de_var 3) da_nil)))) (by decide)))) (by decide))
      (ds_retV 1)))) h (fun S ds R hs => pl__law_pairs ds R hs)
def spec__law_lot : List D → (D → Prop) → Prop := fun ds R => ∃ n : Nat, ds = [srcD, .int ((n : Nat) : Int)] ∧ 1 ≤ n ∧ n ≤ 100 ∧ ∀ L : List (Nat × Nat), LotN n L → R (.tuple (L.map prD))
theorem len__law_lot : ∀ ds R, spec__law_lot ds R → ds.length = 2 := by
  rintro ds R ⟨n, rfl, _⟩
  rfl
def m__law_lot : DMS :=
  (sSeq (sAsg 2 (dLst dNil))
  (sSeq (sFor (dItems (dSlice (dCall spec__law_mixed (dCons (dVar 0) (dCons (dCall spec__law_pairs (dCons (dVar 1) dNil)) dNil))) dNo (dPart (dCall spec__law_pick (dCons (dVar 0) (dCons (dBin fMul (dC (.int 3)) (dVar 1)) dNil)))))) (dgName 3) (sIf (dTest (dBin (fEq false) (dComp (dItems (dVar 2)) (dgTup 2 (dgCons (dgName 4) (dgCons (dgName 5) dgNil))) (dOr (dTest (dBin (fEq false) (dVar 4) (dBin fIx (dVar 3) (dC (.int 0))))) (dTest (dBin (fEq false) (dVar 5) (dBin fIx (dVar 3) (dC (.int 1)))))) (dC (.int 1)) [4, 5]) (dLst dNil))) (sAppend 2 (dSolid (dVar 3))) sNext) [3, 2] [3])
  (sRet (dCall fTuple (dCons (dCall (fSorted false) (dCons (dVar 2) dNil)) dNil)))))
theorem pl__law_lot : ∀ ds R, spec__law_lot ds R → m__law_lot (startE ["source", "n", "found", "pair", "x", "y"] ds) (retE R) := by
  rintro ds R ⟨n, rfl, h1, hn, h⟩
  unfold m__law_lot
  walk_at "h"
  walk_at "s"
  have lp := pairsN_len n
  have lp2 : n * n ≤ 100 * 100 := Nat.mul_le_mul hn hn
  refine ⟨n, rfl, hn, ?_⟩
  refine ⟨_, .inl rfl, solids_prD _, by rw [List.length_map]; omega, fun ys hy => ?_⟩
  obtain ⟨M, hM, rfl⟩ := perm_map hy rfl
  refine ⟨by unfold CMul; omega, 3 * n, rfl, by omega, fun k k0 k1 => ?_⟩
  obtain ⟨k, rfl⟩ : ∃ m : Nat, k = (m : Int) := ⟨k.toNat, by omega⟩
  refine ⟨solids_prD _, ?_⟩
  rw [cutL_take, ← List.map_take]
  have mok : ∀ p ∈ M.take k, PrOk n p := fun p hp => pairsN_ok (hM.mem_iff.mp (List.mem_of_mem_take hp))
  refine forD_fold prD (fun (T : List (Nat × Nat)) p => if (T.filter fun q => q.1 == p.1 || q.2 == p.2).isEmpty then T ++ [p] else T) (fun T ρ => Apart n T ∧ ρ = [.val srcD, .val (.int ((n : Nat) : Int)), .own (.list (T.map prD)), .unk, .unk, .unk]) (M.take k) [] _ ⟨⟨(fun p hp => by cases hp), List.nodup_nil, List.nodup_nil⟩, rfl⟩ ?_ ?_
  · rintro p hp T ρ Nx Bk ⟨ap, rfl⟩ hN
    have pk := mok p hp
    have lT := ap.len
    walk_at "h"
    refine ⟨by rw [List.length_map]; omega, compD_filter (fun _ => .int 1) (fun q => q.1 == p.1 || q.2 == p.2) (fun q hq c c0 h1 h0 => ?_) ?_⟩
    · rw [show prD q = .tuple [.int ((q.1 : Nat) : Int), .int ((q.2 : Nat) : Int)] from rfl]
      rw [show prD p = .tuple [.int ((p.1 : Nat) : Int), .int ((p.2 : Nat) : Int)] from rfl]
      have eq1 : ∀ a b : Nat, (((a : Nat) : Int) == ((b : Nat) : Int)) = (a == b) := fun a b => by
        rw [Bool.eq_iff_iff, beq_iff_eq, beq_iff_eq]
        omega
      walk_at "y"
      refine fEq_int ?_
      simp only [Bool.false_eq_true, if_false]
      rw [eq1]
      cases c1 : (q.1 == p.1)
      · rw [c1] at h1 h0
        walk_at "y"
        refine fEq_int ?_
        simp only [Bool.false_eq_true, if_false]
        rw [eq1]
        cases c2 : (q.2 == p.2)
        · exact h0 (by rw [c2]; rfl)
        · exact h1 (by rw [c2]; rfl)
      · rw [c1] at h1
        exact h1 rfl
    · refine fEq_ones_nil ?_
      simp only [Bool.false_eq_true, if_false]
      obtain ⟨b, hb⟩ : ∃ b, b = (T.filter fun q => q.1 == p.1 || q.2 == p.2).isEmpty := ⟨_, rfl⟩
      rw [← hb] at hN ⊢
      cases b
      · exact hN _ ⟨ap, rfl⟩
      · have no : ∀ q ∈ T, q.1 ≠ p.1 ∧ q.2 ≠ p.2 := fun q hq => by
          have e := List.isEmpty_iff.mp hb.symm
          have := List.filter_eq_nil_iff.mp e q hq
          simpa using this
        refine ⟨solid_prD p, by rw [List.length_map]; omega, hN _ ⟨show Apart n (T ++ [p]) from ⟨fun q hq => ?_, ?_, ?_⟩, ?_⟩⟩
        · rcases List.mem_append.mp hq with hq | hq
          · exact ap.ok q hq
          · rw [List.mem_singleton.mp hq]
            exact pk
        · rw [List.map_append]
          refine List.nodup_append.mpr ⟨ap.fst, List.pairwise_singleton _ _, fun a ha b hb2 => ?_⟩
          obtain ⟨q, hq, rfl⟩ := List.mem_map.mp ha
          rw [List.mem_singleton.mp hb2]
          exact (no q hq).1
        · rw [List.map_append]
          refine List.nodup_append.mpr ⟨ap.snd, List.pairwise_singleton _ _, fun a ha b hb2 => ?_⟩
          obtain ⟨q, hq, rfl⟩ := List.mem_map.mp ha
          rw [List.mem_singleton.mp hb2]
          exact (no q hq).2
        · rw [if_pos rfl, List.map_append]
          rfl
  · rintro ρ ⟨ap, rfl⟩
    walk_at "h"
    rw [Z.later_cons]
    obtain ⟨T, hT⟩ : ∃ T, T = List.foldl (fun (T : List (Nat × Nat)) p => if (T.filter fun q => q.1 == p.1 || q.2 == p.2).isEmpty then T ++ [p] else T) [] (M.take k) := ⟨_, rfl⟩
    rw [← hT] at ap ⊢
    have lT := ap.len
    walk_at "h"
    refine ⟨solids_prD _, sortOk_pr (by omega), ?_⟩
    rw [sortD_pr]
    have ap2 := ap.perm (upP_perm T)
    exact ⟨solids_prD _, h _ ⟨ap2, (lt_of_le ap2.fst).mp ((asc_first ap2.fst).mp (upP_asc T))⟩⟩
theorem at__law_lot (T : Tx K mg) : FnAt P w K mg base "_law_lot" 3 2 (spD K spec__law_lot) := by
  obtain ⟨f, fd, hm, F⟩ := T.f__law_lot
  refine fnAt_of hm F rfl (F.binds (ps := ["source", "n"]) fun _ _ _ _ _ _ us hl => match us, hl with | [_, _], _ => rfl) (fnG_of F sc__law_lot (spD_len len__law_lot) fun cdv A outer s H vs Q E hr hg h => ?_)
  exact body_of (m := fun _ => m__law_lot) ["source", "n", "found", "pair", "x", "y"]
    ((pss_cons (ps_set (i := 2) sc__law_lot.nd rfl (by first | exact Or.inl rfl | exact Or.inr rfl) (pe_lst pa_nil))
      (pss_cons (ps_for PassesOwn.never rfl (pi_seq (pe_slice sl_cut (pe_callG (at__law_mixed T) (hr.mono (by decide)) hg (by rfl) (pa_cons (pv 0) (pa_cons (pe_callG (at__law_pairs T) (hr.mono (by decide)) hg (by rfl) (pa_cons (pv 1) pa_nil)) pa_nil))) po_none (po_some (pe_callG (at__law_pick T) (hr.mono (by decide)) hg (by rfl) (pa_cons (pv 0) (pa_cons (pe_op op_mulZ pe_int (pv 1)) pa_nil)))))) (pg_name (i := 3) sc__law_lot.nd rfl (by first | exact Or.inl rfl | exact Or.inr rfl)) (pss_one (ps_if (pt_cmpR (op_eqZ hr.units) (pe_lc (own := [("x", 4), ("y", 5)]) rfl sc__law_lot.nd (pi_seq (pv 2)) (blkOk_by (N := ["source", "n", "found", "pair", "x", "y"]) (sc := defScope s__law_lot) (by decide +kernel)) (fun _ _ _ _ _ => (pg_tup rfl (pgs_cons (pg_name (i := 4) sc__law_lot.nd rfl (by first | exact Or.inl rfl | exact Or.inr rfl)) (pgs_cons (pg_name (i := 5) sc__law_lot.nd rfl (by first | exact Or.inl rfl | exact Or.inr rfl)) pgs_nil)))) (fun _ _ _ _ _ => (pts_one (PW.pt (pw_or (pt_cmpR (op_eqZ hr.units) (pv 4) (pe_ix ix_seq (pv 3) pe_int (fun _ _ => rfl)) (nomark _)) (pw_or1 (pt_cmpR (op_eqZ hr.units) (pv 5) (pe_ix ix_seq (pv 3) pe_int (fun _ _ => rfl)) (nomark _))))))) (fun _ _ _ _ _ => pe_int)) (pe_lst pa_nil) (nomark _)) (pss_one (ps_expr (pe_bm PySem.F.plainAttrs_list PySem.F.slot_list_append PySem.F.type_list_append mt_append (pv 2) (pa_cons (pv 3) pa_nil)))) pss_nil)))
      (pss_one (ps_ret (pe_callTy call_tupF (by rfl) T.b_tuple (by decide +kernel) (pa_cons (pe_callB (cr_sortZ hr.units) (by rfl) T.b_sorted (by decide +kernel) (pa_cons (pv 2) pa_nil)) pa_nil)))))))
    (fun S => (ds_seq (ds_asg 2 (de_lst da_nil))
      (ds_seq (ds_for (Wg := [3]) (Wb := [2]) (F := [3]) (di_seq (de_slice (de_call (da_cons (de_var 0) (da_cons (de_call (da_cons (de_var 1) da_nil)) da_nil))) do_no (do_part (de_call (da_cons (de_var 0) (da_cons (de_op od_mul de_int (de_var 1)) da_nil)))))) (dg_name 3) (ds_if (dt_val (de_op od_eq (de_lc (di_seq (de_var 2)) (dg_tup (dgs_cons (dg_name 4) (dgs_cons (dg_name 5) dgs_nil))) (dt_or (dt_val (de_op od_eq (de_var 4) (de_opA oa_ix (de_var 3) de_int))) (dt_val (de_op od_eq (de_var 5) (de_opA oa_ix (de_var 3) de_int)))) de_int (by decide)) (de_lst da_nil))) (ds_append 2 (de_solid (de_var 3))) ds_next) (by decide))
      (ds_ret (de_cb cd_tuple (da_cons (de_cb cd_sorted (da_cons (de_var 2) da_nil)) da_nil)))))) h (fun S ds R hs => pl__law_lot ds R hs)
def spec__law_free : List D → (D → Prop) → Prop := fun ds R => ∃ (n : Nat) (L : List (Nat × Nat)), ds = [.tuple (L.map prD)] ∧ n ≤ 1000 ∧ Apart n L ∧ R (.int (freeN L))
theorem len__law_free : ∀ ds R, spec__law_free ds R → ds.length = 1 := by
  rintro ds R ⟨n, L, rfl, _⟩
  rfl
def m__law_free : DMS :=
  (sRet (dCall fSumA (dCons (dComp (dItems (dVar 0)) (dgTup 2 (dgCons (dgName 1) (dgCons (dgName 2) dgNil))) (dTest (dBin (f2I fun i j => .bool (decide (j < i))) (dVar 2) (dVar 1))) (dBin (f2I fun i j => .int (i - j)) (dBin (f2I fun i j => .int (i - j)) (dBin (f2I fun i j => .int (i - j)) (dVar 2) (dVar 1)) (dC (.int 1))) (dCall fLen (dCons (dComp (dItems (dVar 0)) (dgTup 2 (dgCons (dgName 3) (dgCons (dgName 4) dgNil))) (dAnd (dTest (dBin (f2I fun i j => .bool (decide (i < j))) (dVar 1) (dVar 3))) (dTest (dBin (f2I fun i j => .bool (decide (i < j))) (dVar 4) (dVar 2)))) (dC (.int 1)) [3, 4]) dNil))) [1, 2]) dNil)))
theorem free_filt {n : Nat} {L : List (Nat × Nat)} (h : Apart n L) : ∀ M : List (Nat × Nat), (∀ p ∈ M, p ∈ L) → (M.map fun p => (((freeP L p).length : Nat) : Int)).sum = ((M.filter fun p => decide (p.1 < p.2)).map fun p => ((p.2 : Nat) : Int) - ((p.1 : Nat) : Int) - 1 - (((L.filter fun q => withinP q p).length : Nat) : Int)).sum
  | [], _ => rfl
  | p :: M, hs => by
    have ih := free_filt h M fun q hq => hs q (List.mem_cons_of_mem _ hq)
    obtain ⟨f1, f2⟩ := freeP_len h (hs p (List.mem_cons_self ..))
    rw [List.map_cons, List.sum_cons, ih]
    by_cases c : p.1 < p.2
    · rw [List.filter_cons_of_pos (by simpa using c), List.map_cons, List.sum_cons, f1 c]
    · rw [List.filter_cons_of_neg (by simpa using c), f2 c]
      simp
theorem pl__law_free : ∀ ds R, spec__law_free ds R → m__law_free (startE ["lot", "x", "y", "a", "b"] ds) (retE R) := by
  rintro ds R ⟨n, L, rfl, hn, ap, h⟩
  have ll := ap.len
  unfold m__law_free
  have ltn : ∀ a b : Nat, decide (((a : Nat) : Int) < ((b : Nat) : Int)) = decide (a < b) := fun a b => by
    rw [Bool.eq_iff_iff, decide_eq_true_iff, decide_eq_true_iff]
    omega
  walk_at "h"
  refine ⟨by rw [List.length_map]; omega, compD_filter (fun p => .int (((p.2 : Nat) : Int) - ((p.1 : Nat) : Int) - 1 - (((L.filter fun q => withinP q p).length : Nat) : Int))) (fun p => decide (p.1 < p.2)) (fun p hp k k0 h1 h0 => ?_) ?_⟩
  · rw [show prD p = .tuple [.int ((p.1 : Nat) : Int), .int ((p.2 : Nat) : Int)] from rfl]
    walk_at "h"
    rw [ltn]
    cases c : decide (p.1 < p.2)
    · exact h0 c
    · walk_at "h"
      refine ⟨by rw [List.length_map]; omega, compD_filter (fun _ => .int 1) (fun q => withinP q p) (fun q hq k2 k02 h12 h02 => ?_) ?_⟩
      · rw [show prD q = .tuple [.int ((q.1 : Nat) : Int), .int ((q.2 : Nat) : Int)] from rfl]
        walk_at "h"
        rw [ltn, ltn]
        unfold withinP at h12 h02
        cases c1 : decide (p.1 < q.1)
        · rw [c1] at h02
          exact h02 rfl
        · rw [c1] at h12 h02
          walk_at "h"
          cases c2 : decide (q.2 < p.2)
          · exact h02 c2
          · exact h12 c2
      · rw [List.length_map]
        exact h1 c
  · have e : ((L.filter fun p => decide (p.1 < p.2)).map fun p => (.int (((p.2 : Nat) : Int) - ((p.1 : Nat) : Int) - 1 - (((L.filter fun q => withinP q p).length : Nat) : Int)) : D)) = ((L.filter fun p => decide (p.1 < p.2)).map fun p => ((p.2 : Nat) : Int) - ((p.1 : Nat) : Int) - 1 - (((L.filter fun q => withinP q p).length : Nat) : Int)).map .int := by
      rw [List.map_map]
      rfl
    rw [e]
    refine ⟨_, rfl, ?_⟩
    rw [← free_filt ap L fun p hp => hp]
    exact h
theorem at__law_free (T : Tx K mg) : FnAt P w K mg base "_law_free" 1 1 (spD K spec__law_free) := by
  obtain ⟨f, fd, hm, F⟩ := T.f__law_free
  refine fnAt_of hm F rfl (F.binds (ps := ["lot"]) fun _ _ _ _ _ _ us hl => match us, hl with | [_], _ => rfl) (fnG_of F sc__law_free (spD_len len__law_free) fun cdv A outer s H vs Q E hr hg h => ?_)
  exact body_of (m := fun _ => m__law_free) ["lot", "x", "y", "a", "b"]
    ((pss_one (ps_ret (pe_callB (cr_sumA rfl) (by rfl) T.b_sum (by decide +kernel) (pa_cons (pe_lc (own := [("x", 1), ("y", 2)]) rfl sc__law_free.nd (pi_seq (pv 0)) (blkOk_by (N := ["lot", "x", "y", "a", "b"]) (sc := defScope s__law_free) (by decide +kernel)) (fun _ _ _ _ _ => (pg_tup rfl (pgs_cons (pg_name (i := 1) sc__law_free.nd rfl (by first | exact Or.inl rfl | exact Or.inr rfl)) (pgs_cons (pg_name (i := 2) sc__law_free.nd rfl (by first | exact Or.inl rfl | exact Or.inr rfl)) pgs_nil)))) (fun _ _ _ _ _ => (pts_one (pt_cmpR op_gt (pv 2) (pv 1) (nomark _)))) (fun _ _ _ _ _ => (pe_op op_sub (pe_op op_sub (pe_op op_sub (pv 2) (pv 1)) pe_int) (pe_callB call_len (by rfl) T.b_len PySem.boot_len (pa_cons (pe_lc (own := [("a", 3), ("b", 4)]) rfl sc__law_free.nd (pi_seq (pv 0)) (blkOk_by (by rfl)) (fun _ _ _ _ _ => (pg_tup rfl (pgs_cons (pg_name (i := 3) sc__law_free.nd rfl (by first | exact Or.inl rfl | exact Or.inr rfl)) (pgs_cons (pg_name (i := 4) sc__law_free.nd rfl (by first | exact Or.inl rfl | exact Or.inr rfl)) pgs_nil)))) (fun _ _ _ _ _ => (pts_one (PW.pt (pw_and (pt_cmpR op_lt (pv 1) (pv 3) (nomark _)) (pw_and1 (pt_cmpR op_lt (pv 4) (pv 2) (nomark _))))))) (fun _ _ _ _ _ => pe_int)) pa_nil))))) pa_nil)))))
    (fun S => (ds_ret (de_cb cd_sumA (da_cons (de_lc (di_seq (de_var 0)) (dg_tup (dgs_cons (dg_name 1) (dgs_cons (dg_name 2) dgs_nil))) (dt_val (de_op od_B0 (de_var 2) (de_var 1))) (de_op od_I0 (de_op od_I0 (de_op od_I0 (de_var 2) (de_var 1)) de_int) (de_cb cd_len (da_cons (de_lc (di_seq (de_var 0)) (dg_tup (dgs_cons (dg_name 3) (dgs_cons (dg_name 4) dgs_nil))) (dt_and (dt_val (de_op od_B0 (de_var 1) (de_var 3))) (dt_val (de_op od_B0 (de_var 4) (de_var 2)))) de_int (by decide)) da_nil))) (by decide)) da_nil)))) h (fun S ds R hs => pl__law_free ds R hs)
def spec__law_parting : List D → (D → Prop) → Prop := fun ds R => ∃ (n : Nat) (L : List (Nat × Nat)), ds = [.int ((n : Nat) : Int), .tuple (L.map prD)] ∧ n ≤ 60 ∧ Apart n L ∧ R (.tuple ((chains n L).map lotD))
theorem len__law_parting : ∀ ds R, spec__law_parting ds R → ds.length = 2 := by
  rintro ds R ⟨n, L, rfl, _⟩
  rfl
def m__law_parting : DMS :=
  (sSeq (sAsg 2 (dListRg (dBin fAdd (dVar 0) (dC (.int 1)))))
  (sSeq (sFor (dItems (dVar 1)) (dgTup 2 (dgCons (dgName 3) (dgCons (dgName 4) dgNil))) (sAsg 2 (dComp (dItems (dVar 2)) (dgName 5) dYes (dSolid (dIf (dTest (dBin (fEq false) (dVar 5) (dBin fIx (dVar 2) (dBin fAdd (dVar 4) (dC (.int 1)))))) (dBin fIx (dVar 2) (dVar 3)) (dVar 5))) [5])) [3, 4, 2] [3, 4])
  (sSeq (sAsg 6 (dComp (dItems (dVar 2)) (dgName 7) dYes (dCall fTuple (dCons (dComp (dRng1 (dCons (dBin fAdd (dVar 0) (dC (.int 1))) dNil)) (dgName 8) (dTest (dBin (fEq false) (dBin fIx (dVar 2) (dVar 8)) (dVar 7))) (dSolid (dVar 8)) [8]) dNil)) [7]))
  (sRet (dCall fTuple (dCons (dSortSetT (dVar 6)) dNil))))))
theorem apart_sub {n : Nat} {L M : List (Nat × Nat)} (h : Apart n L) (s : List.Sublist M L) : Apart n M := ⟨fun p hp => h.ok p (s.subset hp), (s.map _).nodup h.fst, (s.map _).nodup h.snd⟩
theorem range_getD {f : Nat → Nat} {n k : Nat} (h : k < n) : ((List.range n).map f).getD k 0 = f k := by
  rw [List.getD_eq_getElem?_getD, List.getElem?_map, List.getElem?_range h]
  rfl
theorem pl__law_parting : ∀ ds R, spec__law_parting ds R → m__law_parting (startE ["n", "lot", "names", "x", "y", "one", "some", "name", "k"] ds) (retE R) := by
  rintro ds R ⟨n, L, rfl, hn, ap, h⟩
  unfold m__law_parting
  walk_at "h"
  refine ⟨⟨by omega, by omega⟩, ?_⟩
  rw [show (((n : Nat) : Int) + 1).toNat = n + 1 by omega, rangeD_nats]
  walk_at "s"
  refine forD_inv (fun m ρ => ρ = [.val (natD n), .val (.tuple (L.map prD)), .own (.list (((List.range (n + 1)).map (root (L.take m))).map natD)), .unk, .unk, .unk, .unk, .unk, .unk]) _ 0 _ ?_ ?_ ?_
  · have e : (List.range (n + 1)).map (root (L.take 0)) = List.range (n + 1) := by
      rw [List.take_zero]
      refine Eq.trans (List.map_congr_left (g := id) fun k _ => root_nil k) (List.map_id _)
    rw [e]
  · rintro i x ρ Nx hx rfl hN
    rw [Nat.zero_add] at hN ⊢
    obtain ⟨p, hp, ei, rfl⟩ := map_at hx
    rw [show prD p = .tuple [.int ((p.1 : Nat) : Int), .int ((p.2 : Nat) : Int)] from rfl]
    walk_at "h"
    have et : L.take (i + 1) = L.take i ++ [p] := by rw [List.take_succ, ei]; rfl
    have ap2 : Apart n (L.take i ++ [p]) := by rw [← et]; exact apart_sub ap (List.take_sublist _ _)
    have okp := ap.ok p hp
    have o1 := okp.1
    have o2 := okp.2
    rw [et] at hN
    refine ⟨by rw [List.length_map, List.length_map, List.length_range]; omega, compD_map (fun one => natD (if one == root (L.take i) (p.2 + 1) then root (L.take i) p.1 else one)) (fun one h1 c c0 hc => ?_) ?_⟩
    · walk_at "h"
      refine ⟨_, at_nats (k := p.2 + 1) (by omega) (by rw [List.length_map, List.length_range]; omega), ?_⟩
      rw [range_getD (by omega)]
      refine fEq_int ?_
      simp only [Bool.false_eq_true, if_false]
      have e1 : (((one : Nat) : Int) == ((root (L.take i) (p.2 + 1) : Nat) : Int)) = (one == root (L.take i) (p.2 + 1)) := by
        rw [Bool.eq_iff_iff, beq_iff_eq, beq_iff_eq]
        omega
      rw [e1]
      cases c1 : one == root (L.take i) (p.2 + 1)
      · rw [c1] at hc
        walk_at "h"
        exact hc
      · rw [c1] at hc
        walk_at "h"
        refine ⟨_, at_nats (k := p.1) rfl (by rw [List.length_map, List.length_range]; omega), ?_⟩
        rw [range_getD (by omega)]
        exact ⟨solid_int _, hc⟩
    · refine hN _ ?_
      walk_at "h"
      rw [← names_join ap2, List.map_map (g := natD)]
      rfl
  · rintro ρ rfl
    rw [Nat.zero_add, List.length_map, List.take_length]
    walk_at "h"
    walk_at "s"
    refine ⟨by rw [List.length_map, List.length_map, List.length_range]; omega, compD_map (fun name => lotD (chain n L name)) (fun name hname c c0 hc => ?_) ?_⟩
    · walk_at "h"
      refine ⟨⟨by omega, by omega⟩, ?_⟩
      rw [show (((n : Nat) : Int) + 1).toNat = n + 1 by omega, rangeD_nats]
      refine ⟨by rw [List.length_map, List.length_range]; omega, compD_filter natD (fun k => root L k == name) (fun k hk d d0 h1 h0 => ?_) ?_⟩
      · have hk := List.mem_range.mp hk
        walk_at "h"
        refine ⟨_, at_nats (k := k) rfl (by rw [List.length_map, List.length_range]; omega), ?_⟩
        rw [range_getD (by omega)]
        refine fEq_int ?_
        simp only [Bool.false_eq_true, if_false]
        have e1 : (((root L k : Nat) : Int) == ((name : Nat) : Int)) = (root L k == name) := by
          rw [Bool.eq_iff_iff, beq_iff_eq, beq_iff_eq]
          omega
        rw [e1]
        cases c1 : root L k == name
        · exact h0 c1
        · exact h1 c1
      · exact ⟨solids_nats _, hc⟩
    · rw [Z.later_cons]
      walk_at "h"
      refine ⟨((List.range (n + 1)).map (root L)).map fun name => keyL (chain n L name), ?_, ?_, ?_, ?_⟩
      · congr 1
        rw [List.map_map (g := tI)]
        refine List.map_congr_left fun name _ => ?_
        show lotD (chain n L name) = .tuple ((keyL (chain n L name)).map .int)
        unfold lotD keyL
        rw [List.map_map]
        rfl
      · rw [List.length_map, List.length_map, List.length_range]
        omega
      · intro r hr
        obtain ⟨name, hn2, rfl⟩ := List.mem_map.mp hr
        obtain ⟨k, hk, rfl⟩ := List.mem_map.mp hn2
        have hk := List.mem_range.mp hk
        have : k ∈ chain n L (root L k) := mem_chain.mpr ⟨by omega, rfl⟩
        intro z
        have z := List.map_eq_nil_iff.mp z
        rw [z] at this
        cases this
      · intro Ms hm _ asc
        have e : Ms = (chains n L).map keyL := by
          refine asc_same (key := id) asc ?_ fun x => ?_
          · unfold chains
            rw [List.map_map]
            refine List.pairwise_map.mpr (List.Pairwise.imp_of_mem (fun {a b} ha hb z => ?_) (headsL_asc n L))
            obtain ⟨t1, e1⟩ := chain_cons ap ha
            obtain ⟨t2, e2⟩ := chain_cons ap hb
            show keyL (chain n L a) < keyL (chain n L b)
            rw [e1, e2]
            unfold keyL
            rw [List.map_cons, List.map_cons, List.cons_lt_cons_iff]
            exact .inl (by omega)
          · rw [hm x, List.mem_map, List.mem_map]
            constructor
            · rintro ⟨name, hn2, rfl⟩
              obtain ⟨k, hk, rfl⟩ := List.mem_map.mp hn2
              have hk := List.mem_range.mp hk
              have := root_le ap k
              exact ⟨_, List.mem_map.mpr ⟨root L k, mem_headsL.mpr ⟨by omega, root_head ap k⟩, rfl⟩, rfl⟩
            · rintro ⟨B, hB, rfl⟩
              obtain ⟨k, hk, rfl⟩ := List.mem_map.mp hB
              obtain ⟨h1, h2⟩ := mem_headsL.mp hk
              exact ⟨k, List.mem_map.mpr ⟨k, List.mem_range.mpr (by omega), root_none h2⟩, rfl⟩
        have e2 : Ms.map tI = (chains n L).map lotD := by
          rw [e, List.map_map]
          refine List.map_congr_left fun B _ => ?_
          show PyData.tuple ((keyL B).map .int) = lotD B
          unfold lotD keyL
          rw [List.map_map]
          rfl
        rw [e2]
        exact h
theorem at__law_parting (T : Tx K mg) : FnAt P w K mg base "_law_parting" 1 2 (spD K spec__law_parting) := by
  obtain ⟨f, fd, hm, F⟩ := T.f__law_parting
  refine fnAt_of hm F rfl (F.binds (ps := ["n", "lot"]) fun _ _ _ _ _ _ us hl => match us, hl with | [_, _], _ => rfl) (fnG_of F sc__law_parting (spD_len len__law_parting) fun cdv A outer s H vs Q E hr hg h => ?_)
  exact body_of (m := fun _ => m__law_parting) ["n", "lot", "names", "x", "y", "one", "some", "name", "k"]
    ((pss_cons (ps_set (i := 2) sc__law_parting.nd rfl (by first | exact Or.inl rfl | exact Or.inr rfl) (pe_listRg rfl (by rfl) T.b_list (prg_1 (by rfl) T.b_range (pe_op op_addZ (pv 0) pe_int))))
      (pss_cons (ps_for PassesOwn.never rfl (pi_seq (pv 1)) (pg_tup rfl (pgs_cons (pg_name (i := 3) sc__law_parting.nd rfl (by first | exact Or.inl rfl | exact Or.inr rfl)) (pgs_cons (pg_name (i := 4) sc__law_parting.nd rfl (by first | exact Or.inl rfl | exact Or.inr rfl)) pgs_nil))) (pss_one (ps_set (i := 2) sc__law_parting.nd rfl (by first | exact Or.inl rfl | exact Or.inr rfl) (pe_lc (own := [("one", 5)]) rfl sc__law_parting.nd (pi_seq (pv 2)) (blkOk_by (N := ["n", "lot", "names", "x", "y", "one", "some", "name", "k"]) (sc := defScope s__law_parting) (by decide +kernel)) (fun _ _ _ _ _ => (pg_name (i := 5) sc__law_parting.nd rfl (by first | exact Or.inl rfl | exact Or.inr rfl))) (fun _ _ _ _ _ => pts_nil) (fun _ _ _ _ _ => (pe_ifExp (pt_cmpR (op_eqZ hr.units) (pv 5) (pe_ix ix_seq (pv 2) (pe_op op_addZ (pv 4) pe_int) (fun _ _ => rfl)) (nomark _)) (pe_ix ix_seq (pv 2) (pv 3) (fun _ _ => rfl)) (pv 5)))))))
      (pss_cons (ps_setLc (i := 6) (own := [("name", 7)]) rfl sc__law_parting.nd rfl rfl (sw_true rfl rfl rfl (by decide +kernel)) (pi_seq (pv 2)) (blkOk_by (N := ["n", "lot", "names", "x", "y", "one", "some", "name", "k"]) (sc := defScope s__law_parting) (by decide +kernel)) (fun _ _ _ _ _ => (pg_name (i := 7) sc__law_parting.nd rfl (by first | exact Or.inl rfl | exact Or.inr rfl))) (fun _ _ _ _ _ => pts_nil) (fun _ _ _ _ _ => (pe_callTy call_tupF (by rfl) T.b_tuple (by decide +kernel) (pa_cons (pe_lc (own := [("k", 8)]) rfl sc__law_parting.nd (pi_range1 (by rfl) T.b_range (pa_cons (pe_op op_addZ (pv 0) pe_int) pa_nil)) (blkOk_by (by rfl)) (fun _ _ _ _ _ => (pg_name (i := 8) sc__law_parting.nd rfl (by first | exact Or.inl rfl | exact Or.inr rfl))) (fun _ _ _ _ _ => (pts_one (pt_cmpR (op_eqZ hr.units) (pe_ix ix_seq (pv 2) (pv 8) (fun _ _ => rfl)) (pv 7) (nomark _)))) (fun _ _ _ _ _ => (pv 8))) pa_nil))))
      (pss_one (ps_ret (pe_callTy call_tupF (by rfl) T.b_tuple (by decide +kernel) (pa_cons (pe_callB (cr_sortedS rfl hr.units) (by rfl) T.b_sorted (by decide +kernel) (pa_cons (pe_callTy (cr_setOfT rfl hr.units) (by rfl) T.b_set (by decide +kernel) (pa_cons (pv 6) pa_nil)) pa_nil)) pa_nil))))))))
    (fun S => (ds_seq (ds_asg 2 (de_listRg (de_op od_add (de_var 0) de_int)))
      (ds_seq (ds_for (Wg := [3, 4]) (Wb := [2]) (F := [3, 4]) (di_seq (de_var 1)) (dg_tup (dgs_cons (dg_name 3) (dgs_cons (dg_name 4) dgs_nil))) (ds_asg 2 (de_lc (di_seq (de_var 2)) (dg_name 5) dt_yes (de_solid (de_if (dt_val (de_op od_eq (de_var 5) (de_opA oa_ix (de_var 2) (de_op od_add (de_var 4) de_int)))) (de_opA oa_ix (de_var 2) (de_var 3)) (de_var 5))) (by decide))) (by decide))
      (ds_seq (ds_asg 6 (de_lc (di_seq (de_var 2)) (dg_name 7) dt_yes (de_cb cd_tuple (da_cons (de_lc (di_rng1 (da_cons (de_op od_add (de_var 0) de_int) da_nil)) (dg_name 8) (dt_val (de_op od_eq (de_opA oa_ix (de_var 2) (de_var 8)) (de_var 7))) (de_solid (de_var 8)) (by decide)) da_nil)) (by decide)))
      (ds_ret (de_cb cd_tuple (da_cons (de_sortSetT (de_var 6)) da_nil))))))) h (fun S ds R hs => pl__law_parting ds R hs)
def spec__law_lot_of : List D → (D → Prop) → Prop := fun ds R => ∃ (n : Nat) (P : List (List Nat)), ds = [.tuple (P.map lotD)] ∧ n ≤ 1000 ∧ PartU n P ∧ R (.tuple ((lotOf P).map prD))
theorem len__law_lot_of : ∀ ds R, spec__law_lot_of ds R → ds.length = 1 := by
  rintro ds R ⟨n, L, rfl, _⟩
  rfl
def m__law_lot_of : DMS :=
  (sSeq (sAsg 1 (dLst dNil))
  (sSeq (sFor (dItems (dVar 0)) (dgName 2) (sAsg 1 (dBin fAdd (dVar 1) (dComp (dRng1 (dCons (dBin (f2I fun i j => .int (i - j)) (dCall fLen (dCons (dVar 2) dNil)) (dC (.int 1))) dNil)) (dgName 3) dYes (dSolid (dTup (dCons (dBin fIx (dVar 2) (dVar 3)) (dCons (dBin (f2I fun i j => .int (i - j)) (dBin fIx (dVar 2) (dBin fAdd (dVar 3) (dC (.int 1)))) (dC (.int 1))) dNil)))) [3]))) [2, 1] [2])
  (sRet (dCall fTuple (dCons (dCall (fSorted false) (dCons (dVar 1) dNil)) dNil)))))
theorem adj_range (B : List Nat) : ∀ (A : List Nat), A.Pairwise (· < ·) → (List.range (A.length - 1)).map (fun k => PyData.tuple [natD (A.getD k 0), .int (((A.getD (k + 1) 0 : Nat) : Int) - 1)]) = (adj A).map prD
  | [], _ => rfl
  | [x], _ => rfl
  | x :: y :: t, h => by
    have := (List.pairwise_cons.mp h).1 y (List.mem_cons_self ..)
    have ih := adj_range B (y :: t) (List.pairwise_cons.mp h).2
    rw [show (x :: y :: t).length - 1 = ((y :: t).length - 1) + 1 by simp, List.range_succ_eq_map, List.map_cons, List.map_map]
    show _ = prD (x, y - 1) :: (adj (y :: t)).map prD
    rw [← ih]
    have : ((y : Nat) : Int) - 1 = ((y - 1 : Nat) : Int) := by omega
    congr 1
    show PyData.tuple [natD x, .int (((y : Nat) : Int) - 1)] = _
    rw [this]
    rfl
theorem pl__law_lot_of : ∀ ds R, spec__law_lot_of ds R → m__law_lot_of (startE ["parting", "found", "some", "k"] ds) (retE R) := by
  rintro ds R ⟨n, P, rfl, hn, hP, h⟩
  unfold m__law_lot_of
  have al := adjs_len hP
  walk_at "h"
  walk_at "s"
  refine forD_inv (fun m ρ => ρ = [.val (.tuple (P.map lotD)), .own (.list ((adjs (P.take m)).map prD)), .unk, .unk]) _ 0 _ rfl ?_ ?_
  · rintro i x ρ Nx hx rfl hN
    rw [Nat.zero_add] at hN ⊢
    obtain ⟨B, hB, ei, rfl⟩ := map_at hx
    have lb := part_block hP hB
    have lt := adjs_take_len hP (i + 1)
    rw [adjs_take ei] at lt hN
    rw [List.length_append] at lt
    unfold lotD
    walk_at "h"
    rw [List.length_map]
    refine ⟨⟨by omega, by omega⟩, ?_⟩
    rw [show (((B.length : Nat) : Int) - 1).toNat = B.length - 1 by omega, rangeD_nats]
    refine ⟨by rw [List.length_map, List.length_range]; omega, compD_map (fun k => PyData.tuple [natD (B.getD k 0), .int (((B.getD (k + 1) 0 : Nat) : Int) - 1)]) (fun k hk c c0 hc => ?_) ?_⟩
    · have hk := List.mem_range.mp hk
      walk_at "h"
      refine ⟨_, at_nats (k := k) rfl (by omega), ⟨_, at_nats (k := k + 1) (by omega) (by omega), ?_⟩⟩
      walk_at "h"
      exact hc
    · rw [adj_range B B (hP.asc B hB)]
      refine ⟨solids_prD _, solids_prD _, by rw [List.length_map, List.length_map]; omega, hN _ ?_⟩
      walk_at "h"
      rw [List.map_append]
      rfl
  · rintro ρ rfl
    rw [Nat.zero_add, List.length_map, List.take_length]
    walk_at "h"
    rw [Z.later_cons]
    walk_at "h"
    refine ⟨solids_prD _, sortOk_pr (by omega), ?_⟩
    rw [sortD_pr]
    exact ⟨solids_prD _, h⟩
theorem at__law_lot_of (T : Tx K mg) : FnAt P w K mg base "_law_lot_of" 1 1 (spD K spec__law_lot_of) := by
  obtain ⟨f, fd, hm, F⟩ := T.f__law_lot_of
  refine fnAt_of hm F rfl (F.binds (ps := ["parting"]) fun _ _ _ _ _ _ us hl => match us, hl with | [_], _ => rfl) (fnG_of F sc__law_lot_of (spD_len len__law_lot_of) fun cdv A outer s H vs Q E hr hg h => ?_)
  exact body_of (m := fun _ => m__law_lot_of) ["parting", "found", "some", "k"]
    ((pss_cons (ps_set (i := 1) sc__law_lot_of.nd rfl (by first | exact Or.inl rfl | exact Or.inr rfl) (pe_lst pa_nil))
      (pss_cons (ps_for PassesOwn.never rfl (pi_seq (pv 0)) (pg_name (i := 2) sc__law_lot_of.nd rfl (by first | exact Or.inl rfl | exact Or.inr rfl)) (pss_one (ps_set (i := 1) sc__law_lot_of.nd rfl (by first | exact Or.inl rfl | exact Or.inr rfl) (pe_op op_addZ (pv 1) (pe_lc (own := [("k", 3)]) rfl sc__law_lot_of.nd (pi_range1 (by rfl) T.b_range (pa_cons (pe_op op_sub (pe_callB call_len (by rfl) T.b_len PySem.boot_len (pa_cons (pv 2) pa_nil)) pe_int) pa_nil)) (blkOk_by (N := ["parting", "found", "some", "k"]) (sc := defScope s__law_lot_of) (by decide +kernel)) (fun _ _ _ _ _ => (pg_name (i := 3) sc__law_lot_of.nd rfl (by first | exact Or.inl rfl | exact Or.inr rfl))) (fun _ _ _ _ _ => pts_nil) (fun _ _ _ _ _ => (pe_tupF (pa_cons (pe_ix ix_seq (pv 2) (pv 3) (fun _ _ => rfl)) (pa_cons (pe_op op_sub (pe_ix ix_seq (pv 2) (pe_op op_addZ (pv 3) pe_int) (fun _ _ => rfl)) pe_int) pa_nil)))))))))
      (pss_one (ps_ret (pe_callTy call_tupF (by rfl) T.b_tuple (by decide +kernel) (pa_cons (pe_callB (cr_sortZ hr.units) (by rfl) T.b_sorted (by decide +kernel) (pa_cons (pv 1) pa_nil)) pa_nil)))))))
    (fun S => (ds_seq (ds_asg 1 (de_lst da_nil))
      (ds_seq (ds_for (Wg := [2]) (Wb := [1]) (F := [2]) (di_seq (de_var 0)) (dg_name 2) (ds_asg 1 (de_op od_add (de_var 1) (de_lc (di_rng1 (da_cons (de_op od_I0 (de_cb cd_len (da_cons (de_var 2) da_nil)) de_int) da_nil)) (dg_name 3) dt_yes (de_solid (de_tup (da_cons (de_opA oa_ix (de_var 2) (de_var 3)) (da_cons (de_op od_I0 (de_opA oa_ix (de_var 2) (de_op od_add (de_var 3) de_int)) de_int) da_nil)))) (by decide)))) (by decide))
      (ds_ret (de_cb cd_tuple (da_cons (de_cb cd_sorted (da_cons (de_var 1) da_nil)) da_nil)))))) h (fun S ds R hs => pl__law_lot_of ds R hs)
def spec__law_partings : List D → (D → Prop) → Prop := fun ds R => ∃ n : Nat, ds = [.int ((n : Nat) : Int)] ∧ n ≤ 6 ∧ R (.list ((partsN n).map fun P => .tuple (P.map lotD)))
theorem len__law_partings : ∀ ds R, spec__law_partings ds R → ds.length = 1 := by
  rintro ds R ⟨n, rfl, _⟩
  rfl
def m__law_partings : DMS :=
  (sSeq (sAsg 1 (dLst (dCons (dTup (dCons (dTup (dCons (dC (.int 0)) dNil)) dNil)) dNil)))
  (sSeq (sFor (dRng2 (dCons (dC (.int 1)) (dCons (dBin fAdd (dVar 0) (dC (.int 1))) dNil))) (dgName 2) (sSeq (sAsg 3 (dLst dNil))
  (sSeq (sFor (dItems (dVar 1)) (dgName 4) (sSeq (sAppend 3 (dBin fAdd (dVar 4) (dTup (dCons (dTup (dCons (dVar 2) dNil)) dNil))))
  (sAsg 3 (dBin fAdd (dVar 3) (dComp (dRng1 (dCons (dCall fLen (dCons (dVar 4) dNil)) dNil)) (dgName 5) dYes (dBin fAdd (dBin fAdd (dSlice (dVar 4) dNo (dPart (dVar 5))) (dTup (dCons (dBin fAdd (dBin fIx (dVar 4) (dVar 5)) (dTup (dCons (dVar 2) dNil))) dNil))) (dSlice (dVar 4) (dPart (dBin fAdd (dVar 5) (dC (.int 1)))) dNo)) [5])))) [4, 3, 3] [4])
  (sMove 1 3))) [2, 3, 4, 3, 3, 1, 3] [2, 3, 4])
  (sRetV 1)))
theorem solid_partD (P : List (List Nat)) : solid (.tuple (P.map lotD)) = true := by
  rw [solid_tup]
  exact solids_of fun B _ => solid_lotD B
/-- the partings that one parting gives -/
def moreP (k : Nat) (P : List (List Nat)) : List (List (List Nat)) := (P ++ [[k]]) :: (List.range P.length).map fun i => P.take i ++ [P.getD i [] ++ [k]] ++ P.drop (i + 1)
theorem pl__law_partings : ∀ ds R, spec__law_partings ds R → m__law_partings (startE ["n", "found", "k", "late", "parting", "i"] ds) (retE R) := by
  rintro ds R ⟨n, rfl, hn, h⟩
  unfold m__law_partings
  walk_at "h"
  walk_at "s"
  refine ⟨⟨by omega, by omega, by omega, by omega⟩, ?_⟩
  rw [show (((n : Nat) : Int) + 1 - 1).toNat = n by omega]
  refine forD_inv (fun m ρ => ρ = [.val (natD n), .own (.list ((partsN m).map fun P => .tuple (P.map lotD))), .unk, .unk, .unk, .unk]) _ 0 _ rfl ?_ ?_
  · rintro i x ρ Nx hx rfl hN
    rw [Nat.zero_add] at hN ⊢
    have hi : i < n := by
      have := (List.getElem?_eq_some_iff.mp hx).1
      rwa [rangeD_len] at this
    have ex : x = natD (i + 1) := by
      unfold rangeD at hx
      rw [List.getElem?_map, List.getElem?_range hi] at hx
      rw [← Option.some.inj hx]
      show PyData.int _ = PyData.int _
      congr 1
      push_cast
      omega
    subst ex
    have ea : partsN (i + 1) = (partsN i).flatMap (moreP (i + 1)) := rfl
    rw [ea] at hN
    have bound : ((partsN i).flatMap (moreP (i + 1))).length ≤ 1000 := by
      rw [← ea, (parts_bell (n := i + 1) (by omega)).1]
      have : ∀ m, m < 7 → bell m ≤ 1000 := by decide
      exact this _ (by omega)
    have big : ∀ P ∈ partsN i, P.length ≤ 7 := fun P hP => Nat.le_trans (part_len (parts_part (n := i) (by omega) hP).toPartU) (by omega)
    have blk : ∀ P ∈ partsN i, ∀ B ∈ P, B.length ≤ 7 := fun P hP B hB => Nat.le_trans (part_block (parts_part (n := i) (by omega) hP).toPartU hB) (by omega)
    obtain ⟨A, hA⟩ : ∃ A, A = partsN i := ⟨_, rfl⟩
    rw [← hA] at hN bound big blk ⊢
    walk_at "h"
    walk_at "s"
    refine forD_inv (fun j ρ => ρ = [.val (natD n), .val (.list (A.map fun P => .tuple (P.map lotD))), .val (natD (i + 1)), .own (.list (((A.take j).flatMap (moreP (i + 1))).map fun P => .tuple (P.map lotD))), .unk, .unk]) _ 0 _ rfl ?_ ?_
    · rintro j y ρ Nx hy rfl hN2
      rw [Nat.zero_add] at hN2 ⊢
      obtain ⟨P, hP, ej, rfl⟩ := map_at hy
      have e2 : A.take (j + 1) = A.take j ++ [P] := by rw [List.take_succ, ej]; rfl
      rw [e2, List.flatMap_append] at hN2
      have b4 : ((A.take j).flatMap (moreP (i + 1))).length + (moreP (i + 1) P).length ≤ (A.flatMap (moreP (i + 1))).length := by
        have : A = A.take j ++ (P :: A.drop (j + 1)) := by
          rw [List.getElem?_eq_some_iff] at ej
          obtain ⟨hj, ej⟩ := ej
          rw [← ej, List.getElem_cons_drop, List.take_append_drop]
        conv => rhs; rw [this]
        rw [List.flatMap_append, List.flatMap_cons, List.length_append, List.length_append]
        omega
      have lP := big P hP
      have b5 : (moreP (i + 1) P).length = P.length + 1 := by unfold moreP; rw [List.length_cons, List.length_map, List.length_range]
      have slP : solids (P.map lotD) = true := solids_of fun B _ => solid_lotD B
      walk_at "h"
      refine ⟨slP, by rw [List.length_map]; omega, by rw [List.length_map]; omega, ?_⟩
      walk_at "s"
      rw [Int.toNat_natCast, List.length_map, rangeD_nats]
      refine ⟨⟨by omega, by omega⟩, by rw [List.length_map, List.length_range]; omega, compD_map (fun k => .tuple ((P.take k ++ [P.getD k [] ++ [i + 1]] ++ P.drop (k + 1)).map lotD)) (fun k hk c c0 hc => ?_) ?_⟩
      · have hk := List.mem_range.mp hk
        have eB : P.getD k [] = P[k] := by rw [List.getD_eq_getElem?_getD, List.getElem?_eq_getElem hk]; rfl
        have lB := blk P hP (P[k]) (List.getElem_mem hk)
        walk_at "h"
        refine ⟨slP, ?_⟩
        rw [cutL_take, ← List.map_take]
        have eA : atI (P.map lotD) ((k : Nat) : Int) = some (.tuple ((P[k]).map natD)) := at_map (f := lotD) rfl hk
        refine ⟨_, eA, ?_⟩
        walk_at "h"
        rw [show ((k : Nat) : Int) + 1 = ((k + 1 : Nat) : Int) from rfl, cutL_drop, ← List.map_drop]
        have sl2 : ∀ Q : List (List Nat), solids (Q.map lotD) = true := fun Q => solids_of fun B _ => solid_lotD B
        have e5 : (P.take k).map lotD ++ [PyData.tuple ((P[k]).map natD ++ [natD (i + 1)])] ++ (P.drop (k + 1)).map lotD = (P.take k ++ [P.getD k [] ++ [i + 1]] ++ P.drop (k + 1)).map lotD := by
          rw [eB]
          simp [lotD]
        have e6 : (P.take k).map lotD ++ [PyData.tuple ((P[k]).map natD ++ [natD (i + 1)])] = (P.take k ++ [P[k] ++ [i + 1]]).map lotD := by simp [lotD]
        have e7 : (P[k]).map natD ++ [natD (i + 1)] = (P[k] ++ [i + 1]).map natD := by simp
        have l1 := List.length_take_le k P
        have l2 : (P.drop (k + 1)).length ≤ P.length := by rw [List.length_drop]; omega
        refine ⟨solids_nats _, by rw [List.length_map]; omega, sl2 _, by rw [e7]; exact solids_nats _, by rw [List.length_map]; omega, slP, by rw [e6]; exact sl2 _, sl2 _, by rw [List.length_append, List.length_map, List.length_map]; simp only [List.length_singleton]; omega, ?_⟩
        rw [e5]
        exact hc
      · have e8 : (((A.take j).flatMap (moreP (i + 1))).map fun P => PyData.tuple (P.map lotD)) ++ [PyData.tuple (P.map lotD ++ [.tuple [natD (i + 1)]])] = (((A.take j).flatMap (moreP (i + 1))) ++ [P ++ [[i + 1]]]).map fun P => PyData.tuple (P.map lotD) := by simp [lotD]
        have slA : ∀ Q : List (List (List Nat)), solids (Q.map fun P => PyData.tuple (P.map lotD)) = true := fun Q => solids_of fun P _ => solid_partD P
        rw [e8]
        refine ⟨slA _, solids_of fun k _ => solid_partD _, ?_, hN2 _ ?_⟩
        · rw [List.length_map, List.length_map, List.length_range, List.length_append]
          simp only [List.length_singleton]
          omega
        · walk_at "h"
          rw [List.map_append, List.map_append]
          simp [moreP]
    · rintro ρ rfl
      rw [Nat.zero_add, List.length_map, List.take_length]
      walk_at "h"
      rw [Z.later_cons]
      walk_at "h"
      exact ⟨_, rfl, hN _ rfl⟩
  · rintro ρ rfl
    rw [Nat.zero_add, rangeD_len]
    walk_at "h"
    rw [Z.later_cons]
    walk_at "h"
    exact h
theorem at__law_partings (T : Tx K mg) : FnAt P w K mg base "_law_partings" 1 1 (spD K spec__law_partings) := by
  obtain ⟨f, fd, hm, F⟩ := T.f__law_partings
  refine fnAt_of hm F rfl (F.binds (ps := ["n"]) fun _ _ _ _ _ _ us hl => match us, hl with | [_], _ => rfl) (fnG_of F sc__law_partings (spD_len len__law_partings) fun cdv A outer s H vs Q E hr hg h => ?_)
  exact body_of (m := fun _ => m__law_partings) ["n", "found", "k", "late", "parting", "i"]
    ((pss_cons (ps_set (i := 1) sc__law_partings.nd rfl (by first | exact Or.inl rfl | exact Or.inr rfl) (pe_lst (pa_cons (pe_tupF (pa_cons (pe_tupF (pa_cons pe_int pa_nil)) pa_nil)) pa_nil)))
      (pss_cons (ps_for PassesOwn.never rfl (pi_range2 (by rfl) T.b_range (pa_cons pe_int (pa_cons (pe_op op_addZ (pv 0) pe_int) pa_nil))) (pg_name (i := 2) sc__law_partings.nd rfl (by first | exact Or.inl rfl | exact Or.inr rfl)) (pss_cons (ps_set (i := 3) sc__law_partings.nd rfl (by first | exact Or.inl rfl | exact Or.inr rfl) (pe_lst pa_nil))
      (pss_cons (ps_for PassesOwn.never rfl (pi_seq (pv 1)) (pg_name (i := 4) sc__law_partings.nd rfl (by first | exact Or.inl rfl | exact Or.inr rfl)) (pss_cons (ps_expr (pe_bm PySem.F.plainAttrs_list PySem.F.slot_list_append PySem.F.type_list_append mt_append (pv 3) (pa_cons (pe_op op_addZ (pv 4) (pe_tupF (pa_cons (pe_tupF (pa_cons (pv 2) pa_nil)) pa_nil))) pa_nil)))
      (pss_one (ps_set (i := 3) sc__law_partings.nd rfl (by first | exact Or.inl rfl | exact Or.inr rfl) (pe_op op_addZ (pv 3) (pe_lc (own := [("i", 5)]) rfl sc__law_partings.nd (pi_range1 (by rfl) T.b_range (pa_cons (pe_callB call_len (by rfl) T.b_len PySem.boot_len (pa_cons (pv 4) pa_nil)) pa_nil)) (blkOk_by (N := ["n", "found", "k", "late", "parting", "i"]) (sc := defScope s__law_partings) (by decide +kernel)) (fun _ _ _ _ _ => (pg_name (i := 5) sc__law_partings.nd rfl (by first | exact Or.inl rfl | exact Or.inr rfl))) (fun _ _ _ _ _ => pts_nil) (fun _ _ _ _ _ => (pe_op op_addZ (pe_op op_addZ (pe_slice sl_cut (pv 4) po_none (po_some (pv 5))) (pe_tupF (pa_cons (pe_op op_addZ (pe_ix ix_seq (pv 4) (pv 5) (fun _ _ => rfl)) (pe_tupF (pa_cons (pv 2) pa_nil))) pa_nil))) (pe_slice sl_cut (pv 4) (po_some (pe_op op_addZ (pv 5) pe_int)) po_none)))))))))
      (pss_one (ps_set (i := 1) sc__law_partings.nd rfl (by first | exact Or.inl rfl | exact Or.inr rfl) (pv 3))))))
      (pss_one (ps_ret (pv 1))))))
    (fun S => (ds_seq (ds_asg 1 (de_lst (da_cons (de_tup (da_cons (de_tup (da_cons de_int da_nil)) da_nil)) da_nil)))
      (ds_seq (ds_for (Wg := [2]) (Wb := [3, 4, 3, 3, 1, 3]) (F := [2, 3, 4]) (di_rng2 (da_cons de_int (da_cons (de_op od_add (de_var 0) de_int) da_nil))) (dg_name 2) (ds_seq (ds_asg 3 (de_lst da_nil))
      (ds_seq (ds_for (Wg := [4]) (Wb := [3, 3]) (F := [4]) (di_seq (de_var 1)) (dg_name 4) (ds_seq (ds_append 3 (de_op od_add (de_var 4) (de_tup (da_cons (de_tup (da_cons (de_var 2) da_nil)) da_nil))))
      (ds_asg 3 (de_op od_add (de_var 3) (de_lc (di_rng1 (da_cons (de_cb cd_len (da_cons (de_var 4) da_nil)) da_nil)) (dg_name 5) dt_yes (de_op od_add (de_op od_add (de_slice (de_var 4) do_no (do_part (de_var 5))) (de_tup (da_cons (de_op od_add (de_opA oa_ix (de_var 4) (de_var 5)) (de_tup (da_cons (de_var 2) da_nil))) da_nil))) (de_slice (de_var 4) (do_part (de_op od_add (de_var 5) de_int)) do_no)) (by decide))))) (by decide))
      (ds_move 1 3))) (by decide))
      (ds_retV 1)))) h (fun S ds R hs => pl__law_partings ds R hs)
def spec__law_many : List D → (D → Prop) → Prop := fun ds R => ∃ n r : Nat, ds = [.int ((n : Nat) : Int), .int ((r : Nat) : Int)] ∧ n ≤ 12 ∧ r ≤ n ∧ R (.int ((downQ (upQ n r) r : Nat) : Int))
theorem len__law_many : ∀ ds R, spec__law_many ds R → ds.length = 2 := by
  rintro ds R ⟨n, r, rfl, _⟩
  rfl
def m__law_many : DMS :=
  (sSeq (sAsg 2 (dC (.int 1)))
  (sSeq (sFor (dRng1 (dCons (dVar 1) dNil)) (dgName 3) (sAsg 2 (dBin fMul (dVar 2) (dBin (f2I fun i j => .int (i - j)) (dBin (f2IC CPow fun i j => .int (i * 2 ^ j.toNat)) (dC (.int 1)) (dBin (f2I fun i j => .int (i - j)) (dVar 0) (dVar 3))) (dC (.int 1))))) [3, 2] [])
  (sSeq (sFor (dRng1 (dCons (dVar 1) dNil)) (dgName 3) (sAsg 2 (dBin (f2IC CDiv fun i j => .int (i / j)) (dVar 2) (dBin (f2I fun i j => .int (i - j)) (dBin (f2IC CPow fun i j => .int (i * 2 ^ j.toNat)) (dC (.int 1)) (dBin fAdd (dVar 3) (dC (.int 1)))) (dC (.int 1))))) [3, 2] [])
  (sRet (dSolid (dVar 2))))))
theorem upQ_small : ∀ n, n ≤ 12 → ∀ r, r ≤ n → upQ n r < 2 ^ 200 := by
  have h : ∀ n, n < 13 → ∀ r, r < n + 1 → upQ n r < 2 ^ 200 := by decide +kernel
  exact fun n hn r hr => h n (by omega) r (by omega)
theorem pl__law_many : ∀ ds R, spec__law_many ds R → m__law_many (startE ["n", "rank", "found", "k"] ds) (retE R) := by
  rintro ds R ⟨n, r, rfl, hn, hr, h⟩
  unfold m__law_many
  walk_at "h"
  walk_at "s"
  refine ⟨⟨by omega, by omega⟩, ?_⟩
  rw [Int.toNat_natCast]
  have pw : ∀ m : Nat, (1 : Int) * 2 ^ m - 1 = ((2 ^ m - 1 : Nat) : Int) := fun m => by
    have := Nat.one_le_two_pow (n := m)
    rw [Int.one_mul, Int.natCast_sub this]
    push_cast
    rfl
  have pb : ∀ m : Nat, m ≤ 13 → 2 ^ m ≤ 2 ^ 13 := fun m hm => Nat.pow_le_pow_right (by decide) hm
  refine forD_inv (fun m ρ => ∃ s3, ρ = [.val (natD n), .val (natD r), .own (natD (upQ n m)), s3]) _ 0 _ ⟨_, rfl⟩ ?_ ?_
  · rintro i x ρ Nx hx ⟨s3, rfl⟩ hN
    obtain ⟨hi, rfl⟩ := range_at hx
    rw [Nat.zero_add] at hN ⊢
    have b1 := upQ_small n hn i (by omega)
    have b2 := pb (n - i) (by omega)
    have b3 := Nat.one_le_two_pow (n := n - i)
    walk_at "h"
    refine ⟨⟨by omega, by omega, by decide⟩, ?_⟩
    rw [show (((n : Nat) : Int) - ((i : Nat) : Int)).toNat = n - i by omega, pw]
    refine ⟨?_, hN _ ⟨.val (natD i), ?_⟩⟩
    · right
      have : ((2 ^ (n - i) - 1 : Nat) : Int) < 2 ^ 13 := by
        generalize 2 ^ (n - i) = z at *
        omega
      have : (0 : Int) ≤ ((2 ^ (n - i) - 1 : Nat) : Int) := by omega
      constructor <;> omega
    · walk_at "h"
      rw [upQ]
      show _ = [_, _, Sl.own (.int (((upQ n i * (2 ^ (n - i) - 1) : Nat)) : Int)), _]
      rw [Int.natCast_mul]
  · rintro ρ ⟨s3, rfl⟩
    rw [Nat.zero_add, rangeD_len]
    walk_at "h"
    walk_at "s"
    refine ⟨⟨by omega, by omega⟩, ?_⟩
    rw [Int.toNat_natCast]
    refine forD_inv (fun m ρ => ∃ s3, ρ = [.val (natD n), .val (natD r), .own (natD (downQ (upQ n r) m)), s3]) _ 0 _ ⟨_, rfl⟩ ?_ ?_
    · rintro i x ρ Nx hx ⟨s3, rfl⟩ hN
      obtain ⟨hi, rfl⟩ := range_at hx
      rw [Nat.zero_add] at hN ⊢
      walk_at "h"
      refine ⟨⟨by omega, by omega, by decide⟩, ?_⟩
      rw [show (((i : Nat) : Int) + 1).toNat = i + 1 by omega, pw]
      refine ⟨?_, hN _ ⟨.val (natD i), ?_⟩⟩
      · have b2 := pb (i + 1) (by omega)
        have b3 : 2 ≤ 2 ^ (i + 1) := by
          have := Nat.pow_le_pow_right (n := 2) (by decide) (show 1 ≤ i + 1 by omega)
          omega
        unfold CDiv
        generalize 2 ^ (i + 1) = z at *
        omega
      · walk_at "h"
        rw [downQ]
        show _ = [_, _, Sl.own (.int ((downQ (upQ n r) i / (2 ^ (i + 1) - 1) : Nat) : Int)), _]
        rw [Int.natCast_ediv]
    · rintro ρ ⟨s3, rfl⟩
      rw [Nat.zero_add, rangeD_len]
      walk_at "h"
      rw [Z.later_cons]
      walk_at "h"
      exact h
theorem at__law_many (T : Tx K mg) : FnAt P w K mg base "_law_many" 1 2 (spD K spec__law_many) := by
  obtain ⟨f, fd, hm, F⟩ := T.f__law_many
  refine fnAt_of hm F rfl (F.binds (ps := ["n", "rank"]) fun _ _ _ _ _ _ us hl => match us, hl with | [_, _], _ => rfl) (fnG_of F sc__law_many (spD_len len__law_many) fun cdv A outer s H vs Q E hr hg h => ?_)
  exact body_of (m := fun _ => m__law_many) ["n", "rank", "found", "k"]
    ((pss_cons (ps_set (i := 2) sc__law_many.nd rfl (by first | exact Or.inl rfl | exact Or.inr rfl) pe_int)
      (pss_cons (ps_for PassesOwn.never rfl (pi_range1 (by rfl) T.b_range (pa_cons (pv 1) pa_nil)) (pg_name (i := 3) sc__law_many.nd rfl (by first | exact Or.inl rfl | exact Or.inr rfl)) (pss_one (ps_set (i := 2) sc__law_many.nd rfl (by first | exact Or.inl rfl | exact Or.inr rfl) (pe_op op_mulZ (pv 2) (pe_op op_sub (pe_op op_shl pe_int (pe_op op_sub (pv 0) (pv 3))) pe_int)))))
      (pss_cons (ps_for PassesOwn.never rfl (pi_range1 (by rfl) T.b_range (pa_cons (pv 1) pa_nil)) (pg_name (i := 3) sc__law_many.nd rfl (by first | exact Or.inl rfl | exact Or.inr rfl)) (pss_one (ps_set (i := 2) sc__law_many.nd rfl (by first | exact Or.inl rfl | exact Or.inr rfl) (pe_op op_fdiv (pv 2) (pe_op op_sub (pe_op op_shl pe_int (pe_op op_addZ (pv 3) pe_int)) pe_int)))))
      (pss_one (ps_ret (pv 2)))))))
    (fun S => (ds_seq (ds_asg 2 de_int)
      (ds_seq (ds_for (Wg := [3]) (Wb := [2]) (F := []) (di_rng1 (da_cons (de_var 1) da_nil)) (dg_name 3) (ds_asg 2 (de_op od_mul (de_var 2) (de_op od_I0 (de_op od_IC de_int (de_op od_I0 (de_var 0) (de_var 3))) de_int))) (by decide))
      (ds_seq (ds_for (Wg := [3]) (Wb := [2]) (F := []) (di_rng1 (da_cons (de_var 1) da_nil)) (dg_name 3) (ds_asg 2 (de_op od_IC (de_var 2) (de_op od_I0 (de_op od_IC de_int (de_op od_add (de_var 3) de_int)) de_int))) (by decide))
      (ds_ret (de_solid (de_var 2))))))) h (fun S ds R hs => pl__law_many ds R hs)
def m_law : DMS :=
  (sSeq (sFor (dRng1 (dCons (dC (.int 5)) dNil)) (dgName 2) (sSeq (sAsg 3 (dBin fAdd (dC (.int 1)) (dCall spec__law_pick (dCons (dVar 1) (dCons (dC (.int 12)) dNil)))))
  (sSeq (sAsg 4 (dCall spec__law_lot (dCons (dVar 1) (dCons (dVar 3) dNil))))
  (sSeq (sAsg 5 (dCall spec__law_parting (dCons (dVar 3) (dCons (dVar 4) dNil))))
  (sSeq (sIf (dOr (dTest (dBin (fEq true) (dCall fRepr (dCons (dLst (dCons (dCall spec_parting_of (dCons (dVar 3) (dCons (dVar 4) dNil))) (dCons (dCall spec_lot_of_parting (dCons (dVar 3) (dCons (dVar 5) dNil))) dNil))) dNil)) (dCall fRepr (dCons (dLst (dCons (dVar 5) (dCons (dVar 4) dNil))) dNil)))) (dTest (dBin (fEq true) (dCall fLen (dCons (dVar 5) dNil)) (dBin (f2I fun i j => .int (i - j)) (dBin fAdd (dVar 3) (dC (.int 1))) (dCall fLen (dCons (dVar 4) dNil)))))) (sRet (dC (.bool false))) sNext)
  (sSeq (sAsg 6 (dComp (dRng1 (dCons (dBin fAdd (dVar 3) (dC (.int 1))) dNil)) (dgName 7) dYes (dSolid (dTup (dCons (dVar 7) dNil))) [7]))
  (sSeq (sFor (dRng1 (dCons (dCall spec__law_pick (dCons (dVar 1) (dCons (dBin fAdd (dVar 3) (dC (.int 1))) dNil))) dNil)) (dgName 8) (sIf (dTest (dBin (f2I fun i j => .bool (decide (j < i))) (dCall fLen (dCons (dVar 6) dNil)) (dC (.int 1)))) (sSeq (sPopAt 9 6 (dCall spec__law_pick (dCons (dVar 1) (dCons (dCall fLen (dCons (dVar 6) dNil)) dNil))))
  (sSeq (sAsg 7 (dCall spec__law_pick (dCons (dVar 1) (dCons (dCall fLen (dCons (dVar 6) dNil)) dNil))))
  (sSetI 6 (dVar 7) (dCall fTuple (dCons (dCall (fSorted false) (dCons (dBin fAdd (dBin fIx (dVar 6) (dVar 7)) (dVar 9)) dNil)) dNil))))) sNext) [8, 9, 6, 7, 6] [8, 9])
  (sSeq (sAsg 6 (dCall fTuple (dCons (dCall (fSorted false) (dCons (dVar 6) dNil)) dNil)))
  (sSeq (sAsg 10 (dCall spec_lot_of_parting (dCons (dVar 3) (dCons (dVar 6) dNil))))
  (sSeq (sIf (dTest (dBin (fEq true) (dCall fRepr (dCons (dLst (dCons (dVar 10) (dCons (dCall spec_parting_of (dCons (dVar 3) (dCons (dVar 10) dNil))) dNil))) dNil)) (dCall fRepr (dCons (dLst (dCons (dCall spec__law_lot_of (dCons (dVar 6) dNil)) (dCons (dVar 6) dNil))) dNil)))) (sRet (dC (.bool false))) sNext)
  (sSeq (sAsg 11 (dCall spec__law_pick (dCons (dVar 1) (dCons (dBin fAdd (dVar 3) (dC (.int 1))) dNil))))
  (sIf (dTest (dBin (fEq true) (dCall fRepr (dCons (dCall spec_codes_with (dCons (dVar 3) (dCons (dVar 11) dNil))) dNil)) (dCall fRepr (dCons (dCall spec__law_many (dCons (dVar 3) (dCons (dVar 11) dNil))) dNil)))) (sRet (dC (.bool false))) sNext))))))))))) [2, 3, 4, 5, 6, 8, 9, 6, 7, 6, 6, 10, 11] [2, 5, 7, 8, 9])
  (sSeq (sAsg 3 (dCall spec__law_of (dCons (dVar 1) (dCons (dLst (dCons (dC (.int 1)) (dCons (dC (.int 2)) (dCons (dC (.int 3)) (dCons (dC (.int 4)) (dCons (dC (.int 5)) (dCons (dC (.int 5)) (dCons (dC (.int 6)) dNil)))))))) dNil))))
  (sSeq (sIf (dAnd (dTest (dBin (fEq false) (dVar 3) (dC (.int 6)))) (dTest (dBin (f2I fun i j => .bool (decide (j < i))) (dCall spec__law_pick (dCons (dVar 1) (dCons (dC (.int 4)) dNil))) (dC (.int 0))))) (sRet (dC (.bool true))) sNext)
  (sSeq (sAsg 12 (dCall fSorted0 (dCons (dComp (dItems (dCall spec__law_partings (dCons (dVar 3) dNil))) (dgName 6) dYes (dCall spec__law_lot_of (dCons (dVar 6) dNil)) [6]) dNil)))
  (sSeq (sAsg 10 (dCall spec_all_span_lots (dCons (dVar 3) dNil)))
  (sSeq (sIf (dOr (dTest (dBin (fEq true) (dCall fRepr (dCons (dVar 10) dNil)) (dCall fRepr (dCons (dVar 12) dNil)))) (dTest (dBin (fEq true) (dCall fLen (dCons (dVar 12) dNil)) (dBin fIx (dLst (dCons (dC (.int 1)) (dCons (dC (.int 2)) (dCons (dC (.int 5)) (dCons (dC (.int 15)) (dCons (dC (.int 52)) (dCons (dC (.int 203)) (dCons (dC (.int 877)) dNil)))))))) (dVar 3))))) (sRet (dC (.bool false))) sNext)
  (sSeq (sAppend 10 (dC .none))
  (sSeq (sAsg 13 (dComp (dRng1 (dCons (dBin fAdd (dVar 3) (dC (.int 1))) dNil)) (dgName 11) dYes (dCall fSumA (dCons (dComp (dItems (dVar 12)) (dgName 4) (dTest (dBin (fEq false) (dCall fLen (dCons (dVar 4) dNil)) (dVar 11))) (dBin (f2IC CPow fun i j => .int (i * 2 ^ j.toNat)) (dC (.int 1)) (dCall spec__law_free (dCons (dVar 4) dNil))) [4]) dNil)) [11]))
  (sRet (dAndV (dBin (fEq false) (dVar 13) (dComp (dRng1 (dCons (dBin fAdd (dVar 3) (dC (.int 1))) dNil)) (dgName 11) dYes (dCall spec_codes_with (dCons (dVar 3) (dCons (dVar 11) dNil))) [11])) (dBin (fEq false) (dCall fLen (dCons (dCall spec_all_span_lots (dCons (dVar 3) dNil)) dNil)) (dCall fLen (dCons (dVar 12) dNil)))))))))))))
theorem PartU.of_perm {n : Nat} {X Y : List (List Nat)} (h : PartU n X) (p : Y.flatten.Perm X.flatten) (ne : ∀ B ∈ Y, B ≠ []) (asc : ∀ B ∈ Y, B.Pairwise (· < ·)) : PartU n Y :=
  ⟨ne, asc, p.nodup_iff.mpr h.nd, fun k => by rw [p.mem_iff]; exact h.cov k⟩
theorem partU_ones (n : Nat) : PartU n ((List.range (n + 1)).map fun k => [k]) := by
  have e : ((List.range (n + 1)).map fun k => [k]).flatten = List.range (n + 1) := by
    rw [← List.flatMap_def]
    exact List.flatMap_singleton' _
  refine ⟨fun B hB => ?_, fun B hB => ?_, by rw [e]; exact List.nodup_range, fun k => by rw [e, List.mem_range]; omega⟩
  · obtain ⟨k, _, rfl⟩ := List.mem_map.mp hB
    simp
  · obtain ⟨k, _, rfl⟩ := List.mem_map.mp hB
    exact List.pairwise_singleton _ _
theorem flat_erase : ∀ {X : List (List Nat)} {j : Nat} (h : j < X.length), X.flatten.Perm (X[j] ++ (X.eraseIdx j).flatten)
  | [], _, h => absurd h (Nat.not_lt_zero _)
  | B :: X, 0, _ => by simp
  | B :: X, j + 1, h => by
    have ih := flat_erase (X := X) (j := j) (by simpa using h)
    rw [List.flatten_cons, List.eraseIdx_cons_succ, List.flatten_cons, List.getElem_cons_succ]
    refine (List.Perm.append_left B ih).trans ?_
    rw [← List.append_assoc, ← List.append_assoc]
    exact List.Perm.append_right _ List.perm_append_comm
theorem part_join {n : Nat} {X : List (List Nat)} (h : PartU n X) {j k : Nat} (hj : j < X.length) (hk : k < (X.eraseIdx j).length) : PartU n ((X.eraseIdx j).set k (upN ((X.eraseIdx j)[k] ++ X[j]))) := by
  have up : (upN ((X.eraseIdx j)[k] ++ X[j])).Perm ((X.eraseIdx j)[k] ++ X[j]) := List.mergeSort_perm _ _
  have hY : ∀ B ∈ X.eraseIdx j, B ∈ X := fun B hB => List.mem_of_mem_eraseIdx hB
  have fl : ((X.eraseIdx j).set k (upN ((X.eraseIdx j)[k] ++ X[j]))).flatten.Perm X.flatten := by
    have hs : k < ((X.eraseIdx j).set k (upN ((X.eraseIdx j)[k] ++ X[j]))).length := by rw [List.length_set]; exact hk
    have p1 := flat_erase hs
    rw [List.getElem_set_self, List.eraseIdx_set_eq] at p1
    refine p1.trans ((List.Perm.append_right _ up).trans ?_)
    refine List.Perm.trans ?_ (flat_erase hj).symm
    refine List.Perm.trans ?_ (List.Perm.append_left _ (flat_erase hk).symm)
    rw [List.append_assoc, ← List.append_assoc, ← List.append_assoc]
    exact List.Perm.append_right _ List.perm_append_comm
  refine h.of_perm fl (fun B hB => ?_) fun B hB => ?_
  · rcases List.mem_or_eq_of_mem_set hB with hB | rfl
    · exact h.ne B (hY B hB)
    · intro z
      have l := up.length_eq
      rw [z, List.length_append] at l
      have := List.length_pos_iff.mpr (h.ne _ (List.getElem_mem hj))
      simp at l
      omega
  · rcases List.mem_or_eq_of_mem_set hB with hB | rfl
    · exact h.asc B (hY B hB)
    · refine (lt_of_le (up.nodup_iff.mpr ?_)).mp (upN_asc _)
      have nd := (flat_erase hj).nodup_iff.mp h.nd
      obtain ⟨n1, n2, n3⟩ := List.nodup_append.mp nd
      refine List.nodup_append.mpr ⟨(h.asc _ (hY _ (List.getElem_mem hk))).imp fun z => Nat.ne_of_lt z, n1, fun a ha b hb e => ?_⟩
      subst e
      exact n3 a hb a (List.mem_flatten.mpr ⟨_, List.getElem_mem hk, ha⟩) rfl
theorem lot_key (X : List (List Nat)) : X.map lotD = (X.map keyL).map tI := by
  rw [List.map_map]
  refine List.map_congr_left fun B _ => ?_
  show lotD B = PyData.tuple ((keyL B).map .int)
  unfold lotD keyL
  rw [List.map_map]
  rfl
theorem sortOk_part {n : Nat} {X : List (List Nat)} (h : PartU n X) (hn : n ≤ 1000) : SortOk (X.map lotD) := by
  have := part_len h
  rw [lot_key]
  refine sortOk_tI (fun r hr => ?_) (by rw [List.length_map]; omega)
  obtain ⟨B, hB, rfl⟩ := List.mem_map.mp hr
  exact fun z => h.ne B hB (List.map_eq_nil_iff.mp z)
theorem sort_part {n : Nat} {X : List (List Nat)} (h : PartU n X) : ∃ Y, sortD false (X.map lotD) = Y.map lotD ∧ Part n Y := by
  have nd : (X.map keyL).Nodup := by
    have inj : ∀ B C : List Nat, keyL B = keyL C → B = C := fun B C e => (List.map_inj_right fun a b z => by omega).mp e
    have : X.Nodup := by
      have hnd := h.nd
      have hne := h.ne
      clear h
      induction X with
      | nil => exact List.nodup_nil
      | cons B X ih =>
        rw [List.flatten_cons] at hnd
        obtain ⟨n1, n2, n3⟩ := List.nodup_append.mp hnd
        refine List.nodup_cons.mpr ⟨fun hm => ?_, ih n2 fun C hC => hne C (List.mem_cons_of_mem _ hC)⟩
        obtain ⟨a, ha⟩ := List.exists_mem_of_ne_nil B (hne B (List.mem_cons_self ..))
        exact n3 a ha a (List.mem_flatten.mpr ⟨B, hm, ha⟩) rfl
    exact List.pairwise_map.mpr (this.imp fun {a b} z e => z (inj a b e))
  obtain ⟨Y, hY, e⟩ := perm_map (f := keyL) (upI_perm (X.map keyL)) rfl
  have hU : PartU n Y := h.of_perm hY.flatten (fun B hB => h.ne B (hY.mem_iff.mp hB)) fun B hB => h.asc B (hY.mem_iff.mp hB)
  refine ⟨Y, by rw [lot_key, sortD_tI, e, ← lot_key], hU, ?_⟩
  have st := upI_strict nd
  rw [e] at st
  refine List.pairwise_map.mpr (List.Pairwise.imp_of_mem (fun {B C} hB hC z => ?_) (List.pairwise_map.mp st))
  have b1 := asc_head (hU.asc B hB) (hU.ne B hB)
  have c1 := asc_head (hU.asc C hC) (hU.ne C hC)
  have nb := hU.ne B hB
  have nc := hU.ne C hC
  cases B with
  | nil => exact (nb rfl).elim
  | cons b B =>
    cases C with
    | nil => exact (nc rfl).elim
    | cons c C =>
      show b < c
      unfold keyL at z
      rw [List.map_cons, List.map_cons, List.cons_lt_cons_iff] at z
      rcases z with z | ⟨z1, z2⟩
      · omega
      · have eb : b = c := by omega
        subst eb
        have := flat_same hU.nd hB hC (List.mem_cons_self ..) (List.mem_cons_self ..)
        have eBC : B = C := by injection this
        rw [eBC] at z2
        exact absurd z2 (List.lt_irrefl _)
theorem ok_part {n : Nat} {X : List (List Nat)} (h : PartU n X) (hn : n ≤ 12) : Ok 10 5000 (.tuple (X.map lotD)) := by
  refine (Ok.tuple (k := 1) (w := 13 * 15 + 3) (n := 13) (fun d hd => ?_) (by rw [List.length_map]; have := part_len h; omega)).mono (by decide) (by decide)
  obtain ⟨B, hB, rfl⟩ := List.mem_map.mp hd
  refine ok_nats (fun k hk => ?_) (by have := part_block h hB; omega)
  have := (h.cov k).mp (List.mem_flatten.mpr ⟨B, hB, hk⟩)
  omega
theorem ok_prs {n : Nat} {L : List (Nat × Nat)} (h : Apart n L) (hn : n ≤ 12) : Ok 10 5000 (.tuple (L.map prD)) := by
  refine (Ok.tuple (k := 1) (w := 2 * 15 + 3) (n := 12) (fun d hd => ?_) (by rw [List.length_map]; have := h.len; omega)).mono (by decide) (by decide)
  obtain ⟨p, hp, rfl⟩ := List.mem_map.mp hd
  have ok := h.ok p hp
  have o1 := ok.1
  have o2 := ok.2
  show Ok 1 _ (.tuple ([p.1, p.2].map natD))
  refine ok_nats (fun k hk => ?_) (by simp)
  simp only [List.mem_cons, List.not_mem_nil, or_false] at hk
  rcases hk with rfl | rfl <;> omega
theorem ok_twoL {a b : D} (ha : Ok 10 5000 a) (hb : Ok 10 5000 b) : Ok 40 10000000 (.list [a, b]) := by
  refine (Ok.list (k := 10) (w := 5000) (n := 2) (fun d hd => ?_) (by simp)).mono (by decide) (by decide)
  rcases List.mem_cons.mp hd with rfl | hd
  · exact ha
  · rw [List.mem_singleton.mp hd]
    exact hb
theorem freeK_le {n : Nat} {L : List (Nat × Nat)} (h : Apart n L) : freeK L ≤ n * n := by
  have : ∀ M : List (Nat × Nat), (∀ p ∈ M, PrOk n p) → (M.map fun p => (freeP L p).length).sum ≤ M.length * n := fun M => by
    induction M with
    | nil => intro _; simp
    | cons p M ih =>
      intro hs
      have := ih fun q hq => hs q (List.mem_cons_of_mem _ hq)
      have l : (freeP L p).length ≤ n := by
        have hp := (hs p (List.mem_cons_self ..)).2
        refine Nat.le_trans (List.length_filter_le ..) ?_
        rw [List.length_map, List.length_range]
        omega
      rw [List.map_cons, List.sum_cons, List.length_cons, Nat.succ_mul]
      omega
  exact Nat.le_trans (this L h.ok) (Nat.mul_le_mul_right _ h.len)
theorem pl_law : m_law (startL 12) lawE := by
  unfold m_law
  walk_at "h"
  refine ⟨by omega, ?_⟩
  refine forD_nx (fun i ρ => ∃ s3 s4 s6 s10 s11, ρ = [.unk, .val srcD, .unk, s3, s4, .unk, s6, .unk, .unk, .unk, s10, s11, .unk, .unk]) _ 0 _ ⟨_, _, _, _, _, rfl⟩ ?_ ?_
  · rintro i x ρ E hx ⟨s3, s4, s6, s10, s11, rfl⟩ hN
    obtain ⟨hi, rfl⟩ := range_at hx
    walk_at "h"
    refine ⟨12, rfl, by omega, fun a a0 a1 => ?_⟩
    obtain ⟨n, rfl⟩ : ∃ n : Nat, a = (n : Int) := ⟨a.toNat, by omega⟩
    have en : (1 : Int) + n = ((n + 1 : Nat) : Int) := by omega
    walk_at "h"
    rw [en]
    obtain ⟨m, hm⟩ : ∃ m, m = n + 1 := ⟨_, rfl⟩
    rw [← hm]
    have m12 : m ≤ 12 := by omega
    walk_at "s"
    refine ⟨m, rfl, by omega, by omega, fun L hL => ?_⟩
    have lL := hL.ap.len
    have cp := chains_part hL.ap
    have cl := chains_len hL.ap
    walk_at "s"
    refine ⟨m, L, rfl, by omega, hL.ap, ?_⟩
    walk_at "s"
    refine ⟨m, L, rfl, by omega, hL.ap, m, chains m L, rfl, by omega, cp.toPartU, ?_⟩
    rw [lotOf_chains hL]
    refine ⟨ok_twoL (ok_part cp.toPartU m12) (ok_prs hL.ap m12), ok_twoL (ok_part cp.toPartU m12) (ok_prs hL.ap m12), fEq_eq ?_⟩
    walk_at "h"
    refine fEq_int ?_
    have e1 : ((((chains m L).map lotD).length : Nat) : Int) = ((m : Nat) : Int) + 1 - (((L.map prD).length : Nat) : Int) := by
      rw [List.length_map, List.length_map]
      omega
    rw [e1]
    simp only [beq_self_eq_true, Bool.not_true, if_true, cond_false]
    walk_at "s"
    refine ⟨⟨by omega, by omega⟩, ?_⟩
    rw [show (((m : Nat) : Int) + 1).toNat = m + 1 by omega, rangeD_nats]
    refine ⟨by rw [List.length_map, List.length_range]; omega, compD_map (fun k => lotD [k]) (fun k hk c c0 hc => ?_) ?_⟩
    · walk_at "h"
      exact hc
    rw [show ((List.range (m + 1)).map fun k => lotD [k]) = ((List.range (m + 1)).map fun k => [k]).map lotD by rw [List.map_map]; rfl]
    walk_at "s"
    refine ⟨((m : Nat) : Int) + 1, rfl, by omega, fun j j0 j1 => ?_⟩
    obtain ⟨j, rfl⟩ : ∃ z : Nat, j = (z : Int) := ⟨j.toNat, by omega⟩
    walk_at "h"
    refine ⟨⟨by omega, by omega⟩, ?_⟩
    refine forD_nx (fun _ ρ => ∃ X t7 u10 u11, PartU m X ∧ ρ = [.unk, .val srcD, .val (natD i), .val (natD m), .val (.tuple (L.map prD)), .val (.tuple ((chains m L).map lotD)), .own (.list (X.map lotD)), t7, .unk, .unk, u10, u11, .unk, .unk]) _ 0 _ ⟨_, _, _, _, partU_ones m, rfl⟩ ?_ ?_
    · rintro i2 x ρ E2 hx2 ⟨X, t7, u10, u11, hX, rfl⟩ hN2
      have lX := part_len hX
      walk_at "h"
      cases c1 : decide ((1 : Int) < (((X.map lotD).length : Nat) : Int))
      · walk_at "h"
        exact hN2 _ ⟨X, _, _, _, hX, rfl⟩
      · have c1 := of_decide_eq_true c1
        rw [List.length_map] at c1
        walk_at "h"
        rw [List.length_map]
        refine ⟨X.length, rfl, by omega, fun p p0 p1 => ?_⟩
        obtain ⟨p, rfl⟩ : ∃ z : Nat, p = (z : Int) := ⟨p.toNat, by omega⟩
        have hp : p < X.length := by omega
        have lY : (X.eraseIdx p).length = X.length - 1 := List.length_eraseIdx_of_lt hp
        walk_at "h"
        rw [Int.toNat_natCast]
        refine ⟨by omega, by omega, by omega, solids_of fun B _ => solid_lotD B, lotD X[p], by rw [List.getElem?_map, List.getElem?_eq_getElem hp]; rfl, ?_⟩
        rw [erase_map]
        walk_at "s"
        rw [List.length_map]
        refine ⟨(X.eraseIdx p).length, rfl, by omega, fun q q0 q1 => ?_⟩
        obtain ⟨q, rfl⟩ : ∃ z : Nat, q = (z : Int) := ⟨q.toNat, by omega⟩
        have hq : q < (X.eraseIdx p).length := by omega
        rw [Z.later_cons]
        walk_at "h"
        have eA : atI ((X.eraseIdx p).map lotD) ((q : Nat) : Int) = some (.tuple (((X.eraseIdx p)[q]).map natD)) := at_map (f := lotD) rfl hq
        have eP : lotD X[p] = .tuple ((X[p]).map natD) := rfl
        rw [eP]
        refine ⟨_, eA, ?_⟩
        walk_at "h"
        have l1 := part_block hX (List.getElem_mem hp)
        have l2 := part_block hX (List.mem_of_mem_eraseIdx (List.getElem_mem hq))
        rw [← List.map_append, sortD_upN]
        refine ⟨solids_nats _, solids_nats _, by rw [List.length_map, List.length_map]; omega, solids_nats _, sortOk_nats (by rw [List.length_append]; omega), solids_nats _, q, ixN_nat (by rw [List.length_map]; exact hq), by rw [List.length_map]; exact hq, hN2 _ ⟨_, .own (natD q), u10, u11, part_join hX hp hq, ?_⟩⟩
        walk_at "h"
        rw [List.map_set]
        rfl
    · rintro ρ ⟨X, t7, u10, u11, hX, rfl⟩
      walk_at "h"
      walk_at "s"
      obtain ⟨Y, eY, hY⟩ := sort_part hX
      refine ⟨solids_of fun B _ => solid_lotD B, sortOk_part hX (by omega), ?_⟩
      rw [eY]
      have lotY := lotOf_lot hY.toPartU
      refine ⟨solids_of fun B _ => solid_lotD B, ?_⟩
      walk_at "s"
      refine ⟨m, Y, rfl, by omega, hY.toPartU, ?_⟩
      walk_at "s"
      refine ⟨m, lotOf Y, rfl, by omega, lotY.ap, ?_⟩
      rw [chains_lotOf hY]
      refine ⟨ok_twoL (ok_prs lotY.ap m12) (ok_part hY.toPartU m12), m, Y, rfl, by omega, hY.toPartU, ok_twoL (ok_prs lotY.ap m12) (ok_part hY.toPartU m12), fEq_eq ?_⟩
      walk_at "h"
      walk_at "s"
      refine ⟨((m : Nat) : Int) + 1, rfl, by omega, fun r r0 r1 => ?_⟩
      obtain ⟨r, rfl⟩ : ∃ z : Nat, r = (z : Int) := ⟨r.toNat, by omega⟩
      walk_at "s"
      have ec := codes_many m m12 r (by omega)
      have okc : Ok 40 10000000 (.int ((codesQ m r : Nat) : Int)) := by
        have : ∀ n, n < 13 → ∀ r, r < n + 1 → codesQ n r < 10 ^ 12 := by decide +kernel
        have := this m (by omega) r (by omega)
        exact (Ok.int (by omega)).mono (by decide) (by decide)
      refine ⟨m, r, rfl, m12, by omega, okc, m, r, rfl, m12, by omega, ?_⟩
      rw [← ec]
      refine ⟨okc, fEq_eq ?_⟩
      walk_at "h"
      exact hN _ ⟨_, _, _, _, _, rfl⟩
  · rintro ρ ⟨s3, s4, s6, s10, s11, rfl⟩
    walk_at "h"
    walk_at "s"
    refine ⟨_, .inl rfl, by simp [solids, solid_int], by simp, by simp, fun d hd => ?_⟩
    have : ∃ n, 1 ≤ n ∧ n ≤ 6 ∧ d = natD n := by
      simp only [List.mem_cons, List.not_mem_nil, or_false] at hd
      rcases hd with rfl | rfl | rfl | rfl | rfl | rfl | rfl
      · exact ⟨1, by decide, by decide, rfl⟩
      · exact ⟨2, by decide, by decide, rfl⟩
      · exact ⟨3, by decide, by decide, rfl⟩
      · exact ⟨4, by decide, by decide, rfl⟩
      · exact ⟨5, by decide, by decide, rfl⟩
      · exact ⟨5, by decide, by decide, rfl⟩
      · exact ⟨6, by decide, by decide, rfl⟩
    obtain ⟨n, n1, n6, rfl⟩ := this
    walk_at "s"
    refine fEq_int ?_
    have e6 : (((n : Nat) : Int) == 6) = (n == 6) := by
      rw [Bool.eq_iff_iff, beq_iff_eq, beq_iff_eq]
      omega
    simp only [Bool.false_eq_true, if_false]
    rw [e6]
    generalize hG : later _ _ _ _ = G
    suffices key : G by
      cases c : n == 6
      · exact key
      · refine ⟨4, rfl, by omega, fun k k0 k1 => ?_⟩
        dsimp only
        cases decide (0 < k)
        · exact key
        · trivial
    rw [← hG]
    walk_at "s"
    refine ⟨n, rfl, n6, ?_⟩
    have lp : (partsN n).length ≤ 877 := by
      rw [(parts_bell n6).1]
      have : ∀ k, k < 7 → bell k ≤ 877 := by decide
      exact this n (by omega)
    have la : (allLots n n).length = (partsN n).length := by rw [(parts_bell n6).1, (parts_bell n6).2]
    have ee : (partsN n).map (fun P => lotP (lotOf P)) = ((partsN n).map lotOf).map lotP := by rw [List.map_map]; rfl
    have se : sortD false (((partsN n).map lotOf).map lotP) = (upL (allLots n n)).map lotP := by rw [sortD_lotsP, upL_same (lots_perm n6)]
    obtain ⟨M, hM⟩ : ∃ M, M = upL (allLots n n) := ⟨_, rfl⟩
    have pM : M.Perm (allLots n n) := by rw [hM]; exact upL_perm _
    have lM : M.length = (partsN n).length := by rw [pM.length_eq, la]
    have apM : ∀ L ∈ M, LotN n L := fun L hL => by
      have := (lots_perm n6).mem_iff.mp (pM.mem_iff.mp hL)
      obtain ⟨P, hP, rfl⟩ := List.mem_map.mp this
      exact lotOf_lot (parts_part n6 hP).toPartU
    have fst : ∃ r, (partsN n).map lotOf = [] :: r := by
      have : ∀ k, k < 7 → ∃ r, partsN k = ((List.range (k + 1)).map fun j => [j]) :: r := by
        intro k
        induction k with
        | zero => intro _; exact ⟨[], rfl⟩
        | succ k ih =>
          intro hk
          obtain ⟨r, e⟩ := ih (by omega)
          have e9 : (List.range (k + 1 + 1)).map (fun j => [j]) = (List.range (k + 1)).map (fun j => [j]) ++ [[k + 1]] := by
            rw [List.range_succ, List.map_append]
            rfl
          rw [partsN, e, e9, List.flatMap_cons]
          exact ⟨_, rfl⟩
      obtain ⟨r, e⟩ := this n (by omega)
      rw [e]
      refine ⟨_, congrArg (· :: _) ?_⟩
      have : adjs ((List.range (n + 1)).map fun j => [j]) = [] := by
        unfold adjs
        rw [List.flatMap_map]
        simp [adj]
      unfold lotOf
      rw [this]
      exact List.mergeSort_nil
    refine ⟨by rw [List.length_map]; omega, compD_map (fun P => lotP (lotOf P)) (fun P hP k k0 hk => ?_) ?_⟩
    · walk_at "h"
      exact ⟨n, P, rfl, by omega, (parts_part n6 hP).toPartU, hk⟩
    rw [ee]
    refine ⟨_, .inl rfl, solids_lotP _, sortOk0_lots fst (by rw [List.length_map]; omega), ?_⟩
    rw [se, ← hM]
    walk_at "s"
    refine ⟨n, rfl, n6, ?_⟩
    rw [sortD_lotsP, ← hM]
    walk_at "s"
    have okM : Ok 40 10000000 (.list (M.map lotP)) := by
      refine (Ok.list (k := 10) (w := 5000) (n := 877) (fun d hd => ?_) (by rw [List.length_map]; omega)).mono (by decide) (by decide)
      obtain ⟨L, hL, rfl⟩ := List.mem_map.mp hd
      exact ok_prs (apM L hL).ap (by omega)
    refine ⟨okM, okM, fEq_eq ?_⟩
    dsimp only
    rw [cond_false]
    have eb : atI [PyData.int 1, PyData.int 2, PyData.int 5, PyData.int 15, PyData.int 52, PyData.int 203, PyData.int 877] ((n : Nat) : Int) = some (natD M.length) := by
      rw [lM, (parts_bell n6).1]
      have : ∀ k, 1 ≤ k → k < 7 → atI [PyData.int 1, PyData.int 2, PyData.int 5, PyData.int 15, PyData.int 52, PyData.int 203, PyData.int 877] ((k : Nat) : Int) = some (natD (bell k)) := by
        intro k h1 h2
        match k, h1, h2 with
        | 1, _, _ => rfl
        | 2, _, _ => rfl
        | 3, _, _ => rfl
        | 4, _, _ => rfl
        | 5, _, _ => rfl
        | 6, _, _ => rfl
      exact this n n1 (by omega)
    refine ⟨_, eb, ?_⟩
    rw [List.length_map]
    refine fEq_int ?_
    simp only [beq_self_eq_true, Bool.not_true, if_true, cond_false]
    walk_at "s"
    refine ⟨by rw [List.length_map]; omega, ?_⟩
    walk_at "s"
    refine ⟨⟨by omega, by omega⟩, ?_⟩
    rw [show (((n : Nat) : Int) + 1).toNat = n + 1 by omega, rangeD_nats]
    refine ⟨by rw [List.length_map, List.length_range]; omega, compD_map (fun r => natD (codesQ n r)) (fun r hr c c0 hc => ?_) ?_⟩
    · have hr := List.mem_range.mp hr
      walk_at "h"
      refine ⟨by rw [List.length_map]; omega, compD_filter (fun L => .int (((2 ^ freeK L : Nat)) : Int)) (fun L => L.length == r) (fun L hL k k0 h1 h0 => ?_) ?_⟩
      · rw [show lotP L = .tuple (L.map prD) from rfl]
        walk_at "h"
        rw [List.length_map]
        refine fEq_int ?_
        simp only [Bool.false_eq_true, if_false]
        have e1 : (((L.length : Nat) : Int) == ((r : Nat) : Int)) = (L.length == r) := by
          rw [Bool.eq_iff_iff, beq_iff_eq, beq_iff_eq]
          omega
        rw [e1]
        cases c1 : L.length == r
        · exact h0 c1
        · have := h1 c1
          have ap := (apM L hL).ap
          have fb := freeK_le ap
          have nn : n * n ≤ 6 * 6 := Nat.mul_le_mul n6 n6
          refine ⟨n, L, rfl, by omega, ap, ?_⟩
          rw [freeN_K]
          dsimp only
          refine ⟨⟨by omega, by omega, by decide⟩, ?_⟩
          rw [Int.toNat_natCast, show (1 : Int) * 2 ^ freeK L = ((2 ^ freeK L : Nat) : Int) by push_cast; omega]
          exact this
      · refine ⟨((M.filter fun L => L.length == r).map fun L => 2 ^ freeK L).map fun k => ((k : Nat) : Int), by rw [List.map_map, List.map_map]; rfl, ?_⟩
        rw [← cast_sum, (List.Perm.map _ (pM.filter _)).sum_nat, sums_lots n n6 r (by omega)]
        exact hc
    · walk_at "s"
      refine ⟨⟨by omega, by omega⟩, ?_⟩
      rw [show (((n : Nat) : Int) + 1).toNat = n + 1 by omega, rangeD_nats]
      refine ⟨by rw [List.length_map, List.length_range]; omega, compD_map (fun r => natD (codesQ n r)) (fun r hr c c0 hc => ?_) ?_⟩
      · have hr := List.mem_range.mp hr
        walk_at "h"
        exact ⟨n, r, rfl, by omega, by omega, hc⟩
      · rw [show ((List.range (n + 1)).map fun r => natD (codesQ n r)) = ((List.range (n + 1)).map (codesQ n)).map natD by rw [List.map_map]; rfl]
        refine fEq_natsL ?_
        simp only [Bool.false_eq_true, if_false, decide_true, cond_true]
        refine ⟨n, rfl, n6, ?_⟩
        rw [sortD_lotsP, ← hM]
        dsimp only
        refine fEq_int ?_
        simp
set_option maxHeartbeats 0 in
theorem fn_law (T : Tx K mg) {f : Addr} {fd : FuncData} (F : Fun K "law" "law" s_law f fd) : FnG P w K mg base 4 f fd ["script"] (spLaw K) := by
  refine fnG_of F sc_law (fun vs H Q E h => by obtain ⟨a, ns, rfl, _⟩ := h; rfl) fun cdv A outer s H vs Q E hr hg h => ?_
  exact law_of (K := K) (m := m_law) ["script", "source", "lap", "n", "lot", "due", "parting", "k", "join", "one", "told", "rank", "every", "sums"] rfl
    (pss_cons (ps_set (i := 1) sc_law.nd rfl (by first | exact Or.inl rfl | exact Or.inr rfl) (pe_callG (at__law_source T) (hr.mono (by decide)) hg (by rfl) (pa_cons (pv 0) pa_nil)))
      (pss_cons (ps_for PassesOwn.never rfl (pi_range1 (by rfl) T.b_range (pa_cons pe_int pa_nil)) (pg_name (i := 2) sc_law.nd rfl (by first | exact Or.inl rfl | exact Or.inr rfl)) (pss_cons (ps_set (i := 3) sc_law.nd rfl (by first | exact Or.inl rfl | exact Or.inr rfl) (pe_op op_addZ pe_int (pe_callG (at__law_pick T) (hr.mono (by decide)) hg (by rfl) (pa_cons (pv 1) (pa_cons pe_int pa_nil)))))
      (pss_cons (ps_set (i := 4) sc_law.nd rfl (by first | exact Or.inl rfl | exact Or.inr rfl) (pe_callG (at__law_lot T) (hr.mono (by decide)) hg (by rfl) (pa_cons (pv 1) (pa_cons (pv 3) pa_nil))))
      (pss_cons (ps_set (i := 5) sc_law.nd rfl (by first | exact Or.inl rfl | exact Or.inr rfl) (pe_callG (at__law_parting T) (hr.mono (by decide)) hg (by rfl) (pa_cons (pv 3) (pa_cons (pv 4) pa_nil))))
      (pss_cons (ps_if (PW.pt (pw_or (pt_cmpR (op_neZ hr.units) (pe_callB (cr_repr hg hr.units) (by rfl) T.b_repr (by decide +kernel) (pa_cons (pe_lst (pa_cons (pe_callG (at_parting_of T) (hr.mono (by decide)) hg (by rfl) (pa_cons (pv 3) (pa_cons (pv 4) pa_nil))) (pa_cons (pe_callG (at_lot_of_parting T) (hr.mono (by decide)) hg (by rfl) (pa_cons (pv 3) (pa_cons (pv 5) pa_nil))) pa_nil))) pa_nil)) (pe_callB (cr_repr hg hr.units) (by rfl) T.b_repr (by decide +kernel) (pa_cons (pe_lst (pa_cons (pv 5) (pa_cons (pv 4) pa_nil))) pa_nil)) (nomark _)) (pw_or1 (pt_cmpR (op_neZ hr.units) (pe_callB call_len (by rfl) T.b_len PySem.boot_len (pa_cons (pv 5) pa_nil)) (pe_op op_sub (pe_op op_addZ (pv 3) pe_int) (pe_callB call_len (by rfl) T.b_len PySem.boot_len (pa_cons (pv 4) pa_nil))) (nomark _))))) (pss_one (ps_ret pe_bl)) pss_nil)
      (pss_cons (ps_setLc (i := 6) (own := [("k", 7)]) rfl sc_law.nd rfl rfl (sw_true rfl rfl rfl (by decide +kernel)) (pi_range1 (by rfl) T.b_range (pa_cons (pe_op op_addZ (pv 3) pe_int) pa_nil)) (blkOk_by (N := ["script", "source", "lap", "n", "lot", "due", "parting", "k", "join", "one", "told", "rank", "every", "sums"]) (sc := defScope s_law) (by decide +kernel)) (fun _ _ _ _ _ => (pg_name (i := 7) sc_law.nd rfl (by first | exact Or.inl rfl | exact Or.inr rfl))) (fun _ _ _ _ _ => pts_nil) (fun _ _ _ _ _ => (pe_tupF (pa_cons (pv 7) pa_nil))))
      (pss_cons (ps_for PassesOwn.never rfl (pi_range1 (by rfl) T.b_range (pa_cons (pe_callG (at__law_pick T) (hr.mono (by decide)) hg (by rfl) (pa_cons (pv 1) (pa_cons (pe_op op_addZ (pv 3) pe_int) pa_nil))) pa_nil)) (pg_name (i := 8) sc_law.nd rfl (by first | exact Or.inl rfl | exact Or.inr rfl)) (pss_one (ps_if (pt_cmpR op_gt (pe_callB call_len (by rfl) T.b_len PySem.boot_len (pa_cons (pv 6) pa_nil)) pe_int (nomark _)) (pss_cons (ps_set (i := 9) sc_law.nd rfl (by first | exact Or.inl rfl | exact Or.inr rfl) (pe_bm PySem.F.plainAttrs_list PySem.F.slot_list_pop PySem.F.type_list_pop mt_popAt (pv 6) (pa_cons (pe_callG (at__law_pick T) (hr.mono (by decide)) hg (by rfl) (pa_cons (pv 1) (pa_cons (pe_callB call_len (by rfl) T.b_len PySem.boot_len (pa_cons (pv 6) pa_nil)) pa_nil))) pa_nil)))
      (pss_cons (ps_set (i := 7) sc_law.nd rfl (by first | exact Or.inl rfl | exact Or.inr rfl) (pe_callG (at__law_pick T) (hr.mono (by decide)) hg (by rfl) (pa_cons (pv 1) (pa_cons (pe_callB call_len (by rfl) T.b_len PySem.boot_len (pa_cons (pv 6) pa_nil)) pa_nil))))
      (pss_one (ps_asg (pe_callTy call_tupF (by rfl) T.b_tuple (by decide +kernel) (pa_cons (pe_callB (cr_sortZ hr.units) (by rfl) T.b_sorted (by decide +kernel) (pa_cons (pe_op op_addZ (pe_ix ix_seq (pv 6) (pv 7) (fun _ _ => rfl)) (pv 9)) pa_nil)) pa_nil)) (pg_sub (pv 6) (pv 7) set_list))))) pss_nil)))
      (pss_cons (ps_set (i := 6) sc_law.nd rfl (by first | exact Or.inl rfl | exact Or.inr rfl) (pe_callTy call_tupF (by rfl) T.b_tuple (by decide +kernel) (pa_cons (pe_callB (cr_sortZ hr.units) (by rfl) T.b_sorted (by decide +kernel) (pa_cons (pv 6) pa_nil)) pa_nil)))
      (pss_cons (ps_set (i := 10) sc_law.nd rfl (by first | exact Or.inl rfl | exact Or.inr rfl) (pe_callG (at_lot_of_parting T) (hr.mono (by decide)) hg (by rfl) (pa_cons (pv 3) (pa_cons (pv 6) pa_nil))))
      (pss_cons (ps_if (pt_cmpR (op_neZ hr.units) (pe_callB (cr_repr hg hr.units) (by rfl) T.b_repr (by decide +kernel) (pa_cons (pe_lst (pa_cons (pv 10) (pa_cons (pe_callG (at_parting_of T) (hr.mono (by decide)) hg (by rfl) (pa_cons (pv 3) (pa_cons (pv 10) pa_nil))) pa_nil))) pa_nil)) (pe_callB (cr_repr hg hr.units) (by rfl) T.b_repr (by decide +kernel) (pa_cons (pe_lst (pa_cons (pe_callG (at__law_lot_of T) (hr.mono (by decide)) hg (by rfl) (pa_cons (pv 6) pa_nil)) (pa_cons (pv 6) pa_nil))) pa_nil)) (nomark _)) (pss_one (ps_ret pe_bl)) pss_nil)
      (pss_cons (ps_set (i := 11) sc_law.nd rfl (by first | exact Or.inl rfl | exact Or.inr rfl) (pe_callG (at__law_pick T) (hr.mono (by decide)) hg (by rfl) (pa_cons (pv 1) (pa_cons (pe_op op_addZ (pv 3) pe_int) pa_nil))))
      (pss_one (ps_if (pt_cmpR (op_neZ hr.units) (pe_callB (cr_repr hg hr.units) (by rfl) T.b_repr (by decide +kernel) (pa_cons (pe_callG (at_codes_with T) (hr.mono (by decide)) hg (by rfl) (pa_cons (pv 3) (pa_cons (pv 11) pa_nil))) pa_nil)) (pe_callB (cr_repr hg hr.units) (by rfl) T.b_repr (by decide +kernel) (pa_cons (pe_callG (at__law_many T) (hr.mono (by decide)) hg (by rfl) (pa_cons (pv 3) (pa_cons (pv 11) pa_nil))) pa_nil)) (nomark _)) (pss_one (ps_ret pe_bl)) pss_nil)))))))))))))
      (pss_cons (ps_set (i := 3) sc_law.nd rfl (by first | exact Or.inl rfl | exact Or.inr rfl) (pe_callG (at__law_of T) (hr.mono (by decide)) hg (by rfl) (pa_cons (pv 1) (pa_cons (pe_lst (pa_cons pe_int (pa_cons pe_int (pa_cons pe_int (pa_cons pe_int (pa_cons pe_int (pa_cons pe_int (pa_cons pe_int pa_nil)))))))) pa_nil))))
      (pss_cons (ps_if (PW.pt (pw_and (pt_cmpR (op_eqZ hr.units) (pv 3) pe_int (nomark _)) (pw_and1 (pt_cmpR op_gt (pe_callG (at__law_pick T) (hr.mono (by decide)) hg (by rfl) (pa_cons (pv 1) (pa_cons pe_int pa_nil))) pe_int (nomark _))))) (pss_one (ps_ret pe_bl)) pss_nil)
      (pss_cons (ps_set (i := 12) sc_law.nd rfl (by first | exact Or.inl rfl | exact Or.inr rfl) (pe_callB (cr_sort0 hr.units) (by rfl) T.b_sorted (by decide +kernel) (pa_cons (pe_lc (own := [("parting", 6)]) rfl sc_law.nd (pi_seq (pe_callG (at__law_partings T) (hr.mono (by decide)) hg (by rfl) (pa_cons (pv 3) pa_nil))) (blkOk_by (N := ["script", "source", "lap", "n", "lot", "due", "parting", "k", "join", "one", "told", "rank", "every", "sums"]) (sc := defScope s_law) (by decide +kernel)) (fun _ _ _ _ _ => (pg_name (i := 6) sc_law.nd rfl (by first | exact Or.inl rfl | exact Or.inr rfl))) (fun _ _ _ _ _ => pts_nil) (fun _ _ _ _ _ => (pe_callG (at__law_lot_of T) (hr.mono (by decide)) hg (by rfl) (pa_cons (pv 6) pa_nil)))) pa_nil)))
      (pss_cons (ps_set (i := 10) sc_law.nd rfl (by first | exact Or.inl rfl | exact Or.inr rfl) (pe_callG (at_all_span_lots T) (hr.mono (by decide)) hg (by rfl) (pa_cons (pv 3) pa_nil)))
      (pss_cons (ps_if (PW.pt (pw_or (pt_cmpR (op_neZ hr.units) (pe_callB (cr_repr hg hr.units) (by rfl) T.b_repr (by decide +kernel) (pa_cons (pv 10) pa_nil)) (pe_callB (cr_repr hg hr.units) (by rfl) T.b_repr (by decide +kernel) (pa_cons (pv 12) pa_nil)) (nomark _)) (pw_or1 (pt_cmpR (op_neZ hr.units) (pe_callB call_len (by rfl) T.b_len PySem.boot_len (pa_cons (pv 12) pa_nil)) (pe_ix ix_seq (pe_lst (pa_cons pe_int (pa_cons pe_int (pa_cons pe_int (pa_cons pe_int (pa_cons pe_int (pa_cons pe_int (pa_cons pe_int pa_nil)))))))) (pv 3) (fun _ _ => rfl)) (nomark _))))) (pss_one (ps_ret pe_bl)) pss_nil)
      (pss_cons (ps_expr (pe_bm PySem.F.plainAttrs_list PySem.F.slot_list_append PySem.F.type_list_append mt_append (pv 10) (pa_cons pe_non pa_nil)))
      (pss_cons (ps_setLc (i := 13) (own := [("rank", 11)]) rfl sc_law.nd rfl rfl (sw_true rfl rfl rfl (by decide +kernel)) (pi_range1 (by rfl) T.b_range (pa_cons (pe_op op_addZ (pv 3) pe_int) pa_nil)) (blkOk_by (N := ["script", "source", "lap", "n", "lot", "due", "parting", "k", "join", "one", "told", "rank", "every", "sums"]) (sc := defScope s_law) (by decide +kernel)) (fun _ _ _ _ _ => (pg_name (i := 11) sc_law.nd rfl (by first | exact Or.inl rfl | exact Or.inr rfl))) (fun _ _ _ _ _ => pts_nil) (fun _ _ _ _ _ => (pe_callB (cr_sumA rfl) (by rfl) T.b_sum (by decide +kernel) (pa_cons (pe_lc (own := [("lot", 4)]) rfl sc_law.nd (pi_seq (pv 12)) (blkOk_by (by rfl)) (fun _ _ _ _ _ => (pg_name (i := 4) sc_law.nd rfl (by first | exact Or.inl rfl | exact Or.inr rfl))) (fun _ _ _ _ _ => (pts_one (pt_cmpR (op_eqZ hr.units) (pe_callB call_len (by rfl) T.b_len PySem.boot_len (pa_cons (pv 4) pa_nil)) (pv 11) (nomark _)))) (fun _ _ _ _ _ => (pe_op op_shl pe_int (pe_callG (at__law_free T) (hr.mono (by decide)) hg (by rfl) (pa_cons (pv 4) pa_nil))))) pa_nil))))
      (pss_one (ps_ret (pe_and (pe_cmpR (op_eqZ hr.units) (pv 13) (pe_lc (own := [("rank", 11)]) rfl sc_law.nd (pi_range1 (by rfl) T.b_range (pa_cons (pe_op op_addZ (pv 3) pe_int) pa_nil)) (blkOk_by (N := ["script", "source", "lap", "n", "lot", "due", "parting", "k", "join", "one", "told", "rank", "every", "sums"]) (sc := defScope s_law) (by decide +kernel)) (fun _ _ _ _ _ => (pg_name (i := 11) sc_law.nd rfl (by first | exact Or.inl rfl | exact Or.inr rfl))) (fun _ _ _ _ _ => pts_nil) (fun _ _ _ _ _ => (pe_callG (at_codes_with T) (hr.mono (by decide)) hg (by rfl) (pa_cons (pv 3) (pa_cons (pv 11) pa_nil))))) (nomark _)) (pe_one (pe_cmpR (op_eqZ hr.units) (pe_callB call_len (by rfl) T.b_len PySem.boot_len (pa_cons (pe_callG (at_all_span_lots T) (hr.mono (by decide)) hg (by rfl) (pa_cons (pv 3) pa_nil)) pa_nil)) (pe_callB call_len (by rfl) T.b_len PySem.boot_len (pa_cons (pv 12) pa_nil)) (nomark _)))))))))))))))
    (fun S => (ds_seq (ds_for (Wg := [2]) (Wb := [3, 4, 5, 6, 8, 9, 6, 7, 6, 6, 10, 11]) (F := [2, 5, 7, 8, 9]) (di_rng1 (da_cons de_int da_nil)) (dg_name 2) (ds_seq (ds_asg 3 (de_op od_add de_int (de_call (da_cons (de_var 1) (da_cons de_int da_nil)))))
      (ds_seq (ds_asg 4 (de_call (da_cons (de_var 1) (da_cons (de_var 3) da_nil))))
      (ds_seq (ds_asg 5 (de_call (da_cons (de_var 3) (da_cons (de_var 4) da_nil))))
      (ds_seq (ds_if (dt_or (dt_val (de_op od_eq (de_cb cd_repr (da_cons (de_lst (da_cons (de_call (da_cons (de_var 3) (da_cons (de_var 4) da_nil))) (da_cons (de_call (da_cons (de_var 3) (da_cons (de_var 5) da_nil))) da_nil))) da_nil)) (de_cb cd_repr (da_cons (de_lst (da_cons (de_var 5) (da_cons (de_var 4) da_nil))) da_nil)))) (dt_val (de_op od_eq (de_cb cd_len (da_cons (de_var 5) da_nil)) (de_op od_I0 (de_op od_add (de_var 3) de_int) (de_cb cd_len (da_cons (de_var 4) da_nil)))))) (ds_ret de_bl) ds_next)
      (ds_seq (ds_asg 6 (de_lc (di_rng1 (da_cons (de_op od_add (de_var 3) de_int) da_nil)) (dg_name 7) dt_yes (de_solid (de_tup (da_cons (de_var 7) da_nil))) (by decide)))
      (ds_seq (ds_for (Wg := [8]) (Wb := [9, 6, 7, 6]) (F := [8, 9]) (di_rng1 (da_cons (de_call (da_cons (de_var 1) (da_cons (de_op od_add (de_var 3) de_int) da_nil))) da_nil)) (dg_name 8) (ds_if (dt_val (de_op od_B0 (de_cb cd_len (da_cons (de_var 6) da_nil)) de_int)) (ds_seq (ds_popAt 9 6 (de_call (da_cons (de_var 1) (da_cons (de_cb cd_len (da_cons (de_var 6) da_nil)) da_nil))))
      (ds_seq (ds_asg 7 (de_call (da_cons (de_var 1) (da_cons (de_cb cd_len (da_cons (de_var 6) da_nil)) da_nil))))
      (ds_setI 6 (de_cb cd_tuple (da_cons (de_cb cd_sorted (da_cons (de_op od_add (de_opA oa_ix (de_var 6) (de_var 7)) (de_var 9)) da_nil)) da_nil)) (de_var 7)))) ds_next) (by decide))
      (ds_seq (ds_asg 6 (de_cb cd_tuple (da_cons (de_cb cd_sorted (da_cons (de_var 6) da_nil)) da_nil)))
      (ds_seq (ds_asg 10 (de_call (da_cons (de_var 3) (da_cons (de_var 6) da_nil))))
      (ds_seq (ds_if (dt_val (de_op od_eq (de_cb cd_repr (da_cons (de_lst (da_cons (de_var 10) (da_cons (de_call (da_cons (de_var 3) (da_cons (de_var 10) da_nil))) da_nil))) da_nil)) (de_cb cd_repr (da_cons (de_lst (da_cons (de_call (da_cons (de_var 6) da_nil)) (da_cons (de_var 6) da_nil))) da_nil)))) (ds_ret de_bl) ds_next)
      (ds_seq (ds_asg 11 (de_call (da_cons (de_var 1) (da_cons (de_op od_add (de_var 3) de_int) da_nil))))
      (ds_if (dt_val (de_op od_eq (de_cb cd_repr (da_cons (de_call (da_cons (de_var 3) (da_cons (de_var 11) da_nil))) da_nil)) (de_cb cd_repr (da_cons (de_call (da_cons (de_var 3) (da_cons (de_var 11) da_nil))) da_nil)))) (ds_ret de_bl) ds_next))))))))))) (by decide))
      (ds_seq (ds_asg 3 (de_call (da_cons (de_var 1) (da_cons (de_lst (da_cons de_int (da_cons de_int (da_cons de_int (da_cons de_int (da_cons de_int (da_cons de_int (da_cons de_int da_nil)))))))) da_nil))))
      (ds_seq (ds_if (dt_and (dt_val (de_op od_eq (de_var 3) de_int)) (dt_val (de_op od_B0 (de_call (da_cons (de_var 1) (da_cons de_int da_nil))) de_int))) (ds_ret de_bl) ds_next)
      (ds_seq (ds_asg 12 (de_cb cd_sorted0 (da_cons (de_lc (di_seq (de_call (da_cons (de_var 3) da_nil))) (dg_name 6) dt_yes (de_call (da_cons (de_var 6) da_nil)) (by decide)) da_nil)))
      (ds_seq (ds_asg 10 (de_call (da_cons (de_var 3) da_nil)))
      (ds_seq (ds_if (dt_or (dt_val (de_op od_eq (de_cb cd_repr (da_cons (de_var 10) da_nil)) (de_cb cd_repr (da_cons (de_var 12) da_nil)))) (dt_val (de_op od_eq (de_cb cd_len (da_cons (de_var 12) da_nil)) (de_opA oa_ix (de_lst (da_cons de_int (da_cons de_int (da_cons de_int (da_cons de_int (da_cons de_int (da_cons de_int (da_cons de_int da_nil)))))))) (de_var 3))))) (ds_ret de_bl) ds_next)
      (ds_seq (ds_append 10 de_non)
      (ds_seq (ds_asg 13 (de_lc (di_rng1 (da_cons (de_op od_add (de_var 3) de_int) da_nil)) (dg_name 11) dt_yes (de_cb cd_sumA (da_cons (de_lc (di_seq (de_var 12)) (dg_name 4) (dt_val (de_op od_eq (de_cb cd_len (da_cons (de_var 4) da_nil)) (de_var 11))) (de_op od_IC de_int (de_call (da_cons (de_var 4) da_nil))) (by decide)) da_nil)) (by decide)))
      (ds_ret (de_andV (de_op od_eq (de_var 13) (de_lc (di_rng1 (da_cons (de_op od_add (de_var 3) de_int) da_nil)) (dg_name 11) dt_yes (de_call (da_cons (de_var 3) (da_cons (de_var 11) da_nil))) (by decide))) (de_op od_eq (de_cb cd_len (da_cons (de_call (da_cons (de_var 3) da_nil)) da_nil)) (de_cb cd_len (da_cons (de_var 12) da_nil)))))))))))))) pl_law h
end
/-! ### the end -/
theorem all_mk {l : PySem.W.OpenLaw} {w : World} {K : PySem.W.Frag} {h : Heap} {mg : Str → Option Value} {fa : Addr} (X : K.In h) (G : h.Ns mainGlobals mg) (hfa : mg "law" = some (.ref fa))
    {f0 : Addr} {od0 an0 : Option Addr} {sl0 : Array (Option Value)} {oc0 kV0 dc0 pm0 cd0 ct0 : Value}
    (a0 : PySem.W.nsIn K mainGlobals "parting_of" = some (some (.ref f0))) (l0 : K.lookup f0 = some ⟨oc0, od0, .func (PySem.W.fnOf "parting_of" "parting_of" (defArgs s_parting_of) (defBody s_parting_of) (defScope s_parting_of) .none kV0 dc0 pm0 an0 cd0 ct0), sl0⟩) (c0 : PySem.W.codeIn K cd0 "parting_of" = true) (k0 : PySem.W.keepIn K (.ref f0) = true)
    {f1 : Addr} {od1 an1 : Option Addr} {sl1 : Array (Option Value)} {oc1 kV1 dc1 pm1 cd1 ct1 : Value}
    (a1 : PySem.W.nsIn K mainGlobals "lot_of_parting" = some (some (.ref f1))) (l1 : K.lookup f1 = some ⟨oc1, od1, .func (PySem.W.fnOf "lot_of_parting" "lot_of_parting" (defArgs s_lot_of_parting) (defBody s_lot_of_parting) (defScope s_lot_of_parting) .none kV1 dc1 pm1 an1 cd1 ct1), sl1⟩) (c1 : PySem.W.codeIn K cd1 "lot_of_parting" = true) (k1 : PySem.W.keepIn K (.ref f1) = true)
    {f2 : Addr} {od2 an2 : Option Addr} {sl2 : Array (Option Value)} {oc2 kV2 dc2 pm2 cd2 ct2 : Value}
    (a2 : PySem.W.nsIn K mainGlobals "all_span_lots" = some (some (.ref f2))) (l2 : K.lookup f2 = some ⟨oc2, od2, .func (PySem.W.fnOf "all_span_lots" "all_span_lots" (defArgs s_all_span_lots) (defBody s_all_span_lots) (defScope s_all_span_lots) .none kV2 dc2 pm2 an2 cd2 ct2), sl2⟩) (c2 : PySem.W.codeIn K cd2 "all_span_lots" = true) (k2 : PySem.W.keepIn K (.ref f2) = true)
    {f3 : Addr} {od3 an3 : Option Addr} {sl3 : Array (Option Value)} {oc3 kV3 dc3 pm3 cd3 ct3 : Value}
    (a3 : PySem.W.nsIn K mainGlobals "codes_with" = some (some (.ref f3))) (l3 : K.lookup f3 = some ⟨oc3, od3, .func (PySem.W.fnOf "codes_with" "codes_with" (defArgs s_codes_with) (defBody s_codes_with) (defScope s_codes_with) .none kV3 dc3 pm3 an3 cd3 ct3), sl3⟩) (c3 : PySem.W.codeIn K cd3 "codes_with" = true) (k3 : PySem.W.keepIn K (.ref f3) = true)
    {f4 : Addr} {od4 an4 : Option Addr} {sl4 : Array (Option Value)} {oc4 kV4 dc4 pm4 cd4 ct4 : Value}
    (a4 : PySem.W.nsIn K mainGlobals "_law_source" = some (some (.ref f4))) (l4 : K.lookup f4 = some ⟨oc4, od4, .func (PySem.W.fnOf "_law_source" "_law_source" (defArgs s__law_source) (defBody s__law_source) (defScope s__law_source) .none kV4 dc4 pm4 an4 cd4 ct4), sl4⟩) (c4 : PySem.W.codeIn K cd4 "_law_source" = true) (k4 : PySem.W.keepIn K (.ref f4) = true)
    {f5 : Addr} {od5 an5 : Option Addr} {sl5 : Array (Option Value)} {oc5 kV5 dc5 pm5 cd5 ct5 : Value}
    (a5 : PySem.W.nsIn K mainGlobals "_law_pick" = some (some (.ref f5))) (l5 : K.lookup f5 = some ⟨oc5, od5, .func (PySem.W.fnOf "_law_pick" "_law_pick" (defArgs s__law_pick) (defBody s__law_pick) (defScope s__law_pick) .none kV5 dc5 pm5 an5 cd5 ct5), sl5⟩) (c5 : PySem.W.codeIn K cd5 "_law_pick" = true) (k5 : PySem.W.keepIn K (.ref f5) = true)
    {f6 : Addr} {od6 an6 : Option Addr} {sl6 : Array (Option Value)} {oc6 kV6 dc6 pm6 cd6 ct6 : Value}
    (a6 : PySem.W.nsIn K mainGlobals "_law_of" = some (some (.ref f6))) (l6 : K.lookup f6 = some ⟨oc6, od6, .func (PySem.W.fnOf "_law_of" "_law_of" (defArgs s__law_of) (defBody s__law_of) (defScope s__law_of) .none kV6 dc6 pm6 an6 cd6 ct6), sl6⟩) (c6 : PySem.W.codeIn K cd6 "_law_of" = true) (k6 : PySem.W.keepIn K (.ref f6) = true)
    {f7 : Addr} {od7 an7 : Option Addr} {sl7 : Array (Option Value)} {oc7 kV7 dc7 pm7 cd7 ct7 : Value}
    (a7 : PySem.W.nsIn K mainGlobals "_law_mixed" = some (some (.ref f7))) (l7 : K.lookup f7 = some ⟨oc7, od7, .func (PySem.W.fnOf "_law_mixed" "_law_mixed" (defArgs s__law_mixed) (defBody s__law_mixed) (defScope s__law_mixed) .none kV7 dc7 pm7 an7 cd7 ct7), sl7⟩) (c7 : PySem.W.codeIn K cd7 "_law_mixed" = true) (k7 : PySem.W.keepIn K (.ref f7) = true)
    {f8 : Addr} {od8 an8 : Option Addr} {sl8 : Array (Option Value)} {oc8 kV8 dc8 pm8 cd8 ct8 : Value}
    (a8 : PySem.W.nsIn K mainGlobals "_law_pairs" = some (some (.ref f8))) (l8 : K.lookup f8 = some ⟨oc8, od8, .func (PySem.W.fnOf "_law_pairs" "_law_pairs" (defArgs s__law_pairs) (defBody s__law_pairs) (defScope s__law_pairs) .none kV8 dc8 pm8 an8 cd8 ct8), sl8⟩) (c8 : PySem.W.codeIn K cd8 "_law_pairs" = true) (k8 : PySem.W.keepIn K (.ref f8) = true)
    {f9 : Addr} {od9 an9 : Option Addr} {sl9 : Array (Option Value)} {oc9 kV9 dc9 pm9 cd9 ct9 : Value}
    (a9 : PySem.W.nsIn K mainGlobals "_law_lot" = some (some (.ref f9))) (l9 : K.lookup f9 = some ⟨oc9, od9, .func (PySem.W.fnOf "_law_lot" "_law_lot" (defArgs s__law_lot) (defBody s__law_lot) (defScope s__law_lot) .none kV9 dc9 pm9 an9 cd9 ct9), sl9⟩) (c9 : PySem.W.codeIn K cd9 "_law_lot" = true) (k9 : PySem.W.keepIn K (.ref f9) = true)
    {f10 : Addr} {od10 an10 : Option Addr} {sl10 : Array (Option Value)} {oc10 kV10 dc10 pm10 cd10 ct10 : Value}
    (a10 : PySem.W.nsIn K mainGlobals "_law_free" = some (some (.ref f10))) (l10 : K.lookup f10 = some ⟨oc10, od10, .func (PySem.W.fnOf "_law_free" "_law_free" (defArgs s__law_free) (defBody s__law_free) (defScope s__law_free) .none kV10 dc10 pm10 an10 cd10 ct10), sl10⟩) (c10 : PySem.W.codeIn K cd10 "_law_free" = true) (k10 : PySem.W.keepIn K (.ref f10) = true)
    {f11 : Addr} {od11 an11 : Option Addr} {sl11 : Array (Option Value)} {oc11 kV11 dc11 pm11 cd11 ct11 : Value}
    (a11 : PySem.W.nsIn K mainGlobals "_law_parting" = some (some (.ref f11))) (l11 : K.lookup f11 = some ⟨oc11, od11, .func (PySem.W.fnOf "_law_parting" "_law_parting" (defArgs s__law_parting) (defBody s__law_parting) (defScope s__law_parting) .none kV11 dc11 pm11 an11 cd11 ct11), sl11⟩) (c11 : PySem.W.codeIn K cd11 "_law_parting" = true) (k11 : PySem.W.keepIn K (.ref f11) = true)
    {f12 : Addr} {od12 an12 : Option Addr} {sl12 : Array (Option Value)} {oc12 kV12 dc12 pm12 cd12 ct12 : Value}
    (a12 : PySem.W.nsIn K mainGlobals "_law_lot_of" = some (some (.ref f12))) (l12 : K.lookup f12 = some ⟨oc12, od12, .func (PySem.W.fnOf "_law_lot_of" "_law_lot_of" (defArgs s__law_lot_of) (defBody s__law_lot_of) (defScope s__law_lot_of) .none kV12 dc12 pm12 an12 cd12 ct12), sl12⟩) (c12 : PySem.W.codeIn K cd12 "_law_lot_of" = true) (k12 : PySem.W.keepIn K (.ref f12) = true)
    {f13 : Addr} {od13 an13 : Option Addr} {sl13 : Array (Option Value)} {oc13 kV13 dc13 pm13 cd13 ct13 : Value}
    (a13 : PySem.W.nsIn K mainGlobals "_law_partings" = some (some (.ref f13))) (l13 : K.lookup f13 = some ⟨oc13, od13, .func (PySem.W.fnOf "_law_partings" "_law_partings" (defArgs s__law_partings) (defBody s__law_partings) (defScope s__law_partings) .none kV13 dc13 pm13 an13 cd13 ct13), sl13⟩) (c13 : PySem.W.codeIn K cd13 "_law_partings" = true) (k13 : PySem.W.keepIn K (.ref f13) = true)
    {f14 : Addr} {od14 an14 : Option Addr} {sl14 : Array (Option Value)} {oc14 kV14 dc14 pm14 cd14 ct14 : Value}
    (a14 : PySem.W.nsIn K mainGlobals "_law_many" = some (some (.ref f14))) (l14 : K.lookup f14 = some ⟨oc14, od14, .func (PySem.W.fnOf "_law_many" "_law_many" (defArgs s__law_many) (defBody s__law_many) (defScope s__law_many) .none kV14 dc14 pm14 an14 cd14 ct14), sl14⟩) (c14 : PySem.W.codeIn K cd14 "_law_many" = true) (k14 : PySem.W.keepIn K (.ref f14) = true)
    {f15 : Addr} {od15 an15 : Option Addr} {sl15 : Array (Option Value)} {oc15 kV15 dc15 pm15 cd15 ct15 : Value}
    (a15 : PySem.W.nsIn K mainGlobals "law" = some (some (.ref f15))) (l15 : K.lookup f15 = some ⟨oc15, od15, .func (PySem.W.fnOf "law" "law" (defArgs s_law) (defBody s_law) (defScope s_law) .none kV15 dc15 pm15 an15 cd15 ct15), sl15⟩) (c15 : PySem.W.codeIn K cd15 "law" = true) (k15 : PySem.W.keepIn K (.ref f15) = true)
    (z_abs : PySem.W.nsIn K mainGlobals "abs" = some none)
    (z_dict : PySem.W.nsIn K mainGlobals "dict" = some none)
    (z_int : PySem.W.nsIn K mainGlobals "int" = some none)
    (z_len : PySem.W.nsIn K mainGlobals "len" = some none)
    (z_list : PySem.W.nsIn K mainGlobals "list" = some none)
    (z_max : PySem.W.nsIn K mainGlobals "max" = some none)
    (z_range : PySem.W.nsIn K mainGlobals "range" = some none)
    (z_repr : PySem.W.nsIn K mainGlobals "repr" = some none)
    (z_set : PySem.W.nsIn K mainGlobals "set" = some none)
    (z_sorted : PySem.W.nsIn K mainGlobals "sorted" = some none)
    (z_sum : PySem.W.nsIn K mainGlobals "sum" = some none)
    (z_tuple : PySem.W.nsIn K mainGlobals "tuple" = some none)
    (z_zip : PySem.W.nsIn K mainGlobals "zip" = some none)
    : ∃ fd : FuncData, (∀ (s : Shared) (v : Value), BindsTo s fd ⟨[v], []⟩ [("script", v)]) ∧ ∀ base : Heap, K.In base → base.Ns mainGlobals mg → FnG l.prog w K mg base 4 fa fd ["script"] (spLaw K) := by
  have T : Tx K mg := ⟨PySem.W.mg_none_of X G z_abs, PySem.W.mg_none_of X G z_dict, PySem.W.mg_none_of X G z_int, PySem.W.mg_none_of X G z_len, PySem.W.mg_none_of X G z_list, PySem.W.mg_none_of X G z_max, PySem.W.mg_none_of X G z_range, PySem.W.mg_none_of X G z_repr, PySem.W.mg_none_of X G z_set, PySem.W.mg_none_of X G z_sorted, PySem.W.mg_none_of X G z_sum, PySem.W.mg_none_of X G z_tuple, PySem.W.mg_none_of X G z_zip, ⟨_, _, PySem.W.mg_of X G a0, fun_mk l0 c0 k0⟩, ⟨_, _, PySem.W.mg_of X G a1, fun_mk l1 c1 k1⟩, ⟨_, _, PySem.W.mg_of X G a2, fun_mk l2 c2 k2⟩, ⟨_, _, PySem.W.mg_of X G a3, fun_mk l3 c3 k3⟩, ⟨_, _, PySem.W.mg_of X G a4, fun_mk l4 c4 k4⟩, ⟨_, _, PySem.W.mg_of X G a5, fun_mk l5 c5 k5⟩, ⟨_, _, PySem.W.mg_of X G a6, fun_mk l6 c6 k6⟩, ⟨_, _, PySem.W.mg_of X G a7, fun_mk l7 c7 k7⟩, ⟨_, _, PySem.W.mg_of X G a8, fun_mk l8 c8 k8⟩, ⟨_, _, PySem.W.mg_of X G a9, fun_mk l9 c9 k9⟩, ⟨_, _, PySem.W.mg_of X G a10, fun_mk l10 c10 k10⟩, ⟨_, _, PySem.W.mg_of X G a11, fun_mk l11 c11 k11⟩, ⟨_, _, PySem.W.mg_of X G a12, fun_mk l12 c12 k12⟩, ⟨_, _, PySem.W.mg_of X G a13, fun_mk l13 c13 k13⟩, ⟨_, _, PySem.W.mg_of X G a14, fun_mk l14 c14 k14⟩, ⟨_, _, PySem.W.mg_of X G a15, fun_mk l15 c15 k15⟩⟩
  have e := hfa.symm.trans (PySem.W.mg_of X G a15)
  cases e
  refine ⟨PySem.W.fnOf "law" "law" (defArgs s_law) (defBody s_law) (defScope s_law) .none kV15 dc15 pm15 an15 cd15 ct15, fun s v => .of_eq rfl, fun base _ _ => ?_⟩
  exact fn_law (P := l.prog) (w := w) (base := base) T (fun_mk l15 c15 k15)
end Z
open PySem PySem.W PyProof.Rows
set_option maxHeartbeats 0 in
theorem PySem.Challenge.cw_spancodes_k43_whole_spans_and_partings_holds : PySem.Challenge.rw_spancodes_k43_whole_spans_and_partings.Holds := by
  w_on; o_law; k_head; (case hw => w_witness2)
  k_fill
  refine Z.walkG (l := PySem.Challenge.rw_spancodes_k43_whole_spans_and_partings) (n := 63) (k := 4) (x := "script") (sp := Z.spLaw) rfl (Z.lim_ok (by decide)) rfl ⟨rfl, by decide, by decide⟩ (fun w h Y => PySem.W.kIn_of Y) ?F (fun K H a ns hl _ hS => ⟨a, ns, rfl, hS, hl, fun _ => rfl⟩)
  case F =>
    intro w mg fa h KX G hmg
    refine' Z.all_mk KX G hmg ?a0 ?l0 ?c0 ?k0 ?a1 ?l1 ?c1 ?k1 ?a2 ?l2 ?c2 ?k2 ?a3 ?l3 ?c3 ?k3 ?a4 ?l4 ?c4 ?k4 ?a5 ?l5 ?c5 ?k5 ?a6 ?l6 ?c6 ?k6 ?a7 ?l7 ?c7 ?k7 ?a8 ?l8 ?c8 ?k8 ?a9 ?l9 ?c9 ?k9 ?a10 ?l10 ?c10 ?k10 ?a11 ?l11 ?c11 ?k11 ?a12 ?l12 ?c12 ?k12 ?a13 ?l13 ?c13 ?k13 ?a14 ?l14 ?c14 ?k14 ?a15 ?l15 ?c15 ?k15 ?z_abs ?z_dict ?z_int ?z_len ?z_list ?z_max ?z_range ?z_repr ?z_set ?z_sorted ?z_sum ?z_tuple ?z_zip
    (case a0 => k_is)
    (case l0 => k_is)
    (case c0 => k_is)
    (case k0 => k_is)
    (case a1 => k_is)
    (case l1 => k_is)
    (case c1 => k_is)
    (case k1 => k_is)
    (case a2 => k_is)
    (case l2 => k_is)
    (case c2 => k_is)
    (case k2 => k_is)
    (case a3 => k_is)
    (case l3 => k_is)
    (case c3 => k_is)
    (case k3 => k_is)
    (case a4 => k_is)
    (case l4 => k_is)
    (case c4 => k_is)
    (case k4 => k_is)
    (case a5 => k_is)
    (case l5 => k_is)
    (case c5 => k_is)
    (case k5 => k_is)
    (case a6 => k_is)
    (case l6 => k_is)
    (case c6 => k_is)
    (case k6 => k_is)
    (case a7 => k_is)
    (case l7 => k_is)
    (case c7 => k_is)
    (case k7 => k_is)
    (case a8 => k_is)
    (case l8 => k_is)
    (case c8 => k_is)
    (case k8 => k_is)
    (case a9 => k_is)
    (case l9 => k_is)
    (case c9 => k_is)
    (case k9 => k_is)
    (case a10 => k_is)
    (case l10 => k_is)
    (case c10 => k_is)
    (case k10 => k_is)
    (case a11 => k_is)
    (case l11 => k_is)
    (case c11 => k_is)
    (case k11 => k_is)
    (case a12 => k_is)
    (case l12 => k_is)
    (case c12 => k_is)
    (case k12 => k_is)
    (case a13 => k_is)
    (case l13 => k_is)
    (case c13 => k_is)
    (case k13 => k_is)
    (case a14 => k_is)
    (case l14 => k_is)
    (case c14 => k_is)
    (case k14 => k_is)
    (case a15 => k_is)
    (case l15 => k_is)
    (case c15 => k_is)
    (case k15 => k_is)
    (case z_abs => k_is)
    (case z_dict => k_is)
    (case z_int => k_is)
    (case z_len => k_is)
    (case z_list => k_is)
    (case z_max => k_is)
    (case z_range => k_is)
    (case z_repr => k_is)
    (case z_set => k_is)
    (case z_sorted => k_is)
    (case z_sum => k_is)
    (case z_tuple => k_is)
    (case z_zip => k_is)
