import PyProof.Rows.All
import Wide.All
import OpenK.AllK
import Wide.FinOn
import HandS.ForMost
import HandS.Walk
import HandS.TupAny
import HandS.TupMul
import HandS.NoneIn
import HandS.Iter
import HandS.Ends
import HandS.Style
import HandS.Conv
import HandS.Deep
import HandS.SortKw
import HandS.Zip
import HandS.Star
import HandS.IsInst
import HandS.Dict
import HandS.Finally
import HandS.WideBits
import HandS.SetKeys
import HandS.Sort
import HandS.RepeatKit
import HandS.More
import HandS.Text
import KE.KeyNested
import KE.DataEq
import KE.DataCmp
import KE.GoesEnum
import KE.GoesMore
import KE.KIndexOf
import KE.SortData
import KE.GoesEnumKw
import KE.KTupSum
import KE.KDictKeyed
import KE.KDictSum
import KE.KDictCopyH
import KE.DataMinMax
import KE.KBits
import KE.KDictWalk
import PyProof.ReprRoads
import PyProof.ReprLen
import PyProof.Rows.RowBridgeK
import PyProof.Rows.SetFrom
import PySem.Challenge.RW_spancodes_k41_span_lots
set_option Elab.async false
set_option linter.all false
set_option maxRecDepth 100000
set_option maxHeartbeats 2000000
/-! Z0: data over the layer. A value stands for PyData with the addresses of its lists; an environment of such; readings of expressions and statements as predicates over environments of data. -/
namespace Z
open PySem L2
abbrev D := PyData
/-- the datum that stands for the law's source -/
def srcD : D := .dict [(.none, .none)]
def isSrc : List (D × D) → Bool
  | [(.none, .none)] => true
  | _ => false
/-- a list that never changes any more: its marked entries -/
def isFrz : List (D × D) → Bool
  | (.bool true, .none) :: _ => true
  | _ => false
def frzK (ds : List D) : List (D × D) := (.bool true, .none) :: ds.map fun d => (.bool true, d)
/-- the datum that stands for a list that never changes any more -/
def frzD (ds : List D) : D := .dict (frzK ds)
theorem frzK_is (ds : List D) : isSrc (frzK ds) = false ∧ isFrz (frzK ds) = true := ⟨by cases ds <;> rfl, rfl⟩
/-- a dict that never changes any more: a mark, then its keys and values -/
def isFrd : List (D × D) → Bool
  | (.bool false, .none) :: _ => true
  | _ => false
def frdK (kvs : List (D × D)) : List (D × D) := (.bool false, .none) :: kvs
def frdD (kvs : List (D × D)) : D := .dict (frdK kvs)
theorem frdK_is (kvs : List (D × D)) : isSrc (frdK kvs) = false ∧ isFrz (frdK kvs) = false ∧ isFrd (frdK kvs) = true := ⟨by cases kvs <;> rfl, rfl, rfl⟩
/-- the program's written part; the addresses of the source's dict and of its list of cells -/
structure Zc where
  K : PySem.W.Frag
  S : Option (Addr × Addr)
def Zc.has (c : Zc) (a : Addr) : Prop := ∃ p, c.S = some p ∧ (a = p.1 ∨ a = p.2)
/-- a key of a dict -/
def keyD : Key → D
  | .inl i => .int i
  | .inr x => .str x
/-! ### keys that are tuples -/
mutual
/-- what a key tells ==: whole numbers, None, tuples of such -/
def nkey : D → Option NestedKey
  | .none => some .none
  | .int i => some (.num i)
  | .tuple xs => (nkeys xs).map .tup
  | .bool _ => none
  | .str _ => none
  | .list _ => none
  | .dict _ => none
def nkeys : List D → Option (List NestedKey)
  | [] => some []
  | x :: xs => match nkey x, nkeys xs with
    | some k, some ks => some (k :: ks)
    | _, _ => none
end
mutual
/-- the hash of a key without texts -/
def hk : NestedKey → Int
  | .none => reduceHash 0xFCA86420
  | .num i => hashInt i
  | .text _ => 0
  | .tup ks => reduceHash (Builtin.Tuple.tupleHashOf (hks ks))
def hks : List NestedKey → List Int
  | [] => []
  | k :: ks => hk k :: hks ks
end
/-- a row of such a dict: the key, where its tuple stands, the value -/
abbrev Row := NestedKey × Addr × V
def RowIs (r : Row) (e : DictEntry) : Prop := e.hash = hk r.1 ∧ e.key = .ref r.2.1 ∧ RelV r.2.2 e.val
/-- a dict whose keys are tuples -/
def dX (a : Addr) (rows : List Row) : HO := .ext fun h => (a == sysModules) = false ∧ rows.length ≤ 10000000 ∧ ∃ o es ep, h.get? a = some o ∧ o.ExactDict ∧ o.data = .dict es ep ∧ Paired RowIs rows es.toList
/-- a dict's object, by its keys and values -/
def DictU (a : Addr) (ks : List D) (ys xs : List V) (u : HO) : Prop :=
  (∃ kk : List Key, ks = kk.map keyD ∧ kk.Nodup ∧ xs.length = kk.length ∧ u = .dK (kk.zip xs)) ∨
  ∃ rows : List Row, rows ≠ [] ∧ ks.map nkey = rows.map (fun r => some r.1) ∧ (∀ r ∈ rows, r.1.depth ≤ 8 ∧ ∃ l, r.1 = .tup l) ∧ ys = rows.map (fun r => .ref r.2.1) ∧ xs = rows.map (fun r => r.2.2) ∧ (rows.map (·.1)).Nodup ∧ u = dX a rows
theorem DictU.not_fix {a : Addr} {ks : List D} {ys xs : List V} {u : HO} (h : DictU a ks ys xs u) : Mut (some u) ∧ (∀ zs, u ≠ .tup zs) ∧ ∀ o z, u ≠ .frz o z := by
  rcases h with ⟨_, _, _, _, rfl⟩ | ⟨_, _, _, _, _, _, _, rfl⟩
  · exact ⟨trivial, fun _ => nofun, fun _ _ => nofun⟩
  · exact ⟨trivial, fun _ => nofun, fun _ _ => nofun⟩
/-- a tuple that has no dict of its own: it stands as a known object -/
def SqD (K : PySem.W.Frag) (H : Hp) (a : Addr) (xs : List V) : Prop :=
  (∃ o, H a = some (.frz o (.tup xs)) ∧ o.dict = none) ∨
    ∃ (o : Obj) (its : Array Value) (n : Nat), K.lookup a = some o ∧ o.cls = .type "tuple" ∧ o.dict = none ∧ o.data = .seq its n ∧ its.size ≤ sizeLine ∧ Vals xs its.toList
theorem SqD.t {K : PySem.W.Frag} {H : Hp} {a : Addr} {xs : List V} (h : SqD K H a xs) : SqT K H a xs := by
  rcases h with ⟨o, h, _⟩ | ⟨o, its, n, h1, h2, _, h4, h5, h6⟩
  · exact .inl (.inr ⟨o, h⟩)
  · exact .inr ⟨o, its, n, h1, h2, h4, h5, h6⟩
theorem SqD.new {K : PySem.W.Frag} {H : Hp} {a : Addr} {xs : List V} {o : Obj} (e : o.dict = none) : SqD K (upd H a (.frz o (.tup xs))) a xs := .inl ⟨o, upd_same, e⟩
/-! ### a value that stands for a datum; the addresses of its lists and dicts -/
mutual
def Rp (c : Zc) (H : Hp) : D → V → List Addr → Prop
  | .none, v, fp => v = .non ∧ fp = []
  | .bool b, v, fp => v = .bl b ∧ fp = []
  | .int i, v, fp => v = .int i ∧ fp = []
  | .str x, v, fp => v = .str x ∧ fp = []
  | .list ds, v, fp => ∃ a xs gp, v = .ref a ∧ fp = a :: gp ∧ H a = some (.lst xs) ∧ Rps c H ds xs gp
  | .tuple ds, v, fp => ∃ a xs, v = .ref a ∧ SqD c.K H a xs ∧ Rps c H ds xs fp
  | .dict kvs, v, fp => if isSrc kvs = true then ∃ p, c.S = some p ∧ v = .ref p.1 ∧ fp = []
      else if isFrz kvs = true then ∃ a y0 x0 ys xs, v = .ref a ∧ fp = [] ∧ (∃ o, H a = some (.frz o (.lst xs))) ∧ Rpk c H kvs (y0 :: ys) (x0 :: xs) []
      else if isFrd kvs = true then ∃ a y0 x0 ys xs, v = .ref a ∧ fp = [] ∧ (∃ o u, H a = some (.frz o u) ∧ DictU a (kvs.tail.map (·.1)) ys xs u) ∧ Rpk c H kvs (y0 :: ys) (x0 :: xs) []
      else ∃ a ys xs gp, v = .ref a ∧ fp = a :: gp ∧ Rpk c H kvs ys xs gp ∧ ∃ u, H a = some u ∧ DictU a (kvs.map (·.1)) ys xs u
def Rps (c : Zc) (H : Hp) : List D → List V → List Addr → Prop
  | [], xs, fp => xs = [] ∧ fp = []
  | d :: ds, xs, fp => ∃ x ys f1 f2, xs = x :: ys ∧ fp = f1 ++ f2 ∧ Rp c H d x f1 ∧ Rps c H ds ys f2
def Rpk (c : Zc) (H : Hp) : List (D × D) → List V → List V → List Addr → Prop
  | [], ys, xs, fp => ys = [] ∧ xs = [] ∧ fp = []
  | (k, d) :: r, ys, xs, fp => ∃ y ys' x xs' f1 f2, ys = y :: ys' ∧ xs = x :: xs' ∧ fp = f1 ++ f2 ∧ Rp c H k y [] ∧ Rp c H d x f1 ∧ Rpk c H r ys' xs' f2
end
mutual
/-- no list and no dict in it -/
def solid : D → Bool
  | .none | .bool _ | .int _ | .str _ => true
  | .list _ => false
  | .dict kvs => !isSrc kvs && (isFrz kvs || isFrd kvs)
  | .tuple xs => solids xs
def solids : List D → Bool
  | [] => true
  | x :: xs => solid x && solids xs
end
/-- what never changes -/
def Fix : HO → Prop
  | .tup _ => True
  | .frz _ _ => True
  | _ => False
def Tk (H H' : Hp) : Prop := ∀ a o, H a = some o → Fix o → H' a = some o
theorem Tk.sq {K : PySem.W.Frag} {H H' : Hp} {a : Addr} {xs : List V} (t : Tk H H') (h : SqT K H a xs) : SqT K H' a xs := by
  rcases h with (h | ⟨o, h⟩) | h
  · exact .inl (.inl (t _ _ h trivial))
  · exact .inl (.inr ⟨o, t _ _ h trivial⟩)
  · exact .inr h
theorem Tk.sqd {K : PySem.W.Frag} {H H' : Hp} {a : Addr} {xs : List V} (t : Tk H H') (h : SqD K H a xs) : SqD K H' a xs := by
  rcases h with ⟨o, h, e⟩ | h
  · exact .inl ⟨o, t _ _ h trivial, e⟩
  · exact .inr h
theorem Tk.refl (H : Hp) : Tk H H := fun _ _ h _ => h
theorem Tk.trans {H H1 H2 : Hp} (a : Tk H H1) (b : Tk H1 H2) : Tk H H2 := fun x o h f => b x o (a x o h f) f
section
variable {c : Zc} {H H' : Hp}
mutual
theorem Rp.mono (t : Tk H H') : ∀ (d : D) (v : V) (fp : List Addr), Rp c H d v fp → (∀ a ∈ fp, H' a = H a) → Rp c H' d v fp
  | .none, _, _, h, _ => by simp only [Rp] at h ⊢; exact h
  | .bool b, _, _, h, _ => by simp only [Rp] at h ⊢; exact h
  | .int i, _, _, h, _ => by simp only [Rp] at h ⊢; exact h
  | .str x, _, _, h, _ => by simp only [Rp] at h ⊢; exact h
  | .list ds, v, fp, h, k => by
    simp only [Rp] at h ⊢
    obtain ⟨a, xs, gp, rfl, rfl, h1, h2⟩ := h
    exact ⟨a, xs, gp, rfl, rfl, by rw [k a (List.mem_cons_self ..)]; exact h1, Rps.mono t ds xs gp h2 fun b hb => k b (List.mem_cons_of_mem _ hb)⟩
  | .tuple ds, v, fp, h, k => by
    simp only [Rp] at h ⊢
    obtain ⟨a, xs, rfl, h1, h2⟩ := h
    exact ⟨a, xs, rfl, t.sqd h1, Rps.mono t ds xs fp h2 k⟩
  | .dict kvs, v, fp, h, k => by
    simp only [Rp] at h ⊢
    split
    · rename_i hs
      rw [if_pos hs] at h
      exact h
    · rename_i hs
      rw [if_neg hs] at h
      split
      · rename_i hf
        rw [if_pos hf] at h
        obtain ⟨a, y0, x0, ys, xs, rfl, rfl, ⟨o, ho⟩, h1⟩ := h
        exact ⟨a, y0, x0, ys, xs, rfl, rfl, ⟨o, t a _ ho trivial⟩, Rpk.mono t kvs (y0 :: ys) (x0 :: xs) [] h1 k⟩
      rename_i hf
      rw [if_neg hf] at h
      split
      · rename_i hd
        rw [if_pos hd] at h
        obtain ⟨a, y0, x0, ys, xs, rfl, rfl, ⟨o, u, ho, hu⟩, h1⟩ := h
        exact ⟨a, y0, x0, ys, xs, rfl, rfl, ⟨o, u, t a _ ho trivial, hu⟩, Rpk.mono t kvs (y0 :: ys) (x0 :: xs) [] h1 k⟩
      rename_i hd
      rw [if_neg hd] at h
      obtain ⟨a, ys, xs, gp, rfl, rfl, h1, u, hu, hd⟩ := h
      exact ⟨a, ys, xs, gp, rfl, rfl, Rpk.mono t kvs ys xs gp h1 fun b hb => k b (List.mem_cons_of_mem _ hb), u, by rw [k a (List.mem_cons_self ..)]; exact hu, hd⟩
theorem Rps.mono (t : Tk H H') : ∀ (ds : List D) (xs : List V) (fp : List Addr), Rps c H ds xs fp → (∀ a ∈ fp, H' a = H a) → Rps c H' ds xs fp
  | [], _, _, h, _ => by simp only [Rps] at h ⊢; exact h
  | d :: ds, xs, fp, h, k => by
    simp only [Rps] at h ⊢
    obtain ⟨x, ys, f1, f2, rfl, rfl, h1, h2⟩ := h
    exact ⟨x, ys, f1, f2, rfl, rfl, Rp.mono t d x f1 h1 fun a ha => k a (List.mem_append_left _ ha), Rps.mono t ds ys f2 h2 fun a ha => k a (List.mem_append_right _ ha)⟩
theorem Rpk.mono (t : Tk H H') : ∀ (ds : List (D × D)) (ys xs : List V) (fp : List Addr), Rpk c H ds ys xs fp → (∀ a ∈ fp, H' a = H a) → Rpk c H' ds ys xs fp
  | [], _, _, _, h, _ => by simp only [Rpk] at h ⊢; exact h
  | (e, d) :: ds, ys, xs, fp, h, k => by
    simp only [Rpk] at h ⊢
    obtain ⟨y, ys', x, xs', f1, f2, rfl, rfl, rfl, h0, h1, h2⟩ := h
    exact ⟨y, ys', x, xs', f1, f2, rfl, rfl, rfl, Rp.mono t e y [] h0 (fun a ha => by cases ha), Rp.mono t d x f1 h1 fun a ha => k a (List.mem_append_left _ ha), Rpk.mono t ds ys' xs' f2 h2 fun a ha => k a (List.mem_append_right _ ha)⟩
end
mutual
theorem Rp.there : ∀ (d : D) (v : V) (fp : List Addr), Rp c H d v fp → ∀ a ∈ fp, ∃ o, H a = some o ∧ ¬ Fix o
  | .none, _, _, h => by simp only [Rp] at h; rw [h.2]; intro a ha; cases ha
  | .bool b, _, _, h => by simp only [Rp] at h; rw [h.2]; intro a ha; cases ha
  | .int i, _, _, h => by simp only [Rp] at h; rw [h.2]; intro a ha; cases ha
  | .str x, _, _, h => by simp only [Rp] at h; rw [h.2]; intro a ha; cases ha
  | .list ds, v, fp, h => by
    simp only [Rp] at h
    obtain ⟨a, xs, gp, rfl, rfl, h1, h2⟩ := h
    intro b hb
    rcases List.mem_cons.mp hb with rfl | hb
    · exact ⟨_, h1, id⟩
    · exact Rps.there ds xs gp h2 b hb
  | .tuple ds, v, fp, h => by
    simp only [Rp] at h
    obtain ⟨a, xs, rfl, h1, h2⟩ := h
    exact Rps.there ds xs fp h2
  | .dict kvs, v, fp, h => by
    simp only [Rp] at h
    split at h
    · obtain ⟨p, _, _, e⟩ := h
      rw [e]; intro a ha; cases ha
    split at h
    · obtain ⟨a, y0, x0, ys, xs, _, e, _⟩ := h
      rw [e]; intro a ha; cases ha
    split at h
    · obtain ⟨a, y0, x0, ys, xs, _, e, _⟩ := h
      rw [e]; intro a ha; cases ha
    · obtain ⟨a, ys, xs, gp, rfl, rfl, h1, u, e4, hu⟩ := h
      intro b hb
      rcases List.mem_cons.mp hb with rfl | hb
      · obtain ⟨_, n1, n2⟩ := hu.not_fix
        refine ⟨_, e4, fun hz => ?_⟩
        cases u with
        | tup zs => exact n1 zs rfl
        | frz o z => exact n2 o z rfl
        | _ => exact hz
      · exact Rpk.there kvs ys xs gp h1 b hb
theorem Rps.there : ∀ (ds : List D) (xs : List V) (fp : List Addr), Rps c H ds xs fp → ∀ a ∈ fp, ∃ o, H a = some o ∧ ¬ Fix o
  | [], _, _, h => by simp only [Rps] at h; rw [h.2]; intro a ha; cases ha
  | d :: ds, xs, fp, h => by
    simp only [Rps] at h
    obtain ⟨x, ys, f1, f2, rfl, rfl, h1, h2⟩ := h
    intro a ha
    rcases List.mem_append.mp ha with ha | ha
    · exact Rp.there d x f1 h1 a ha
    · exact Rps.there ds ys f2 h2 a ha
theorem Rpk.there : ∀ (ds : List (D × D)) (ys xs : List V) (fp : List Addr), Rpk c H ds ys xs fp → ∀ a ∈ fp, ∃ o, H a = some o ∧ ¬ Fix o
  | [], _, _, _, h => by simp only [Rpk] at h; rw [h.2.2]; intro a ha; cases ha
  | (_, d) :: ds, ys, xs, fp, h => by
    simp only [Rpk] at h
    obtain ⟨y, ys', x, xs', f1, f2, rfl, rfl, rfl, h0, h1, h2⟩ := h
    intro a ha
    rcases List.mem_append.mp ha with ha | ha
    · exact Rp.there d x f1 h1 a ha
    · exact Rpk.there ds ys' xs' f2 h2 a ha
end
mutual
theorem Rp.solid : ∀ (d : D) (v : V) (fp : List Addr), Rp c H d v fp → solid d = true → fp = []
  | .none, _, _, h, _ => by simp only [Rp] at h; exact h.2
  | .bool b, _, _, h, _ => by simp only [Rp] at h; exact h.2
  | .int i, _, _, h, _ => by simp only [Rp] at h; exact h.2
  | .str x, _, _, h, _ => by simp only [Rp] at h; exact h.2
  | .list ds, v, fp, h, s => by simp [Z.solid] at s
  | .tuple ds, v, fp, h, s => by
    simp only [Rp] at h
    simp only [Z.solid] at s
    obtain ⟨a, xs, rfl, h1, h2⟩ := h
    exact Rps.solid ds xs fp h2 s
  | .dict kvs, v, fp, h, s => by
    simp only [Z.solid, Bool.and_eq_true, Bool.not_eq_true', Bool.or_eq_true] at s
    simp only [Rp] at h
    rw [if_neg (by rw [s.1]; simp)] at h
    split at h
    · obtain ⟨a, y0, x0, ys, xs, _, e, _⟩ := h
      exact e
    · rename_i hf
      rw [if_pos (s.2.resolve_left hf)] at h
      obtain ⟨a, y0, x0, ys, xs, _, e, _⟩ := h
      exact e
theorem Rps.solid : ∀ (ds : List D) (xs : List V) (fp : List Addr), Rps c H ds xs fp → solids ds = true → fp = []
  | [], _, _, h, _ => by simp only [Rps] at h; exact h.2
  | d :: ds, xs, fp, h, s => by
    simp only [Rps] at h
    simp only [Z.solids, Bool.and_eq_true] at s
    obtain ⟨x, ys, f1, f2, rfl, rfl, h1, h2⟩ := h
    rw [Rp.solid d x f1 h1 s.1, Rps.solid ds ys f2 h2 s.2]
    rfl
end
theorem Rps.len : ∀ {ds : List D} {xs : List V} {fp : List Addr}, Rps c H ds xs fp → xs.length = ds.length
  | [], _, _, h => by simp only [Rps] at h; rw [h.1]; rfl
  | d :: ds, xs, fp, h => by
    simp only [Rps] at h
    obtain ⟨x, ys, f1, f2, rfl, rfl, h1, h2⟩ := h
    rw [List.length_cons, List.length_cons, Rps.len h2]
/-- the i-th one -/
theorem Rps.at : ∀ {ds : List D} {xs : List V} {fp : List Addr} {i : Nat} {d : D}, Rps c H ds xs fp → ds[i]? = some d → ∃ x gp, xs[i]? = some x ∧ Rp c H d x gp ∧ (∀ a ∈ gp, a ∈ fp) ∧ (fp.Nodup → gp.Nodup)
  | [], _, _, _, _, _, e => by simp at e
  | d :: ds, xs, fp, 0, d', h, e => by
    simp only [Rps] at h
    obtain ⟨x, ys, f1, f2, rfl, rfl, h1, h2⟩ := h
    simp only [List.getElem?_cons_zero, Option.some.injEq] at e
    subst e
    exact ⟨x, f1, rfl, h1, fun a ha => List.mem_append_left _ ha, fun n => (List.nodup_append.mp n).1⟩
  | d :: ds, xs, fp, i + 1, d', h, e => by
    simp only [Rps] at h
    obtain ⟨x, ys, f1, f2, rfl, rfl, h1, h2⟩ := h
    obtain ⟨y, gp, e1, e2, e3, e4⟩ := Rps.at (i := i) h2 (by simpa using e)
    exact ⟨y, gp, by simpa using e1, e2, fun a ha => List.mem_append_right _ (e3 a ha), fun n => e4 (List.nodup_append.mp n).2.1⟩
theorem Rps.app : ∀ {ds es : List D} {xs ys : List V} {fp gp : List Addr}, Rps c H ds xs fp → Rps c H es ys gp → Rps c H (ds ++ es) (xs ++ ys) (fp ++ gp)
  | [], es, xs, ys, fp, gp, h, k => by
    simp only [Rps] at h
    rw [h.1, h.2]
    exact k
  | d :: ds, es, xs, ys, fp, gp, h, k => by
    simp only [Rps] at h
    obtain ⟨x, zs, f1, f2, rfl, rfl, h1, h2⟩ := h
    simp only [List.cons_append, List.append_assoc]
    simp only [Rps]
    exact ⟨x, zs ++ ys, f1, f2 ++ gp, rfl, rfl, h1, Rps.app h2 k⟩
theorem Rps.nil : Rps c H [] [] [] := by simp [Rps]
theorem rpk_frz {k : D} : ∀ {ds : List D} {ys xs : List V} {fp : List Addr}, Rpk c H (ds.map fun d => (k, d)) ys xs fp → Rps c H ds xs fp
  | [], ys, xs, fp, h => by
    simp only [List.map_nil, Rpk] at h
    simp only [Rps]
    exact h.2
  | d :: ds, ys, xs, fp, h => by
    simp only [List.map_cons, Rps, Rpk] at h ⊢
    obtain ⟨y, ys', x, xs', f1, f2, rfl, rfl, rfl, h0, h1, h2⟩ := h
    exact ⟨x, xs', f1, f2, rfl, rfl, h1, rpk_frz h2⟩
theorem frz_rpk {k : D} {y : V} (hk : Rp c H k y []) : ∀ {ds : List D} {xs : List V} {fp : List Addr}, Rps c H ds xs fp → Rpk c H (ds.map fun d => (k, d)) (ds.map fun _ => y) xs fp
  | [], xs, fp, h => by
    simp only [Rps] at h
    simp only [List.map_nil, Rpk]
    exact ⟨trivial, h⟩
  | d :: ds, xs, fp, h => by
    simp only [List.map_cons, Rps, Rpk] at h ⊢
    obtain ⟨x, xs', f1, f2, rfl, rfl, h1, h2⟩ := h
    exact ⟨y, _, x, xs', f1, f2, rfl, rfl, rfl, hk, h1, frz_rpk hk h2⟩
theorem rp_frz {ds : List D} {v : V} {fp : List Addr} : Rp c H (frzD ds) v fp ↔ ∃ a xs, v = .ref a ∧ fp = [] ∧ (∃ o, H a = some (.frz o (.lst xs))) ∧ Rps c H ds xs [] := by
  unfold frzD
  simp only [Rp]
  rw [if_neg (by rw [(frzK_is ds).1]; simp), if_pos (frzK_is ds).2]
  constructor
  · rintro ⟨a, y0, x0, ys, xs, rfl, rfl, ho, h⟩
    simp only [frzK, Rpk, Rp] at h
    obtain ⟨y, ys', x, xs', f1, f2, e0, e1, e2, h0, ⟨rfl, rfl⟩, h2⟩ := h
    obtain ⟨rfl, rfl⟩ := List.cons.inj e1
    obtain rfl : f2 = [] := by simpa using e2.symm
    exact ⟨a, _, rfl, rfl, ho, rpk_frz h2⟩
  · rintro ⟨a, xs, rfl, rfl, ho, h⟩
    refine ⟨a, .bl true, .non, ds.map fun _ => .bl true, xs, rfl, rfl, ho, ?_⟩
    simp only [frzK, Rpk]
    exact ⟨_, _, _, _, [], [], rfl, rfl, rfl, by simp [Rp], by simp [Rp], frz_rpk (by simp [Rp]) h⟩
/-- a dict that never changes any more -/
theorem rp_frd {kvs : List (D × D)} {v : V} {fp : List Addr} : Rp c H (frdD kvs) v fp ↔ ∃ a ys xs, v = .ref a ∧ fp = [] ∧ (∃ o u, H a = some (.frz o u) ∧ DictU a (kvs.map (·.1)) ys xs u) ∧ Rpk c H kvs ys xs [] := by
  unfold frdD
  simp only [Rp]
  rw [if_neg (by rw [(frdK_is kvs).1]; simp), if_neg (by rw [(frdK_is kvs).2.1]; simp), if_pos (frdK_is kvs).2.2]
  constructor
  · rintro ⟨a, y0, x0, ys, xs, rfl, rfl, ho, h⟩
    simp only [frdK, Rpk, Rp] at h
    obtain ⟨y, ys', x, xs', f1, f2, e0, e1, e2, h0, ⟨rfl, rfl⟩, h2⟩ := h
    obtain ⟨rfl, rfl⟩ := List.cons.inj e1
    obtain ⟨rfl, rfl⟩ := List.cons.inj e0
    obtain rfl : f2 = [] := by simpa using e2.symm
    exact ⟨a, _, _, rfl, rfl, ho, h2⟩
  · rintro ⟨a, ys, xs, rfl, rfl, ho, h⟩
    refine ⟨a, .bl false, .non, ys, xs, rfl, rfl, ho, ?_⟩
    simp only [frdK, Rpk]
    exact ⟨_, _, _, _, [], [], rfl, rfl, rfl, by simp [Rp], by simp [Rp], h⟩
theorem solid_frd (kvs : List (D × D)) : Z.solid (frdD kvs) = true := by
  unfold frdD
  simp only [Z.solid, (frdK_is kvs).1, (frdK_is kvs).2.2]
  simp
theorem solid_frz (ds : List D) : Z.solid (frzD ds) = true := by
  unfold frzD
  simp only [Z.solid, (frzK_is ds).1, (frzK_is ds).2]
  simp
theorem Rps.cons {d : D} {ds : List D} {x : V} {xs : List V} {fp gp : List Addr} (h : Rp c H d x fp) (k : Rps c H ds xs gp) : Rps c H (d :: ds) (x :: xs) (fp ++ gp) := by
  simp only [Rps]; exact ⟨x, xs, fp, gp, rfl, rfl, h, k⟩
theorem Rps.one {d : D} {x : V} {fp : List Addr} (h : Rp c H d x fp) : Rps c H [d] [x] fp := by
  have := Rps.cons h (Rps.nil (c := c) (H := H))
  rwa [List.append_nil] at this
end
/-! ### the source -/
/-- the source's own objects -/
def SrcAt (c : Zc) (H : Hp) : Prop := ∀ p, c.S = some p → p.1 ≠ p.2 ∧ ∃ (ns : List Int) (l m t : Int), ns.length ≤ 63 ∧ (∀ n ∈ ns, 0 ≤ n) ∧ 0 ≤ l ∧ 0 ≤ m ∧ m < 2147483648 ∧ 0 ≤ t ∧
  H p.1 = some (.dK [(Sum.inr "cells", .ref p.2), (Sum.inr "left", .int l), (Sum.inr "mixed", .int m), (Sum.inr "turn", .int t)]) ∧ H p.2 = some (.lst (ns.map V.int))
/-- all that was tracked is as it was, but the source -/
def Ext (c : Zc) (H H' : Hp) : Prop := ∀ a o, H a = some o → ¬ c.has a → H' a = some o
theorem Ext.refl (c : Zc) (H : Hp) : Ext c H H := fun _ _ h _ => h
theorem Ext.trans {c : Zc} {H H1 H2 : Hp} (a : Ext c H H1) (b : Ext c H1 H2) : Ext c H H2 := fun x o h n => b x o (a x o h n) n
theorem Ext.new {c : Zc} {H : Hp} {p : Addr} {o : HO} (h : H p = none) : Ext c H (upd H p o) := fun a u e _ => by
  rw [upd_ne (ne_of_none e h)]
  exact e
theorem Ext.free {c : Zc} {H H' : Hp} (e : Ext c H H') {p : Addr} (h : H' p = none) (n : ¬ c.has p) : H p = none := by
  cases q : H p with
  | none => rfl
  | some o =>
    rw [e p o q n] at h
    cases h
theorem SrcAt.not_fix {c : Zc} {H : Hp} (s : SrcAt c H) {a : Addr} {o : HO} (h : H a = some o) (f : Fix o) : ¬ c.has a := by
  rintro ⟨p, hp, e⟩
  obtain ⟨_, ns, l, m, t, _, _, _, _, _, _, h1, h2⟩ := s p hp
  rcases e with rfl | rfl
  · rw [h1] at h; cases h; exact f
  · rw [h2] at h; cases h; exact f
theorem Ext.tk {c : Zc} {H H' : Hp} (e : Ext c H H') (s : SrcAt c H) : Tk H H' := fun a o h f => e a o h (s.not_fix h f)
theorem SrcAt.there {c : Zc} {H : Hp} (s : SrcAt c H) {a : Addr} (h : c.has a) : ∃ o, H a = some o := by
  obtain ⟨p, hp, e⟩ := h
  obtain ⟨_, ns, l, m, t, _, _, _, _, _, _, h1, h2⟩ := s p hp
  rcases e with rfl | rfl
  · exact ⟨_, h1⟩
  · exact ⟨_, h2⟩
theorem SrcAt.fresh {c : Zc} {H : Hp} (s : SrcAt c H) {a : Addr} (h : H a = none) : ¬ c.has a := fun k => by
  obtain ⟨o, e⟩ := s.there k
  rw [h] at e; cases e
theorem SrcAt.new {c : Zc} {H : Hp} (s : SrcAt c H) {a : Addr} {o : HO} (h : H a = none) : SrcAt c (upd H a o) := fun p hp => by
  obtain ⟨n, ns, l, m, t, a1, a2, a3, a4, a5, a6, h1, h2⟩ := s p hp
  exact ⟨n, ns, l, m, t, a1, a2, a3, a4, a5, a6, by rw [upd_ne (ne_of_none h1 h)]; exact h1, by rw [upd_ne (ne_of_none h2 h)]; exact h2⟩
/-- an own list or dict is changed -/
theorem SrcAt.own {c : Zc} {H : Hp} (s : SrcAt c H) {a : Addr} {o : HO} (h : ¬ c.has a) : SrcAt c (upd H a o) := fun p hp => by
  obtain ⟨n, ns, l, m, t, a1, a2, a3, a4, a5, a6, h1, h2⟩ := s p hp
  exact ⟨n, ns, l, m, t, a1, a2, a3, a4, a5, a6, by rw [upd_ne (fun z => h ⟨p, hp, .inl z.symm⟩)]; exact h1, by rw [upd_ne (fun z => h ⟨p, hp, .inr z.symm⟩)]; exact h2⟩
/-- no address of the source's -/
def NoS (c : Zc) (fp : List Addr) : Prop := ∀ a ∈ fp, ¬ c.has a
theorem Rp.ext {c : Zc} {H H' : Hp} {d : D} {v : V} {fp : List Addr} (h : Rp c H d v fp) (n : NoS c fp) (e : Ext c H H') (s : SrcAt c H) : Rp c H' d v fp :=
  h.mono (e.tk s) _ _ _ fun a ha => by
    obtain ⟨o, ho, _⟩ := h.there _ _ _ a ha
    rw [ho]
    exact e a o ho (n a ha)
theorem Rps.ext {c : Zc} {H H' : Hp} {d : List D} {v : List V} {fp : List Addr} (h : Rps c H d v fp) (n : NoS c fp) (e : Ext c H H') (s : SrcAt c H) : Rps c H' d v fp :=
  h.mono (e.tk s) _ _ _ fun a ha => by
    obtain ⟨o, ho, _⟩ := h.there _ _ _ a ha
    rw [ho]
    exact e a o ho (n a ha)
/-! ### environments -/
inductive Sl where
  | unk | val (d : D) | own (d : D)
abbrev En := List Sl
def SlotOk (c : Zc) (G H : Hp) : Sl → Option (Option V) → List Addr → Prop
  | .unk, _, fp => fp = []
  | .val d, o, fp => ∃ v, o = some (some v) ∧ Rp c H d v fp ∧ NoS c fp
  | .own d, o, fp => ∃ v, o = some (some v) ∧ Rp c H d v fp ∧ NoS c fp ∧ fp.Nodup ∧ ∀ a ∈ fp, G a = none
def isOwn : Option Sl → Prop
  | some (.own _) => True
  | _ => False
structure EnvAt (c : Zc) (G H : Hp) (ρ : En) (σ : L2.St) (fps : Nat → List Addr) : Prop where
  len : σ.length = ρ.length
  ext : Ext c G H
  src : SrcAt c H
  ok : ∀ i s, ρ[i]? = some s → SlotOk c G H s σ[i]? (fps i)
  sep : ∀ i j, i ≠ j → i < ρ.length → j < ρ.length → isOwn ρ[i]? → ∀ a ∈ fps i, a ∉ fps j
theorem SlotOk.there {c : Zc} {G H : Hp} {s : Sl} {o : Option (Option V)} {fp : List Addr} (h : SlotOk c G H s o fp) : ∀ a ∈ fp, ∃ u, H a = some u ∧ ¬ Fix u := by
  cases s with
  | unk =>
    have e : fp = [] := h
    rw [e]; intro a ha; cases ha
  | val d => obtain ⟨v, _, h1, _⟩ := h; exact h1.there
  | own d => obtain ⟨v, _, h1, _⟩ := h; exact h1.there
theorem SlotOk.noS {c : Zc} {G H : Hp} {s : Sl} {o : Option (Option V)} {fp : List Addr} (h : SlotOk c G H s o fp) : NoS c fp := by
  cases s with
  | unk =>
    have e : fp = [] := h
    rw [e]; intro a ha; cases ha
  | val d => obtain ⟨v, _, _, h1⟩ := h; exact h1
  | own d => obtain ⟨v, _, _, h1, _⟩ := h; exact h1
theorem SlotOk.ext {c : Zc} {G H H' : Hp} {s : Sl} {o : Option (Option V)} {fp : List Addr} (h : SlotOk c G H s o fp) (e : Ext c H H') (sr : SrcAt c H) : SlotOk c G H' s o fp := by
  cases s with
  | unk => exact h
  | val d => obtain ⟨v, h0, h1, h2⟩ := h; exact ⟨v, h0, h1.ext h2 e sr, h2⟩
  | own d => obtain ⟨v, h0, h1, h2, h3⟩ := h; exact ⟨v, h0, h1.ext h2 e sr, h2, h3⟩
theorem EnvAt.step {c : Zc} {G H H' : Hp} {ρ : En} {σ : St} {fps : Nat → List Addr} (E : EnvAt c G H ρ σ fps) (e : Ext c H H') (s : SrcAt c H') : EnvAt c G H' ρ σ fps :=
  ⟨E.len, E.ext.trans e, s, fun i sl h => (E.ok i sl h).ext e E.src, E.sep⟩
theorem EnvAt.thereAt {c : Zc} {G H : Hp} {ρ : En} {σ : St} {fps : Nat → List Addr} (E : EnvAt c G H ρ σ fps) {i : Nat} (hi : i < ρ.length) : ∀ a ∈ fps i, ∃ u, H a = some u ∧ ¬ Fix u :=
  (E.ok i ρ[i] (List.getElem?_eq_getElem hi)).there
theorem EnvAt.noS {c : Zc} {G H : Hp} {ρ : En} {σ : St} {fps : Nat → List Addr} (E : EnvAt c G H ρ σ fps) {i : Nat} (hi : i < ρ.length) : NoS c (fps i) :=
  (E.ok i ρ[i] (List.getElem?_eq_getElem hi)).noS
/-! ### judgements -/
/-- the addresses come out of new objects, or out of the slots U -/
def From (H : Hp) (fps : Nat → List Addr) (n : Nat) (U : List Nat) (fp : List Addr) : Prop := (∀ a ∈ fp, H a = none ∨ ∃ u ∈ U, u < n ∧ a ∈ fps u) ∧ (U = [] → fp.Nodup)
abbrev DM := En → (D → Prop) → Prop
/-- the reading te gives a datum as m says -/
def DE (K : PySem.W.Frag) (S : Option (Addr × Addr)) (te : TE) (m : DM) (U : List Nat) : Prop :=
  ∀ (G H : Hp) (ρ : En) (σ : L2.St) (fps : Nat → List Addr), EnvAt ⟨K, S⟩ G H ρ σ fps → ∀ R : D → Prop, m ρ R → ∀ Q : VK,
    (∀ d v H' fp, R d → Ext ⟨K, S⟩ H H' → SrcAt ⟨K, S⟩ H' → Rp ⟨K, S⟩ H' d v fp → NoS ⟨K, S⟩ fp → From H fps ρ.length U fp → Q v H') → te σ H Q
abbrev DMs := En → (List D → Prop) → Prop
def DA (K : PySem.W.Frag) (S : Option (Addr × Addr)) (ta : TA) (m : DMs) (U : List Nat) : Prop :=
  ∀ (G H : Hp) (ρ : En) (σ : L2.St) (fps : Nat → List Addr), EnvAt ⟨K, S⟩ G H ρ σ fps → ∀ R : List D → Prop, m ρ R → ∀ Q : List V → Hp → Prop,
    (∀ ds vs H' fp, R ds → Ext ⟨K, S⟩ H H' → SrcAt ⟨K, S⟩ H' → Rps ⟨K, S⟩ H' ds vs fp → NoS ⟨K, S⟩ fp → From H fps ρ.length U fp → Q vs H') → ta σ H Q
abbrev DMt := En → (Bool → Prop) → Prop
def DT (K : PySem.W.Frag) (S : Option (Addr × Addr)) (tt : TT) (m : DMt) : Prop :=
  ∀ (G H : Hp) (ρ : En) (σ : L2.St) (fps : Nat → List Addr), EnvAt ⟨K, S⟩ G H ρ σ fps → ∀ R : Bool → Prop, m ρ R → ∀ Q : Bool → Hp → Prop,
    (∀ b H', R b → Ext ⟨K, S⟩ H H' → SrcAt ⟨K, S⟩ H' → Q b H') → tt σ H Q
structure DEnds where
  nx : En → Prop
  rt : D → Prop
  bk : En → Prop := fun _ => False
  ct : En → Prop := fun _ => False
/-- all slots but those of W as they were -/
structure Off (W : List Nat) (σ σ' : L2.St) : Prop where
  len : σ'.length = σ.length
  off : ∀ j, j ∉ W → σ'[j]? = σ[j]?
structure EndsOk (K : PySem.W.Frag) (S : Option (Addr × Addr)) (G : Hp) (W : List Nat) (σ : L2.St) (R : DEnds) (D : Ends) : Prop where
  nx : ∀ ρ' σ' H' fps', R.nx ρ' → EnvAt ⟨K, S⟩ G H' ρ' σ' fps' → Off W σ σ' → D.nx σ' H'
  bk : ∀ ρ' σ' H' fps', R.bk ρ' → EnvAt ⟨K, S⟩ G H' ρ' σ' fps' → Off W σ σ' → D.bk σ' H'
  ct : ∀ ρ' σ' H' fps', R.ct ρ' → EnvAt ⟨K, S⟩ G H' ρ' σ' fps' → Off W σ σ' → D.ct σ' H'
  rt : ∀ d v H' fp, R.rt d → Ext ⟨K, S⟩ G H' → SrcAt ⟨K, S⟩ H' → Rp ⟨K, S⟩ H' d v fp → NoS ⟨K, S⟩ fp → fp.Nodup → (∀ a ∈ fp, G a = none) → D.rt v H'
abbrev DMS := En → DEnds → Prop
/-- the statement's reading, as m says; W: the slots that it stores or whose objects it changes -/
def DS (K : PySem.W.Frag) (S : Option (Addr × Addr)) (ts : TS) (m : DMS) (W : List Nat) : Prop :=
  ∀ (G H : Hp) (ρ : En) (σ : L2.St) (fps : Nat → List Addr), EnvAt ⟨K, S⟩ G H ρ σ fps → ∀ R : DEnds, m ρ R → ∀ D : Ends, EndsOk K S G W σ R D → ts D σ H
end Z
set_option Elab.async false
set_option linter.all false
set_option maxRecDepth 100000
set_option maxHeartbeats 2000000
/-! Z1: expressions, arguments, tests. -/
namespace Z
open PySem L2
section
variable {K : PySem.W.Frag} {S : Option (Addr × Addr)} {fps : Nat → List Addr} {n : Nat}
/-! ### where addresses come from -/
theorem From.nil {H : Hp} {U : List Nat} : From H fps n U [] := ⟨fun a h => (by cases h), fun _ => List.nodup_nil⟩
theorem From.fresh {H : Hp} {U : List Nat} {fp : List Addr} (h : ∀ a ∈ fp, H a = none) (d : fp.Nodup) : From H fps n U fp := ⟨fun a ha => .inl (h a ha), fun _ => d⟩
theorem From.new {H : Hp} {U : List Nat} {a : Addr} (h : H a = none) : From H fps n U [a] := .fresh (fun b hb => by rw [List.mem_singleton.mp hb]; exact h) (List.pairwise_singleton _ _)
theorem From.back {c : Zc} {H H1 : Hp} {U : List Nat} {fp : List Addr} (f : From H1 fps n U fp) (e : Ext c H H1) (ns : NoS c fp) : From H fps n U fp :=
  ⟨fun a ha => (f.1 a ha).imp (fun z => e.free z (ns a ha)) id, f.2⟩
theorem From.sub {H : Hp} {U V : List Nat} {fp : List Addr} (f : From H fps n U fp) (h : ∀ u ∈ U, u ∈ V) (hne : V = [] → U = []) : From H fps n V fp :=
  ⟨fun a ha => (f.1 a ha).imp id fun ⟨u, hu, e⟩ => ⟨u, h u hu, e⟩, fun z => f.2 (hne z)⟩
theorem From.part {H : Hp} {U : List Nat} {fp gp : List Addr} (f : From H fps n U fp) (h : ∀ a ∈ gp, a ∈ fp) (hn : fp.Nodup → gp.Nodup) : From H fps n U gp :=
  ⟨fun a ha => f.1 a (h a ha), fun z => hn (f.2 z)⟩
theorem From.off {H : Hp} {fp : List Addr} (f : From H fps n [] fp) : ∀ a ∈ fp, H a = none := fun a ha => by
  rcases f.1 a ha with z | ⟨u, hu, _⟩
  · exact z
  · cases hu
/-- one after the other -/
theorem From.app {c : Zc} {H H1 : Hp} {U V : List Nat} {fp gp : List Addr} (f : From H fps n U fp) (g : From H1 fps n V gp) (e : Ext c H H1) (ns : NoS c gp) (th : ∀ a ∈ fp, ∃ o, H1 a = some o) : From H fps n (U ++ V) (fp ++ gp) := by
  have g' := g.back e ns
  refine ⟨fun a ha => ?_, fun z => ?_⟩
  · rcases List.mem_append.mp ha with ha | ha
    · exact (f.1 a ha).imp id fun ⟨u, hu, q⟩ => ⟨u, List.mem_append_left _ hu, q⟩
    · exact (g'.1 a ha).imp id fun ⟨u, hu, q⟩ => ⟨u, List.mem_append_right _ hu, q⟩
  · obtain ⟨z1, z2⟩ := List.append_eq_nil_iff.mp z
    subst z1 z2
    refine List.nodup_append.mpr ⟨f.2 rfl, g.2 rfl, fun a ha b hb q => ?_⟩
    subst q
    obtain ⟨o, ho⟩ := th a ha
    rw [g.off a hb] at ho
    cases ho
theorem NoS.app {c : Zc} {fp gp : List Addr} (h : NoS c fp) (k : NoS c gp) : NoS c (fp ++ gp) := fun a ha => (List.mem_append.mp ha).elim (h a) (k a)
theorem NoS.nil {c : Zc} : NoS c [] := fun a h => by cases h
/-! ### names, constants -/
def look (s : Option Sl) (R : D → Prop) : Prop := match s with
  | some (.val d) => R d
  | some (.own d) => R d
  | _ => False
def dVar (i : Nat) : DM := fun ρ R => look ρ[i]? R
theorem de_var (i : Nat) : DE K S (tVar i) (dVar i) [i] := fun G H ρ σ fps E R hm Q q => by
  unfold dVar look at hm
  have key : ∀ d sl, ρ[i]? = some sl → (sl = .val d ∨ sl = .own d) → R d → tVar i σ H Q := fun d sl e hs hR => by
    have hi : i < ρ.length := (List.getElem?_eq_some_iff.mp e).1
    have ok := E.ok i sl e
    have th := E.thereAt hi
    rcases hs with rfl | rfl
    · obtain ⟨v, e1, h1, h2⟩ := ok
      exact ⟨v, e1, q d v H _ hR (Ext.refl _ _) E.src h1 h2 ⟨fun a ha => .inr ⟨i, List.mem_singleton.mpr rfl, hi, ha⟩, fun z => by cases z⟩⟩
    · obtain ⟨v, e1, h1, h2, _⟩ := ok
      exact ⟨v, e1, q d v H _ hR (Ext.refl _ _) E.src h1 h2 ⟨fun a ha => .inr ⟨i, List.mem_singleton.mpr rfl, hi, ha⟩, fun z => by cases z⟩⟩
  split at hm
  · rename_i d e; exact key d _ e (.inl rfl) hm
  · rename_i d e; exact key d _ e (.inr rfl) hm
  · exact hm.elim
def dC (d : D) : DM := fun _ R => R d
theorem de_c {d : D} {v : V} (h : ∀ H : Hp, Rp ⟨K, S⟩ H d v []) : DE K S (tC v) (dC d) [] := fun G H ρ σ fps E R hm Q q => q d v H [] hm (Ext.refl _ _) E.src (h H) .nil .nil
theorem de_int {i : Int} : DE K S (tC (.int i)) (dC (.int i)) [] := de_c fun H => by simp [Rp]
theorem de_bl {b : Bool} : DE K S (tC (.bl b)) (dC (.bool b)) [] := de_c fun H => by simp [Rp]
theorem de_non : DE K S (tC .non) (dC .none) [] := de_c fun H => by simp [Rp]
theorem de_str {x : Str} : DE K S (tC (.str x)) (dC (.str x)) [] := de_c fun H => by simp [Rp]
/-- nothing in it can change -/
def dSolid (m : DM) : DM := fun ρ R => m ρ fun d => solid d = true ∧ R d
theorem de_solid {te : TE} {m : DM} {U : List Nat} (h : DE K S te m U) : DE K S te (dSolid m) [] := fun G H ρ σ fps E R hm Q q =>
  h G H ρ σ fps E _ hm Q fun d v H' fp hR e s r ns f => by
    have z := r.solid _ _ _ hR.1
    subst z
    exact q d v H' [] hR.2 e s r ns .nil
theorem DE.up {te : TE} {m : DM} {U V : List Nat} (h : DE K S te m U) (hs : ∀ u ∈ U, u ∈ V) (hne : V = [] → U = []) : DE K S te m V := fun G H ρ σ fps E R hm Q q =>
  h G H ρ σ fps E R hm Q fun d v H' fp hR e s r ns f => q d v H' fp hR e s r ns (f.sub hs hne)
/-! ### argument lists -/
def dNil : DMs := fun _ R => R []
def dCons (m : DM) (ms : DMs) : DMs := fun ρ R => m ρ fun d => ms ρ fun ds => R (d :: ds)
theorem da_nil : DA K S tNil dNil [] := fun G H ρ σ fps E R hm Q q => q [] [] H [] hm (Ext.refl _ _) E.src .nil .nil .nil
theorem da_cons {te : TE} {t : TA} {m : DM} {ms : DMs} {U V : List Nat} (h1 : DE K S te m U) (h2 : DA K S t ms V) : DA K S (tCons te t) (dCons m ms) (U ++ V) := fun G H ρ σ fps E R hm Q q =>
  h1 G H ρ σ fps E _ hm _ fun d v H1 fp hR e1 s1 r1 n1 f1 =>
    h2 G H1 ρ σ fps (E.step e1 s1) _ hR _ fun ds vs H2 gp hR2 e2 s2 r2 n2 f2 =>
      q (d :: ds) (v :: vs) H2 (fp ++ gp) hR2 (e1.trans e2) s2 (.cons (r1.ext n1 e2 s1) r2) (n1.app n2) (f1.app f2 e1 n2 fun a ha => let ⟨o, ho, _⟩ := r1.there _ _ _ a ha; ⟨o, ho⟩)
/-! ### operations on values -/
/-- of two data, a new datum -/
def OpD (K : PySem.W.Frag) (S : Option (Addr × Addr)) (r : R2) (f : D → D → (D → Prop) → Prop) : Prop :=
  ∀ (H : Hp) (x y : V) (d e : D) (f1 f2 : List Addr), SrcAt ⟨K, S⟩ H → Rp ⟨K, S⟩ H d x f1 → NoS ⟨K, S⟩ f1 → Rp ⟨K, S⟩ H e y f2 → NoS ⟨K, S⟩ f2 → ∀ R, f d e R → ∀ Q : VK,
    (∀ z v H' fp, R z → Ext ⟨K, S⟩ H H' → SrcAt ⟨K, S⟩ H' → Rp ⟨K, S⟩ H' z v fp → NoS ⟨K, S⟩ fp → fp.Nodup → (∀ a ∈ fp, H a = none) → Q v H') → r x y H Q
/-- of a list of data, a new datum -/
def CallD (K : PySem.W.Frag) (S : Option (Addr × Addr)) (r : List V → Hp → VK → Prop) (f : List D → (D → Prop) → Prop) : Prop :=
  ∀ (H : Hp) (xs : List V) (ds : List D) (fp0 : List Addr), SrcAt ⟨K, S⟩ H → Rps ⟨K, S⟩ H ds xs fp0 → NoS ⟨K, S⟩ fp0 → ∀ R, f ds R → ∀ Q : VK,
    (∀ z v H' fp, R z → Ext ⟨K, S⟩ H H' → SrcAt ⟨K, S⟩ H' → Rp ⟨K, S⟩ H' z v fp → NoS ⟨K, S⟩ fp → fp.Nodup → (∀ a ∈ fp, H a = none) → Q v H') → r xs H Q
def UnD (K : PySem.W.Frag) (S : Option (Addr × Addr)) (r : V → Hp → VK → Prop) (f : D → (D → Prop) → Prop) : Prop :=
  ∀ (H : Hp) (x : V) (d : D) (fp0 : List Addr), SrcAt ⟨K, S⟩ H → Rp ⟨K, S⟩ H d x fp0 → NoS ⟨K, S⟩ fp0 → ∀ R, f d R → ∀ Q : VK,
    (∀ z v H' fp, R z → Ext ⟨K, S⟩ H H' → SrcAt ⟨K, S⟩ H' → Rp ⟨K, S⟩ H' z v fp → NoS ⟨K, S⟩ fp → fp.Nodup → (∀ a ∈ fp, H a = none) → Q v H') → r x H Q
/-- .. whose lists are the first operand's -/
def OpA (K : PySem.W.Frag) (S : Option (Addr × Addr)) (r : R2) (f : D → D → (D → Prop) → Prop) : Prop :=
  ∀ (H : Hp) (x y : V) (d e : D) (f1 f2 : List Addr), SrcAt ⟨K, S⟩ H → Rp ⟨K, S⟩ H d x f1 → NoS ⟨K, S⟩ f1 → Rp ⟨K, S⟩ H e y f2 → NoS ⟨K, S⟩ f2 → ∀ R, f d e R → ∀ Q : VK,
    (∀ z v fp, R z → Rp ⟨K, S⟩ H z v fp → (∀ a ∈ fp, a ∈ f1) → (f1.Nodup → fp.Nodup) → Q v H) → r x y H Q
def dBin (f : D → D → (D → Prop) → Prop) (ma mb : DM) : DM := fun ρ R => ma ρ fun x => mb ρ fun y => f x y R
def dUn (f : D → (D → Prop) → Prop) (ma : DM) : DM := fun ρ R => ma ρ fun x => f x R
/-- a mark whose type names R: simp leaves R as it is -/
inductive Hold {α : Type} (R : α) : Type
  | mk : Hold R
/-- what is made of an answer, held back until the answer's form is known -/
def kont (R : D → Prop) (_ : Hold R) : D → Prop := R
section
variable {R : D → Prop} {t : Hold R}
theorem kont_none : kont R t .none = R .none := rfl
theorem kont_bool {b : Bool} : kont R t (.bool b) = R (.bool b) := rfl
theorem kont_int {i : Int} : kont R t (.int i) = R (.int i) := rfl
theorem kont_str {x : Str} : kont R t (.str x) = R (.str x) := rfl
theorem kont_list {xs : List D} : kont R t (.list xs) = R (.list xs) := rfl
theorem kont_tuple {xs : List D} : kont R t (.tuple xs) = R (.tuple xs) := rfl
end
def dCall (f : List D → (D → Prop) → Prop) (ms : DMs) : DM := fun ρ R => ms ρ fun ds => f ds R
theorem de_op {r : R2} {f : D → D → (D → Prop) → Prop} {ta tb : TE} {ma mb : DM} {U V : List Nat} (h : OpD K S r f) (h1 : DE K S ta ma U) (h2 : DE K S tb mb V) : DE K S (tOp r ta tb) (dBin f ma mb) [] := fun G H ρ σ fps E R hm Q q =>
  h1 G H ρ σ fps E _ hm _ fun d v H1 fp hR e1 s1 r1 n1 f1 =>
    h2 G H1 ρ σ fps (E.step e1 s1) _ hR _ fun e w H2 gp hR2 e2 s2 r2 n2 f2 =>
      h H2 v w d e fp gp s2 (r1.ext n1 e2 s1) n1 r2 n2 _ hR2 _ fun z u H3 kp hz e3 s3 r3 n3 nd fr =>
        q z u H3 kp hz ((e1.trans e2).trans e3) s3 r3 n3 (.fresh (fun a ha => (e1.trans e2).free (fr a ha) (n3 a ha)) nd)
theorem de_opA {r : R2} {f : D → D → (D → Prop) → Prop} {ta tb : TE} {ma mb : DM} {U V : List Nat} (h : OpA K S r f) (h1 : DE K S ta ma U) (h2 : DE K S tb mb V) : DE K S (tOp r ta tb) (dBin f ma mb) U := fun G H ρ σ fps E R hm Q q =>
  h1 G H ρ σ fps E _ hm _ fun d v H1 fp hR e1 s1 r1 n1 f1 =>
    h2 G H1 ρ σ fps (E.step e1 s1) _ hR _ fun e w H2 gp hR2 e2 s2 r2 n2 f2 =>
      h H2 v w d e fp gp s2 (r1.ext n1 e2 s1) n1 r2 n2 _ hR2 _ fun z u kp hz r3 sub nd =>
        q z u H2 kp hz (e1.trans e2) s2 r3 (fun a ha => n1 a (sub a ha)) (f1.part sub nd)
theorem de_un {r : V → Hp → VK → Prop} {f : D → (D → Prop) → Prop} {ta : TE} {ma : DM} {U : List Nat} (h : UnD K S r f) (h1 : DE K S ta ma U) : DE K S (tUn r ta) (dUn f ma) [] := fun G H ρ σ fps E R hm Q q =>
  h1 G H ρ σ fps E _ hm _ fun d v H1 fp hR e1 s1 r1 n1 f1 =>
    h H1 v d fp s1 r1 n1 _ hR _ fun z u H3 kp hz e3 s3 r3 n3 nd fr =>
      q z u H3 kp hz (e1.trans e3) s3 r3 n3 (.fresh (fun a ha => e1.free (fr a ha) (n3 a ha)) nd)
theorem de_cb {r : List V → Hp → VK → Prop} {f : List D → (D → Prop) → Prop} {t : TA} {ms : DMs} {U : List Nat} (h : CallD K S r f) (h1 : DA K S t ms U) : DE K S (tCB r t) (dCall f ms) [] := fun G H ρ σ fps E R hm Q q =>
  h1 G H ρ σ fps E _ hm _ fun d v H1 fp hR e1 s1 r1 n1 f1 =>
    h H1 v d fp s1 r1 n1 _ hR _ fun z u H3 kp hz e3 s3 r3 n3 nd fr =>
      q z u H3 kp hz (e1.trans e3) s3 r3 n3 (.fresh (fun a ha => e1.free (fr a ha) (n3 a ha)) nd)
/-- answers without objects -/
theorem OpD.pure {r : R2} {f : D → D → (D → Prop) → Prop} (h : ∀ (H : Hp) (x y : V) (d e : D) (f1 f2 : List Addr), Rp ⟨K, S⟩ H d x f1 → Rp ⟨K, S⟩ H e y f2 → ∀ R, f d e R → ∀ Q : VK, (∀ z v, R z → (∀ H, Rp ⟨K, S⟩ H z v []) → Q v H) → r x y H Q) : OpD K S r f :=
  fun H x y d e f1 f2 s r1 n1 r2 n2 R hf Q q => h H x y d e f1 f2 r1 r2 R hf Q fun z v hz rz => q z v H [] hz (Ext.refl _ _) s (rz H) .nil List.nodup_nil fun a ha => by cases ha
theorem CallD.pure {r : List V → Hp → VK → Prop} {f : List D → (D → Prop) → Prop} (h : ∀ (H : Hp) (xs : List V) (ds : List D) (fp : List Addr), Rps ⟨K, S⟩ H ds xs fp → ∀ R, f ds R → ∀ Q : VK, (∀ z v, R z → (∀ H, Rp ⟨K, S⟩ H z v []) → Q v H) → r xs H Q) : CallD K S r f :=
  fun H xs ds fp s r1 n1 R hf Q q => h H xs ds fp r1 R hf Q fun z v hz rz => q z v H [] hz (Ext.refl _ _) s (rz H) .nil List.nodup_nil fun a ha => by cases ha
theorem UnD.pure {r : V → Hp → VK → Prop} {f : D → (D → Prop) → Prop} (h : ∀ (H : Hp) (x : V) (d : D) (fp : List Addr), Rp ⟨K, S⟩ H d x fp → ∀ R, f d R → ∀ Q : VK, (∀ z v, R z → (∀ H, Rp ⟨K, S⟩ H z v []) → Q v H) → r x H Q) : UnD K S r f :=
  fun H x d fp s r1 n1 R hf Q q => h H x d fp r1 R hf Q fun z v hz rz => q z v H [] hz (Ext.refl _ _) s (rz H) .nil List.nodup_nil fun a ha => by cases ha
/-! ### ints -/
def asI (d : D) (k : Int → Prop) : Prop := match d with
  | .int i => k i
  | _ => False
theorem asI_ok {d : D} {k : Int → Prop} (h : asI d k) : ∃ i, d = .int i ∧ k i := by
  unfold asI at h
  split at h
  · exact ⟨_, rfl, h⟩
  · exact h.elim
theorem rp_int {c : Zc} {H : Hp} {i : Int} {v : V} {fp : List Addr} (h : Rp c H (.int i) v fp) : v = .int i := by simp only [Rp] at h; exact h.1
theorem int_rp {c : Zc} {i : Int} (H : Hp) : Rp c H (.int i) (.int i) [] := by simp [Rp]
theorem bl_rp {c : Zc} {b : Bool} (H : Hp) : Rp c H (.bool b) (.bl b) [] := by simp [Rp]
theorem str_rp {c : Zc} {x : Str} (H : Hp) : Rp c H (.str x) (.str x) [] := by simp [Rp]
theorem non_rp {c : Zc} (H : Hp) : Rp c H .none .non [] := by simp [Rp]
def f2I (g : Int → Int → D) : D → D → (D → Prop) → Prop := fun x y R => asI x fun i => asI y fun j => R (g i j)
def f2IC (C : Int → Int → Prop) (g : Int → Int → D) : D → D → (D → Prop) → Prop := fun x y R => asI x fun i => asI y fun j => C i j ∧ R (g i j)
theorem od_I0 {g : Int → Int → Int} : OpD K S (rI0 fun i j => .int (g i j)) (f2I fun i j => .int (g i j)) := .pure fun H x y d e f1 f2 r1 r2 R hf Q q => by
  obtain ⟨i, rfl, h1⟩ := asI_ok hf
  obtain ⟨j, rfl, h2⟩ := asI_ok h1
  exact ⟨i, j, rp_int r1, rp_int r2, q _ _ h2 int_rp⟩
theorem od_B0 {g : Int → Int → Bool} : OpD K S (rI0 fun i j => .bl (g i j)) (f2I fun i j => .bool (g i j)) := .pure fun H x y d e f1 f2 r1 r2 R hf Q q => by
  obtain ⟨i, rfl, h1⟩ := asI_ok hf
  obtain ⟨j, rfl, h2⟩ := asI_ok h1
  exact ⟨i, j, rp_int r1, rp_int r2, q _ _ h2 bl_rp⟩
theorem od_IC {C : Int → Int → Prop} {g : Int → Int → Int} : OpD K S (rI C fun i j => .int (g i j)) (f2IC C fun i j => .int (g i j)) := .pure fun H x y d e f1 f2 r1 r2 R hf Q q => by
  obtain ⟨i, rfl, h1⟩ := asI_ok hf
  obtain ⟨j, rfl, hc, h2⟩ := asI_ok h1
  exact ⟨i, j, rp_int r1, rp_int r2, hc, q _ _ h2 int_rp⟩
def f1I (g : Int → D) : D → (D → Prop) → Prop := fun x R => asI x fun i => R (g i)
theorem ud_I {g : Int → Int} : UnD K S (rU fun i => .int (g i)) (f1I fun i => .int (g i)) := .pure fun H x d fp r1 R hf Q q => by
  obtain ⟨i, rfl, hf⟩ := asI_ok hf
  exact ⟨i, rp_int r1, q _ _ hf int_rp⟩
/-! ### tests -/
def asB (d : D) (k : Bool → Prop) : Prop := match d with
  | .bool b => k b
  | _ => False
theorem asB_ok {d : D} {k : Bool → Prop} (h : asB d k) : ∃ i, d = .bool i ∧ k i := by
  unfold asB at h
  split at h
  · exact ⟨_, rfl, h⟩
  · exact h.elim
theorem rp_bl {c : Zc} {H : Hp} {i : Bool} {v : V} {fp : List Addr} (h : Rp c H (.bool i) v fp) : v = .bl i := by simp only [Rp] at h; exact h.1
def dTest (m : DM) : DMt := fun ρ R => m ρ fun d => asB d R
theorem dt_val {te : TE} {m : DM} {U : List Nat} (h : DE K S te m U) : DT K S (tTest te) (dTest m) := fun G H ρ σ fps E R hm Q q =>
  h G H ρ σ fps E _ hm _ fun d v H' fp hR e s r ns f => by
    obtain ⟨b, rfl, hb⟩ := asB_ok hR
    exact ⟨b, rp_bl r, q b H' hb e s⟩
def dAnd (m1 m2 : DMt) : DMt := fun ρ R => m1 ρ fun b => cond b (m2 ρ R) (R false)
def dOr (m1 m2 : DMt) : DMt := fun ρ R => m1 ρ fun b => cond b (R true) (m2 ρ R)
def dNot (m : DMt) : DMt := fun ρ R => m ρ fun b => R (!b)
theorem dt_and {t u : TT} {m1 m2 : DMt} (h1 : DT K S t m1) (h2 : DT K S u m2) : DT K S (tAnd t u) (dAnd m1 m2) := fun G H ρ σ fps E R hm Q q =>
  h1 G H ρ σ fps E _ hm _ fun b H1 hR e1 s1 => by
    cases b with
    | true => exact iteT (h2 G H1 ρ σ fps (E.step e1 s1) R hR Q fun b H' hb e s => q b H' hb (e1.trans e) s)
    | false => exact iteF (q false H1 hR e1 s1)
theorem dt_or {t u : TT} {m1 m2 : DMt} (h1 : DT K S t m1) (h2 : DT K S u m2) : DT K S (tOr t u) (dOr m1 m2) := fun G H ρ σ fps E R hm Q q =>
  h1 G H ρ σ fps E _ hm _ fun b H1 hR e1 s1 => by
    cases b with
    | false => exact iteF (h2 G H1 ρ σ fps (E.step e1 s1) R hR Q fun b H' hb e s => q b H' hb (e1.trans e) s)
    | true => exact iteT (q true H1 hR e1 s1)
theorem dt_not {t : TT} {m : DMt} (h : DT K S t m) : DT K S (tNot t) (dNot m) := fun G H ρ σ fps E R hm Q q =>
  h G H ρ σ fps E _ hm _ fun b H1 hR e1 s1 => q (!b) H1 hR e1 s1
def dYes : DMt := fun _ R => R true
theorem dt_yes : DT K S tYes dYes := fun G H ρ σ fps E R hm Q q => q true H hm (Ext.refl _ _) E.src
/-- and, or, not as values -/
def dAndV (m1 m2 : DM) : DM := fun ρ R => m1 ρ fun d => asB d fun b => cond b (m2 ρ R) (R (.bool false))
def dOrV (m1 m2 : DM) : DM := fun ρ R => m1 ρ fun d => asB d fun b => cond b (R (.bool true)) (m2 ρ R)
def dNotV (m : DM) : DM := fun ρ R => m ρ fun d => asB d fun b => R (.bool (!b))
theorem de_andV {ta tb : TE} {ma mb : DM} {U V : List Nat} (h1 : DE K S ta ma U) (h2 : DE K S tb mb V) : DE K S (tAndV ta tb) (dAndV ma mb) V := fun G H ρ σ fps E R hm Q q =>
  h1 G H ρ σ fps E _ hm _ fun d v H1 fp hR e1 s1 r1 n1 f1 => by
    obtain ⟨b, rfl, hb⟩ := asB_ok hR
    refine ⟨b, rp_bl r1, ?_⟩
    cases b with
    | true => exact iteT (h2 G H1 ρ σ fps (E.step e1 s1) R hb Q fun d v H' fp hd e s r ns f => q d v H' fp hd (e1.trans e) s r ns (f.back e1 ns))
    | false => exact iteF (q _ _ H1 [] hb e1 s1 (bl_rp H1) .nil .nil)
theorem de_notV {ta : TE} {ma : DM} {U : List Nat} (h1 : DE K S ta ma U) : DE K S (tNotV ta) (dNotV ma) [] := fun G H ρ σ fps E R hm Q q =>
  h1 G H ρ σ fps E _ hm _ fun d v H1 fp hR e1 s1 r1 n1 f1 => by
    obtain ⟨b, rfl, hb⟩ := asB_ok hR
    exact ⟨b, rp_bl r1, q _ _ H1 [] hb e1 s1 (bl_rp H1) .nil .nil⟩
def dIf (c : DMt) (m1 m2 : DM) : DM := fun ρ R => c ρ fun b => cond b (m1 ρ R) (m2 ρ R)
theorem de_if {t : TT} {ta tb : TE} {mc : DMt} {ma mb : DM} {U V : List Nat} (hc : DT K S t mc) (h1 : DE K S ta ma U) (h2 : DE K S tb mb V) : DE K S (tIf t ta tb) (dIf mc ma mb) (U ++ V) := fun G H ρ σ fps E R hm Q q =>
  hc G H ρ σ fps E _ hm _ fun b H1 hR e1 s1 => by
    cases b with
    | true => exact iteT (h1 G H1 ρ σ fps (E.step e1 s1) R hR Q fun d v H' fp hd e s r ns f => q d v H' fp hd (e1.trans e) s r ns ((f.back e1 ns).sub (fun u hu => List.mem_append_left _ hu) fun z => (List.append_eq_nil_iff.mp z).1))
    | false => exact iteF (h2 G H1 ρ σ fps (E.step e1 s1) R hR Q fun d v H' fp hd e s r ns f => q d v H' fp hd (e1.trans e) s r ns ((f.back e1 ns).sub (fun u hu => List.mem_append_right _ hu) fun z => (List.append_eq_nil_iff.mp z).2))
/-! ### displays -/
theorem lim_ok {n : Nat} (h : n ≤ 10000000) : n ≤ sizeLine := Nat.le_trans h (by rw [sizeLine_eq]; decide)
/-- a tuple's display: a known object -/
def tTupF (t : TA) : TE := fun σ H Q => t σ H fun xs H1 => xs.length ≤ sizeLine ∧ ∀ p o, H1 p = none → o.dict = none → Q (.ref p) (upd H1 p (.frz o (.tup xs)))
theorem pe_tupF {X : Cx} {es : List Expr} {t : TA} {pos : Pos} {x1 : Nat} (h : PA X es t) : PE X (.Tuple es x1 pos) (tTupF t) := ⟨fun pins s σ H Q I hq =>
  wpAny_Tuple_spliced (thn (h.run pos pins s σ H _ I hq) fun us s1 w => by
    obtain ⟨xs, H1, I1, r, z, q⟩ := w
    have e := Heap.get?_push_size s1.heap (o := { cls := .type "tuple", data := .seq us.toArray }) rfl
    refine ⟨by rw [← r.length]; exact z, .ref s1.heap.objs.size, _, I1.laid (t' := s1.toks) (o := .frz { cls := .type "tuple", data := .seq us.toArray } (.tup xs)) (fun b u k => Heap.get?_push_of_some _ k) (Nat.le_refl _) ⟨e, z, us, r, ⟨_, e, rfl, _, rfl⟩⟩, rfl, q _ _ (I1.hok.fresh (Nat.le_refl _)) rfl⟩)⟩
def dTup (ms : DMs) : DM := fun ρ R => ms ρ fun ds => ds.length ≤ 10000000 ∧ R (.tuple ds)
theorem de_tup {t : TA} {ms : DMs} {U : List Nat} (h : DA K S t ms U) : DE K S (tTupF t) (dTup ms) U := fun G H ρ σ fps E R hm Q q =>
  h G H ρ σ fps E _ hm _ fun ds vs H1 fp hR e1 s1 r1 n1 f1 => ⟨by rw [r1.len]; exact lim_ok hR.1, fun p o hp ho => by
    have e2 : Ext ⟨K, S⟩ H1 (upd H1 p (.frz o (.tup vs))) := Ext.new hp
    refine q (.tuple ds) (.ref p) _ fp hR.2 (e1.trans e2) (s1.new hp) ?_ n1 f1
    simp only [Rp]
    exact ⟨p, vs, rfl, .new ho, r1.ext n1 e2 s1⟩⟩
def dLst (ms : DMs) : DM := fun ρ R => ms ρ fun ds => ds.length ≤ 10000000 ∧ R (.list ds)
theorem de_lst {t : TA} {ms : DMs} {U : List Nat} (h : DA K S t ms U) : DE K S (tLst t) (dLst ms) U := fun G H ρ σ fps E R hm Q q =>
  h G H ρ σ fps E _ hm _ fun ds vs H1 fp hR e1 s1 r1 n1 f1 => ⟨by rw [r1.len]; exact lim_ok hR.1, fun p hp => by
    have e2 : Ext ⟨K, S⟩ H1 (upd H1 p (.lst vs)) := Ext.new hp
    have hpn := s1.fresh hp
    refine q (.list ds) (.ref p) _ (p :: fp) hR.2 (e1.trans e2) (s1.new hp) ?_ ?_ ⟨fun a ha => ?_, fun z => ?_⟩
    · simp only [Rp]
      exact ⟨p, vs, fp, rfl, rfl, upd_same, r1.ext n1 e2 s1⟩
    · intro a ha
      rcases List.mem_cons.mp ha with rfl | ha
      · exact hpn
      · exact n1 a ha
    · rcases List.mem_cons.mp ha with rfl | ha
      · exact .inl (e1.free hp hpn)
      · exact f1.1 a ha
    · refine List.nodup_cons.mpr ⟨fun hm => ?_, f1.2 z⟩
      obtain ⟨o, ho, _⟩ := r1.there _ _ _ p hm
      rw [hp] at ho
      cases ho⟩
end
end Z
set_option Elab.async false
set_option linter.all false
set_option maxRecDepth 100000
set_option maxHeartbeats 2000000
/-! Z2: what is walked; targets; comprehensions. -/
namespace Z
open PySem L2
section
variable {K : PySem.W.Frag} {S : Option (Addr × Addr)}
/-! ### what is walked -/
/-- a value that stands for a datum; w: a tuple whose object may have a dict, too -/
def RpW (w : Bool) (c : Zc) (H : Hp) (d : D) (v : V) (fp : List Addr) : Prop := Rp c H d v fp ∨ (w = true ∧ ∃ ds a xs, d = .tuple ds ∧ v = .ref a ∧ SqT c.K H a xs ∧ Rps c H ds xs fp)
theorem RpW.strong {c : Zc} {H : Hp} {d : D} {v : V} {fp : List Addr} (h : RpW false c H d v fp) : Rp c H d v fp := h.resolve_right fun z => by cases z.1
theorem RpW.tup {w : Bool} {c : Zc} {H : Hp} {ds : List D} {v : V} {fp : List Addr} (h : RpW w c H (.tuple ds) v fp) : ∃ a xs, v = .ref a ∧ SqT c.K H a xs ∧ Rps c H ds xs fp := by
  rcases h with h | ⟨_, es, a, xs, e, h1, h2, h3⟩
  · simp only [Rp] at h
    obtain ⟨a, xs, h1, h2, h3⟩ := h
    exact ⟨a, xs, h1, h2.t, h3⟩
  · cases e
    exact ⟨a, xs, h1, h2, h3⟩
/-- J gives ds, one by one, while the objects at FP stay -/
def IterOk (w : Bool) (c : Zc) (J : It) (H1 : Hp) (ds : List D) (FP : List Addr) : Prop :=
  Walk J ds.length (fun H' => Tk H1 H' ∧ (∀ a ∈ FP, H' a = H1 a) ∧ SrcAt c H') (fun i H' x H'' => Ext c H' H'' ∧ SrcAt c H'' ∧ ∃ d fp, ds[i]? = some d ∧ RpW w c H'' d x fp ∧ ∀ a ∈ fp, a ∈ FP)
def DI (w : Bool) (K : PySem.W.Frag) (S : Option (Addr × Addr)) (wi : TI) (m : DMs) (U : List Nat) : Prop :=
  ∀ (G H : Hp) (ρ : En) (σ : L2.St) (fps : Nat → List Addr), EnvAt ⟨K, S⟩ G H ρ σ fps → ∀ R : List D → Prop, m ρ R → ∀ Q : It → Hp → Prop,
    (∀ ds J H1 FP, R ds → Ext ⟨K, S⟩ H H1 → SrcAt ⟨K, S⟩ H1 → IterOk w ⟨K, S⟩ J H1 ds FP → NoS ⟨K, S⟩ FP → (∀ a ∈ FP, ∃ o, H1 a = some o) → From H fps ρ.length U FP → Q J H1) → wi σ H Q
theorem Rps.atV {c : Zc} {H : Hp} : ∀ {ds : List D} {xs : List V} {fp : List Addr} {i : Nat} {x : V}, Rps c H ds xs fp → xs[i]? = some x → ∃ d gp, ds[i]? = some d ∧ Rp c H d x gp ∧ (∀ a ∈ gp, a ∈ fp)
  | [], xs, fp, i, x, h, e => by
    simp only [Rps] at h
    rw [h.1] at e
    simp at e
  | d :: ds, xs, fp, i, x, h, e => by
    have hl := h.len
    have hi : i < (d :: ds).length := by rw [← hl]; exact (List.getElem?_eq_some_iff.mp e).1
    obtain ⟨y, gp, e1, h1, h2, _⟩ := h.at (List.getElem?_eq_getElem hi)
    rw [e] at e1
    cases e1
    exact ⟨_, gp, List.getElem?_eq_getElem hi, h1, h2⟩
/-- a list, a tuple, a text: its items -/
def items : D → Option (List D)
  | .list ds => some ds
  | .tuple ds => some ds
  | .str z => some (z.cps.toList.map fun c => .str ⟨#[c]⟩)
  | _ => none
def asItems (d : D) (k : List D → Prop) : Prop := match items d with
  | some ds => k ds
  | none => False
def iSeq (K : PySem.W.Frag) (tl : TE) : TI := fun σ H R => tl σ H fun x H1 =>
  (∃ a xs, x = .ref a ∧ SqL K H1 a xs ∧ R (Itl K a) H1) ∨ (∃ a xs, x = .ref a ∧ SqT K H1 a xs ∧ R (Itt K a) H1) ∨ (∃ z, x = .str z ∧ R (Its z) H1)
theorem pi_seq {X : Cx} {tg l : Expr} {tl : TE} (hl : PE X l tl) : PI X tg l (iSeq X.K tl) := ⟨fun pins s σ H R I h => by
  refine thn (hl.run pins s σ H _ I h) fun v s1 ⟨x, H1, I1, r1, q1⟩ => ?_
  have hf : ∀ b ∈ [s1.heap.objs.size], FpOk X pins H1 b := fun b hb => by
    rw [List.mem_singleton.mp hb]
    exact I1.fpOk (Nat.le_refl _) (I1.hok.fresh (Nat.le_refl _))
  rcases q1 with ⟨a, xs, rfl, hq, q⟩ | ⟨a, xs, rfl, hq, q⟩ | ⟨z, rfl, q⟩
  · cases r1
    obtain ⟨its, rv, pl, _⟩ := I1.list hq
    exact wpAny_pyIter_list pl.isList ⟨_, [_], _, _, H1, rfl, I1.kept (t' := s1.toks) fun b o e => Heap.get?_push_of_some _ e, turn_list a _, ⟨_, Heap.get?_push_size _ rfl, rfl, rfl⟩, hf, q⟩
  · cases r1
    obtain ⟨its, rv, pl, _⟩ := I1.tuple hq
    exact wpAny_pyIter_tuple (show s1.heap.IsTuple a its.toArray from pl) ⟨_, [_], _, _, H1, rfl, I1.kept (t' := s1.toks) fun b o e => Heap.get?_push_of_some _ e, turn_tuple a _, ⟨_, Heap.get?_push_size _ rfl, rfl, rfl⟩, hf, q⟩
  · obtain ⟨t, rfl⟩ := r1
    cases hw : z.cps.all (· < 128) with
    | false => exact PySem.wpAny_pyIter_wide hw (pi_one (tk := s1.toks) I1 _ (turn_str _ z t "str_iterator" (.inr rfl)) ⟨_, Heap.get?_push_size _ rfl, rfl, rfl⟩ q)
    | true => exact PySem.wpAny_pyIter_ascii hw (pi_one (tk := s1.toks) I1 _ (turn_str _ z t "str_ascii_iterator" (.inl rfl)) ⟨_, Heap.get?_push_size _ rfl, rfl, rfl⟩ q)⟩
def dItems (m : DM) : DMs := fun ρ R => m ρ fun d => asItems d R
theorem asItems_ok {d : D} {k : List D → Prop} (h : asItems d k) : ∃ ds, items d = some ds ∧ k ds := by
  unfold asItems at h
  split at h
  · exact ⟨_, by assumption, h⟩
  · exact h.elim
theorem iter_list {c : Zc} {H1 : Hp} {a : Addr} {xs : List V} {ds : List D} {gp FP : List Addr} (h : SqL c.K H1 a xs) (hk : ∀ H', Tk H1 H' → (∀ b ∈ FP, H' b = H1 b) → SqL c.K H' a xs) (r : Rps c H1 ds xs gp) (sub : ∀ b ∈ gp, b ∈ FP) : IterOk false c (Itl c.K a) H1 ds FP := by
  have w := walk_list (K := c.K) (a := a) (xs := xs)
  rw [r.len] at w
  refine w.mono (fun H' g => hk H' g.1 g.2.1) fun i H' x H'' hi g y => ?_
  obtain ⟨rfl, e⟩ := y
  obtain ⟨d, fp, e1, e2, e3⟩ := (r.mono g.1 _ _ _ fun b hb => g.2.1 b (sub b hb)).atV e
  exact ⟨Ext.refl _ _, g.2.2, d, fp, e1, .inl e2, fun b hb => sub b (e3 b hb)⟩
theorem iter_tup {c : Zc} {H1 : Hp} {a : Addr} {xs : List V} {ds : List D} {FP : List Addr} (h : SqT c.K H1 a xs) (r : Rps c H1 ds xs FP) : IterOk false c (Itt c.K a) H1 ds FP := by
  have w := walk_tup (K := c.K) (a := a) (xs := xs)
  rw [r.len] at w
  refine w.mono (fun H' g => g.1.sq h) fun i H' x H'' hi g y => ?_
  obtain ⟨rfl, e⟩ := y
  obtain ⟨d, fp, e1, e2, e3⟩ := (r.mono g.1 _ _ _ g.2.1).atV e
  exact ⟨Ext.refl _ _, g.2.2, d, fp, e1, .inl e2, e3⟩
theorem di_seq {te : TE} {m : DM} {U : List Nat} (h : DE K S te m U) : DI false K S (iSeq K te) (dItems m) U := fun G H ρ σ fps E R hm Q q =>
  h G H ρ σ fps E _ hm _ fun d v H1 fp hR e1 s1 r1 n1 f1 => by
    obtain ⟨ds, hi, hR⟩ := asItems_ok hR
    have th : ∀ a ∈ fp, ∃ o, H1 a = some o := fun a ha => let ⟨o, ho, _⟩ := r1.there _ _ _ a ha; ⟨o, ho⟩
    cases d with
    | list es =>
      cases hi
      simp only [Rp] at r1
      obtain ⟨a, xs, gp, rfl, rfl, h1, h2⟩ := r1
      exact .inl ⟨a, xs, rfl, .of h1, q ds _ H1 _ hR e1 s1 (iter_list (c := ⟨K, S⟩) (.of h1) (fun H' _ k => .of (by rw [k a (List.mem_cons_self ..)]; exact h1)) h2 fun b hb => List.mem_cons_of_mem _ hb) n1 th f1⟩
    | tuple es =>
      cases hi
      simp only [Rp] at r1
      obtain ⟨a, xs, rfl, h1, h2⟩ := r1
      exact .inr (.inl ⟨a, xs, rfl, h1.t, q ds _ H1 _ hR e1 s1 (iter_tup (c := ⟨K, S⟩) h1.t h2) n1 th f1⟩)
    | str z =>
      cases hi
      simp only [Rp] at r1
      obtain ⟨rfl, rfl⟩ := r1
      refine .inr (.inr ⟨z, rfl, q _ _ H1 [] hR e1 s1 ?_ n1 th f1⟩)
      have w := walk_str (z := z)
      rw [show z.cps.size = (z.cps.toList.map fun c => (.str ⟨#[c]⟩ : D)).length by simp] at w
      refine w.mono (fun _ _ => trivial) fun i H' x H'' hi g y => ?_
      obtain ⟨rfl, c, e1, rfl⟩ := y
      exact ⟨Ext.refl _ _, g.2.2, .str ⟨#[c]⟩, [], by simp [e1], .inl (str_rp _), fun a ha => ha⟩
    | none => cases hi
    | bool b => cases hi
    | int i => cases hi
    | dict kvs => cases hi
/-- range -/
def rangeD (lo : Int) (n : Nat) (c : Int) : List D := (List.range n).map fun i => .int (lo + (i : Nat) * c)
def dRng1 (ms : DMs) : DMs := fun ρ R => ms ρ fun ds => match ds with
  | [.int j] => (-1000000000 ≤ j ∧ j ≤ 1000000000) ∧ R (rangeD 0 j.toNat 1)
  | _ => False
def dRng2 (ms : DMs) : DMs := fun ρ R => ms ρ fun ds => match ds with
  | [.int i, .int j] => (-1000000000 ≤ i ∧ i ≤ 1000000000 ∧ -1000000000 ≤ j ∧ j ≤ 1000000000) ∧ R (rangeD i (j - i).toNat 1)
  | _ => False
theorem iter_range {c : Zc} {H1 : Hp} {lo : Int} {n : Nat} : IterOk false c (Itr lo n) H1 (rangeD lo n 1) [] := by
  have w := walk_range (lo := lo) (n := n)
  have e : (rangeD lo n 1).length = n := by simp [rangeD]
  unfold IterOk
  rw [e]
  refine w.mono (fun _ _ => trivial) fun i H' x H'' hi g y => ?_
  obtain ⟨rfl, rfl⟩ := y
  exact ⟨Ext.refl _ _, g.2.2, .int (lo + i), [], by simp [rangeD, hi], .inl (int_rp _), fun a ha => ha⟩
theorem di_rng1 {t : TA} {ms : DMs} {U : List Nat} (h : DA K S t ms U) : DI false K S (iRng1 t) (dRng1 ms) [] := fun G H ρ σ fps E R hm Q q =>
  h G H ρ σ fps E _ hm _ fun ds vs H1 fp hR e1 s1 r1 n1 f1 => by
    split at hR
    · rename_i j
      simp only [Rps] at r1
      obtain ⟨x, ys, g1, g2, rfl, rfl, h1, rfl, rfl⟩ := r1
      exact ⟨j, by rw [rp_int h1], by omega, by omega, q _ _ H1 [] hR.2 e1 s1 iter_range .nil (fun a ha => by cases ha) .nil⟩
    · exact hR.elim
theorem di_rng2 {t : TA} {ms : DMs} {U : List Nat} (h : DA K S t ms U) : DI false K S (iRng2 t) (dRng2 ms) [] := fun G H ρ σ fps E R hm Q q =>
  h G H ρ σ fps E _ hm _ fun ds vs H1 fp hR e1 s1 r1 n1 f1 => by
    split at hR
    · rename_i i j
      simp only [Rps] at r1
      obtain ⟨x, ys, g1, g2, rfl, rfl, h1, y, zs, g3, g4, rfl, rfl, h2, rfl, rfl⟩ := r1
      exact ⟨i, j, by rw [rp_int h1, rp_int h2], by omega, q _ _ H1 [] hR.2 e1 s1 iter_range .nil (fun a ha => by cases ha) .nil⟩
    · exact hR.elim
/-! ### targets -/
/-- only the slots of W are stored: they hold what lies in fp -/
structure GOk (W : List Nat) (fp : List Addr) (ρ : En) (σ : L2.St) (fps : Nat → List Addr) (ρ' : En) (σ' : L2.St) (fps' : Nat → List Addr) : Prop where
  len : ρ'.length = ρ.length
  off : ∀ j, j ∉ W → σ'[j]? = σ[j]? ∧ ρ'[j]? = ρ[j]? ∧ fps' j = fps j
  on : ∀ j, j ∈ W → j < ρ.length → (∀ a ∈ fps' j, a ∈ fp) ∧ ¬ isOwn ρ'[j]?
abbrev DMg := D → En → (En → Prop) → Prop
/-- the target g takes a datum that shares no list with an own one -/
def DG (w : Bool) (K : PySem.W.Frag) (S : Option (Addr × Addr)) (g : TG) (m : DMg) (W : List Nat) : Prop :=
  ∀ (G H : Hp) (ρ : En) (σ : L2.St) (fps : Nat → List Addr), EnvAt ⟨K, S⟩ G H ρ σ fps → ∀ (d : D) (v : V) (fp : List Addr), RpW w ⟨K, S⟩ H d v fp → NoS ⟨K, S⟩ fp → (∀ i, i < ρ.length → isOwn ρ[i]? → ∀ a ∈ fps i, a ∉ fp) →
    ∀ R : En → Prop, m d ρ R → ∀ Nn : L2.St → Hp → Prop, (∀ ρ' σ' fps', R ρ' → EnvAt ⟨K, S⟩ G H ρ' σ' fps' → GOk W fp ρ σ fps ρ' σ' fps' → Nn σ' H) → g v σ H Nn
theorem EnvAt.setVal {c : Zc} {G H : Hp} {ρ : En} {σ : L2.St} {fps : Nat → List Addr} (E : EnvAt c G H ρ σ fps) {d : D} {v : V} {fp : List Addr} (r : Rp c H d v fp) (ns : NoS c fp) (sep : ∀ i, i < ρ.length → isOwn ρ[i]? → ∀ a ∈ fps i, a ∉ fp) (i : Nat) :
    EnvAt c G H (ρ.set i (.val d)) (σ.set i (some v)) (fun j => if j = i then fp else fps j) := by
  refine ⟨by simp [E.len], E.ext, E.src, fun j sl h => ?_, fun j k hne hj hk ho a ha hb => ?_⟩
  · by_cases hji : j = i
    · subst hji
      have hl : j < ρ.length := by
        have := (List.getElem?_eq_some_iff.mp h).1
        simpa using this
      rw [List.getElem?_set_self hl] at h
      cases h
      have hl2 : j < σ.length := by rw [E.len]; exact hl
      rw [List.getElem?_set_self hl2]
      simp only [if_true]
      exact ⟨v, rfl, r, ns⟩
    · rw [List.getElem?_set_ne (Ne.symm hji)] at h ⊢
      simp only [if_neg hji]
      exact E.ok j sl h
  · have hj' : j < ρ.length := by simpa using hj
    have hk' : k < ρ.length := by simpa using hk
    by_cases hji : j = i
    · subst hji
      rw [List.getElem?_set_self hj'] at ho
      exact ho
    · rw [List.getElem?_set_ne (Ne.symm hji)] at ho
      simp only [if_neg hji] at ha
      by_cases hki : k = i
      · simp only [if_pos hki] at hb
        exact sep j hj' ho a ha hb
      · simp only [if_neg hki] at hb
        exact E.sep j k hne hj' hk' ho a ha hb
def dgName (i : Nat) : DMg := fun d ρ R => R (ρ.set i (.val d))
theorem dg_name (i : Nat) : DG false K S (gName i) (dgName i) [i] := fun G H ρ σ fps E d v fp r ns sep R hm Nn q => by
  refine q _ _ _ hm (E.setVal r.strong ns sep i) ⟨by simp, fun j hj => ?_, fun j hj hl => ?_⟩
  · have hji : j ≠ i := fun e => hj (List.mem_singleton.mpr e)
    refine ⟨List.getElem?_set_ne (Ne.symm hji), List.getElem?_set_ne (Ne.symm hji), if_neg hji⟩
  · have e := List.mem_singleton.mp hj
    subst e
    refine ⟨fun a ha => by simpa using ha, ?_⟩
    rw [List.getElem?_set_self hl]
    exact id
/-- several targets -/
abbrev DMgs := List D → En → (En → Prop) → Prop
def DGs (K : PySem.W.Frag) (S : Option (Addr × Addr)) (g : TGs) (m : DMgs) (W : List Nat) : Prop :=
  ∀ (G H : Hp) (ρ : En) (σ : L2.St) (fps : Nat → List Addr), EnvAt ⟨K, S⟩ G H ρ σ fps → ∀ (ds : List D) (vs : List V) (fp : List Addr), Rps ⟨K, S⟩ H ds vs fp → NoS ⟨K, S⟩ fp → (∀ i, i < ρ.length → isOwn ρ[i]? → ∀ a ∈ fps i, a ∉ fp) →
    ∀ R : En → Prop, m ds ρ R → ∀ Nn : L2.St → Hp → Prop, (∀ ρ' σ' fps', R ρ' → EnvAt ⟨K, S⟩ G H ρ' σ' fps' → GOk W fp ρ σ fps ρ' σ' fps' → Nn σ' H) → g vs σ H Nn
def dgNil : DMgs := fun ds ρ R => ds = [] ∧ R ρ
def dgCons (m : DMg) (ms : DMgs) : DMgs := fun ds ρ R => match ds with
  | d :: r => m d ρ fun ρ' => ms r ρ' R
  | [] => False
theorem dgs_nil : DGs K S gNil dgNil [] := fun G H ρ σ fps E ds vs fp r ns sep R hm Nn q => by
  obtain ⟨rfl, hm⟩ := hm
  simp only [Rps] at r
  exact ⟨r.1, q ρ σ fps hm E ⟨rfl, fun j _ => ⟨rfl, rfl, rfl⟩, fun j hj => by cases hj⟩⟩
theorem dgs_cons {g : TG} {gs : TGs} {m : DMg} {ms : DMgs} {W1 W2 : List Nat} (h1 : DG false K S g m W1) (h2 : DGs K S gs ms W2) : DGs K S (gCons g gs) (dgCons m ms) (W1 ++ W2) := fun G H ρ σ fps E ds vs fp r ns sep R hm Nn q => by
  cases ds with
  | nil => exact hm.elim
  | cons d ds =>
    simp only [Rps] at r
    obtain ⟨x, ys, f1, f2, rfl, rfl, r1, r2⟩ := r
    refine ⟨x, ys, rfl, h1 G H ρ σ fps E d x f1 (.inl r1) (fun a ha => ns a (List.mem_append_left _ ha)) (fun i hi ho a ha hb => sep i hi ho a ha (List.mem_append_left _ hb)) _ hm _ fun ρ1 σ1 fps1 hR E1 g1 => ?_⟩
    refine h2 G H ρ1 σ1 fps1 E1 ds ys f2 r2 (fun a ha => ns a (List.mem_append_right _ ha)) (fun i hi ho a ha hb => ?_) _ hR _ fun ρ2 σ2 fps2 hR2 E2 g2 => q ρ2 σ2 fps2 hR2 E2 ⟨g2.len.trans g1.len, fun j hj => ?_, fun j hj hl => ?_⟩
    · rw [g1.len] at hi
      by_cases hw : i ∈ W1
      · exact (g1.on i hw hi).2 ho
      · obtain ⟨e1, e2, e3⟩ := g1.off i hw
        rw [e2] at ho
        rw [e3] at ha
        exact sep i hi ho a ha (List.mem_append_right _ hb)
    · have n1 : j ∉ W1 := fun z => hj (List.mem_append_left _ z)
      have n2 : j ∉ W2 := fun z => hj (List.mem_append_right _ z)
      obtain ⟨a1, a2, a3⟩ := g1.off j n1
      obtain ⟨b1, b2, b3⟩ := g2.off j n2
      exact ⟨b1.trans a1, b2.trans a2, b3.trans a3⟩
    · by_cases hw : j ∈ W2
      · have := g2.on j hw (by rw [g1.len]; exact hl)
        exact ⟨fun a ha => List.mem_append_right _ (this.1 a ha), this.2⟩
      · have hw1 : j ∈ W1 := (List.mem_append.mp hj).resolve_right hw
        obtain ⟨b1, b2, b3⟩ := g2.off j hw
        rw [b2, b3]
        exact ⟨fun a ha => List.mem_append_left _ ((g1.on j hw1 hl).1 a ha), (g1.on j hw1 hl).2⟩
def asT (d : D) (k : List D → Prop) : Prop := match d with
  | .tuple ds => k ds
  | _ => False
def dgTup (n : Nat) (ms : DMgs) : DMg := fun d ρ R => asT d fun ds => ds.length = n ∧ ms ds ρ R
theorem dg_tup {w : Bool} {n : Nat} {gs : TGs} {ms : DMgs} {W : List Nat} (h : DGs K S gs ms W) : DG w K S (gTup K n gs) (dgTup n ms) W := fun G H ρ σ fps E d v fp r ns sep R hm Nn q => by
  cases d with
  | tuple ds =>
    obtain ⟨a, xs, rfl, h1, h2⟩ := r.tup
    obtain ⟨hl, hm⟩ := hm
    exact ⟨a, xs, rfl, h1, by rw [h2.len]; exact hl, h G H ρ σ fps E ds xs fp h2 ns sep R hm Nn q⟩
  | _ => exact hm.elim
/-! ### comprehensions -/
/-- inside a comprehension: its own names empty, nothing is changed -/
def demote : En → En := List.map fun s => match s with
  | .own d => .val d
  | s => s
def hide : List Nat → En → En
  | [], ρ => ρ
  | i :: vs, ρ => (hide vs ρ).set i .unk
theorem hide_length (ρ : En) : ∀ vs : List Nat, (hide vs ρ).length = ρ.length
  | [] => rfl
  | v :: vs => by unfold hide; rw [List.length_set, hide_length ρ vs]
theorem hide_out {ρ : En} {i : Nat} : ∀ {vs : List Nat}, i ∉ vs → (hide vs ρ)[i]? = ρ[i]?
  | [], _ => rfl
  | v :: vs, h => by
    unfold hide
    rw [List.getElem?_set_ne fun e => h (by rw [e]; exact List.mem_cons_self)]
    exact hide_out fun m => h (List.mem_cons_of_mem _ m)
theorem hide_in {ρ : En} {i : Nat} : ∀ {vs : List Nat} {s : Sl}, i ∈ vs → (hide vs ρ)[i]? = some s → s = .unk
  | [], s, h, e => by cases h
  | v :: vs, s, h, e => by
    unfold hide at e
    by_cases hv : v = i
    · subst hv
      have hl : v < (hide vs ρ).length := by
        have := (List.getElem?_eq_some_iff.mp e).1
        simpa using this
      rw [List.getElem?_set_self hl] at e
      exact (Option.some.inj e).symm
    · rw [List.getElem?_set_ne hv] at e
      exact hide_in ((List.mem_cons.mp h).resolve_left (Ne.symm hv)) e
theorem demote_length (ρ : En) : (demote ρ).length = ρ.length := by simp [demote]
theorem demote_own {ρ : En} {i : Nat} : ¬ isOwn (demote ρ)[i]? := by
  unfold demote
  rw [List.getElem?_map]
  cases ρ[i]? with
  | none => exact id
  | some s => cases s <;> exact id
theorem EnvAt.inner {c : Zc} {G H : Hp} {ρ : En} {σ : L2.St} {fps : Nat → List Addr} (E : EnvAt c G H ρ σ fps) (vs : List Nat) :
    EnvAt c (fun _ => none) H (hide vs (demote ρ)) (wipe σ vs) (fun j => if j ∈ vs then [] else fps j) := by
  refine ⟨by rw [wipe_length, hide_length, demote_length]; exact E.len, fun a o h _ => (by cases h), E.src, fun j sl h => ?_, fun j k _ _ _ ho => ?_⟩
  · by_cases hj : j ∈ vs
    · rw [hide_in hj h]
      simp only [if_pos hj]
      rfl
    · rw [hide_out hj] at h
      rw [wipe_out hj]
      simp only [if_neg hj]
      unfold demote at h
      rw [List.getElem?_map] at h
      cases hs : ρ[j]? with
      | none => rw [hs] at h; cases h
      | some s =>
        rw [hs] at h
        have ok := E.ok j s hs
        cases s with
        | unk => cases h; exact ok
        | val d => cases h; exact ok
        | own d => cases h; obtain ⟨v, a1, a2, a3, _⟩ := ok; exact ⟨v, a1, a2, a3⟩
  · by_cases hj : j ∈ vs
    · exfalso
      cases hs : (hide vs (demote ρ))[j]? with
      | none => rw [hs] at ho; exact ho
      | some s =>
        have := hide_in hj hs
        rw [hs, this] at ho
        exact ho
    · rw [hide_out hj] at ho
      exact (demote_own ho).elim
def compD (tg : DMg) (mt : DMt) (me : DM) (ρ : En) (R : List D → Prop) : List D → List D → Prop
  | [], acc => R acc
  | x :: xs, acc => tg x ρ fun ρ' => mt ρ' fun b => cond b (me ρ' fun y => compD tg mt me ρ R xs (acc ++ [y])) (compD tg mt me ρ R xs acc)
def dComp (mi : DMs) (tg : DMg) (mt : DMt) (me : DM) (vs : List Nat) : DM := fun ρ R => mi ρ fun xs => xs.length ≤ 10000000 ∧ compD tg mt me (hide vs (demote ρ)) (fun ys => R (.list ys)) xs []
def compU (vs Ue Ui : List Nat) : List Nat := if Ue = [] then [] else 1000 :: (Ue ++ Ui)
theorem wipe_same {σ σ2 : L2.St} : ∀ {vs : List Nat}, σ2.length = σ.length → (∀ j, j ∉ vs → σ2[j]? = σ[j]?) → wipe σ2 vs = wipe σ vs := fun {vs} hl h => by
  apply List.ext_getElem?
  intro i
  by_cases hi : i ∈ vs
  · have both : ∀ τ : L2.St, τ.length = σ.length → (wipe τ vs)[i]? = if i < σ.length then some none else none := fun τ hτ => by
      cases e : (wipe τ vs)[i]? with
      | none =>
        have := List.getElem?_eq_none_iff.mp e
        rw [wipe_length, hτ] at this
        rw [if_neg (by omega)]
      | some o =>
        have hlt := (List.getElem?_eq_some_iff.mp e).1
        rw [wipe_length, hτ] at hlt
        rw [if_pos hlt]
        cases o with
        | none => rfl
        | some x => exact absurd hi (wipe_some e).2
    rw [both σ2 hl, both σ rfl]
  · rw [wipe_out hi, wipe_out hi]
    exact h i hi
theorem wipe_wipe {σ : L2.St} {vs : List Nat} : wipe (wipe σ vs) vs = wipe σ vs := wipe_same (wipe_length σ vs) fun j hj => wipe_out hj
theorem de_lc {wi : TI} {g : TG} {tt : TT} {te : TE} {vs : List Nat} {mi : DMs} {mg : DMg} {mt : DMt} {me : DM} {Ui Ue W : List Nat} {w : Bool} (hi : DI w K S wi mi Ui) (hg : DG w K S g mg W) (ht : DT K S tt mt) (he : DE K S te me Ue) (hW : W.all (fun j => vs.contains j) = true) :
    DE K S (tLc wi g tt te vs) (dComp mi mg mt me vs) (compU vs Ue Ui) := fun G H ρ σ fps E R hm Q q =>
  hi G H ρ σ fps E _ hm _ fun ds J H1 FP hR e1 s1 J1 nF tF fF Dd hD => by
    obtain ⟨hlen, hc⟩ := hR
    have hWv : ∀ j, j ∈ W → j ∈ vs := fun j hj => by
      have := List.all_eq_true.mp hW j hj
      simpa using this
    have hDn := s1.fresh hD
    -- what holds ahead of turn i
    let Pv : Nat → Hp → Prop := fun i Hi => Ext ⟨K, S⟩ H1 Hi ∧ SrcAt ⟨K, S⟩ Hi ∧ ∃ (acc : List D) (av : List V) (fa : List Addr), Hi Dd = some (.lst av) ∧ Rps ⟨K, S⟩ Hi acc av fa ∧ NoS ⟨K, S⟩ fa ∧ Dd ∉ fa ∧ From H fps ρ.length (compU vs Ue Ui) fa ∧ acc.length ≤ i ∧
      compD mg mt me (hide vs (demote ρ)) (fun ys => R (.list ys)) (ds.drop i) acc
    refine lc_it J1 (D := Dd) Pv ?_ (fun i Hi hle p => ?_) (fun i x Hi Hi' hlt p y => ?_) fun Hn p => ?_
    · exact ⟨Ext.new hD, s1.new hD, [], [], [], upd_same, .nil, .nil, (by intro z; cases z), .nil, Nat.le_refl _, hc⟩
    · exact ⟨p.1.tk s1, fun a ha => by
        obtain ⟨o, ho⟩ := tF a ha
        rw [ho]
        exact p.1 a o ho (nF a ha), p.2.1⟩
    · obtain ⟨x1, sx, acc, av, fa, hDi, ra, na, da, frm, hal, hcc⟩ := p
      obtain ⟨y1, sy, d, fp, hd, rd, subd⟩ := y
      have E2 := ((E.step (e1.trans (x1.trans y1)) sy).inner vs)
      have hdrop : ds.drop i = d :: ds.drop (i + 1) := by
        obtain ⟨hlt', hd'⟩ := List.getElem?_eq_some_iff.mp hd
        rw [← hd']
        exact List.drop_eq_getElem_cons hlt'
      rw [hdrop] at hcc
      have nfp : NoS ⟨K, S⟩ fp := fun a ha => nF a (subd a ha)
      refine hg _ Hi' _ _ _ E2 d x fp rd nfp (fun j _ ho => ?_) _ hcc _ fun ρ2 σ2 fps2 hR2 E3 g3 => ?_
      · exfalso
        by_cases hj : j ∈ vs
        · cases hs : (hide vs (demote ρ))[j]? with
          | none => rw [hs] at ho; exact ho
          | some s =>
            have := hide_in hj hs
            rw [hs, this] at ho
            exact ho
        · rw [hide_out hj] at ho
          exact demote_own ho
      have hl2 : ρ2.length = ρ.length := by rw [g3.len, hide_length, demote_length]
      have hs2 : σ2.length = (wipe σ vs).length := by rw [E3.len, hl2, wipe_length, E.len]
      refine ⟨(wipe_same hs2 fun j hj => (g3.off j fun z => hj (hWv j z)).1).trans wipe_wipe, ?_⟩
      -- what the slots hold within, told by those outside
      have hin : ∀ u a, u < ρ2.length → a ∈ fps2 u → a ∈ FP ∨ (u < ρ.length ∧ a ∈ fps u) := fun u a hu ha => by
        rw [hl2] at hu
        by_cases hw : u ∈ W
        · exact .inl (subd a ((g3.on u hw (by rw [hide_length, demote_length]; exact hu)).1 a ha))
        · rw [(g3.off u hw).2.2] at ha
          by_cases hv : u ∈ vs
          · simp only [if_pos hv] at ha
            cases ha
          · simp only [if_neg hv] at ha
            exact .inr ⟨hu, ha⟩
      refine ht _ Hi' ρ2 σ2 fps2 E3 _ hR2 _ fun b H3 hb x3 s3 => ?_
      have E4 := E3.step x3 s3
      cases b with
      | false =>
        refine iteF ⟨x1.trans (y1.trans x3), s3, acc, av, fa, x3 _ _ (y1 _ _ hDi hDn) hDn, (ra.ext na y1 sx).ext na x3 sy, na, da, frm, Nat.le_succ_of_le hal, hb⟩
      | true =>
        refine iteT (he _ H3 ρ2 σ2 fps2 E4 _ hb _ fun y v H4 gp hc4 x4 s4 r4 n4 f4 => ?_)
        have xx : Ext ⟨K, S⟩ Hi H4 := y1.trans (x3.trans x4)
        have hD4 : H4 Dd = some (.lst av) := xx _ _ hDi hDn
        have hDg : Dd ∉ gp := fun hm => by
          rcases f4.1 Dd hm with z | ⟨u, hu, hul, z⟩
          · rw [x3 _ _ (y1 _ _ hDi hDn) hDn] at z
            cases z
          · rcases hin u Dd hul z with z | ⟨z1, z⟩
            · obtain ⟨o, ho⟩ := tF Dd z
              rw [hD] at ho
              cases ho
            · obtain ⟨o, ho, _⟩ := E.thereAt z1 Dd z
              rw [e1 _ _ ho hDn] at hD
              cases hD
        have hk : ∀ b : Addr, b ∈ fa ++ gp → upd H4 Dd (.lst (av ++ [v])) b = H4 b := fun b hb' => upd_ne fun z => by
          rcases List.mem_append.mp hb' with z' | z'
          · exact da (z ▸ z')
          · exact hDg (z ▸ z')
        have tk : Tk H4 (upd H4 Dd (.lst (av ++ [v]))) := fun b o ho hf => by
          rw [upd_ne fun z => by rw [z, hD4] at ho; cases ho; exact hf]
          exact ho
        refine ⟨av, hD4, ?_, fun b o ho hnb => ?_, s4.own hDn, acc ++ [y], av ++ [v], fa ++ gp, upd_same, ?_, na.app n4, ?_, ?_, ?_, hc4⟩
        · have h1 := ra.len
          have h2 : i < ds.length := hlt
          exact Nat.lt_of_lt_of_le (by omega : av.length < 10000000) (lim_ok (Nat.le_refl _))
        · rw [upd_ne fun z => by rw [z, hD] at ho; cases ho]
          exact (x1.trans xx) b o ho hnb
        · exact (ra.ext na xx sx).app (.one r4) |>.mono tk _ _ _ hk
        · intro hm
          rcases List.mem_append.mp hm with z | z
          · exact da z
          · exact hDg z
        · have hne : ∀ a ∈ gp, H a = none ∨ ∃ u ∈ compU vs Ue Ui, u < ρ.length ∧ a ∈ fps u := fun a ha => by
            rcases f4.1 a ha with z | ⟨u, hu, hul, z⟩
            · exact .inl ((e1.trans (x1.trans (y1.trans x3))).free z (n4 a ha))
            · have hUe : Ue ≠ [] := fun z => by rw [z] at hu; cases hu
              unfold compU
              rw [if_neg hUe]
              rcases hin u a hul z with z | ⟨z1, z⟩
              · exact (fF.1 a z).imp id fun ⟨u', hu', q'⟩ => ⟨u', List.mem_cons_of_mem _ (List.mem_append_right _ hu'), q'⟩
              · exact .inr ⟨u, List.mem_cons_of_mem _ (List.mem_append_left _ hu), z1, z⟩
          refine ⟨fun a ha => (List.mem_append.mp ha).elim (frm.1 a) (hne a), fun z => ?_⟩
          have hUe : Ue = [] := by
            unfold compU at z
            split at z
            · assumption
            · cases z
          subst hUe
          refine List.nodup_append.mpr ⟨frm.2 z, f4.2 rfl, fun a ha b hb' q' => ?_⟩
          subst q'
          have h1 := f4.off a hb'
          obtain ⟨o, ho, _⟩ := ra.there _ _ _ a ha
          rw [x3 _ _ (y1 _ _ ho (na a ha)) (na a ha)] at h1
          cases h1
        · rw [List.length_append]
          exact Nat.succ_le_succ hal
    · obtain ⟨x1, sx, acc, av, fa, hDi, ra, na, da, frm, hal, hcc⟩ := p
      rw [List.drop_eq_nil_of_le (Nat.le_refl _)] at hcc
      refine q (.list acc) (.ref Dd) Hn (Dd :: fa) hcc (e1.trans x1) sx ?_ ?_ ⟨fun a ha => ?_, fun z => ?_⟩
      · simp only [Rp]
        exact ⟨Dd, av, fa, rfl, rfl, hDi, ra⟩
      · intro a ha
        rcases List.mem_cons.mp ha with rfl | ha
        · exact hDn
        · exact na a ha
      · rcases List.mem_cons.mp ha with rfl | ha
        · exact .inl (e1.free hD hDn)
        · exact frm.1 a ha
      · exact List.nodup_cons.mpr ⟨da, frm.2 z⟩
end
end Z
set_option Elab.async false
set_option linter.all false
set_option maxRecDepth 100000
set_option maxHeartbeats 2000000
/-! Z3: statements, defs. -/
namespace Z
open PySem L2
section
variable {K : PySem.W.Frag} {S : Option (Addr × Addr)}
theorem Off.refl (W : List Nat) (σ : L2.St) : Off W σ σ := ⟨rfl, fun _ _ => rfl⟩
theorem Off.trans {V W : List Nat} {σ σ1 σ2 : L2.St} (a : Off V σ σ1) (b : Off W σ1 σ2) : Off (V ++ W) σ σ2 := ⟨b.len.trans a.len, fun j hj =>
  (b.off j fun z => hj (List.mem_append_right _ z)).trans (a.off j fun z => hj (List.mem_append_left _ z))⟩
theorem Off.up {V W : List Nat} {σ σ1 : L2.St} (a : Off V σ σ1) (h : ∀ j ∈ V, j ∈ W) : Off W σ σ1 := ⟨a.len, fun j hj => a.off j fun z => hj (h j z)⟩
theorem Off.join {W : List Nat} {σ σ1 σ2 : L2.St} (a : Off W σ σ1) (b : Off W σ1 σ2) : Off W σ σ2 := ⟨b.len.trans a.len, fun j hj => (b.off j hj).trans (a.off j hj)⟩
/-! ### small statements -/
def sNext : DMS := fun ρ R => R.nx ρ
theorem ds_next : DS K S tNext sNext [] := fun G H ρ σ fps E R hm D d => d.nx ρ σ H fps hm E (.refl _ _)
def sBreak : DMS := fun ρ R => R.bk ρ
def sCont : DMS := fun ρ R => R.ct ρ
/-- what comes next, held back until its environment is known -/
def later (b : DMS) (R : DEnds) (_ : Hold R) : En → Prop := fun ρ' => b ρ' R
theorem later_cons (b : DMS) (R : DEnds) (t : Hold R) (s : Sl) (ρ : En) : later b R t (s :: ρ) = b (s :: ρ) R := rfl
def sSeq (a b : DMS) : DMS := fun ρ R => a ρ { R with nx := later b R .mk }
theorem EndsOk.up {G : Hp} {V W : List Nat} {σ : L2.St} {R : DEnds} {D : Ends} (d : EndsOk K S G W σ R D) (h : ∀ j ∈ V, j ∈ W) : EndsOk K S G V σ R D :=
  ⟨fun ρ' σ' H' f a b o => d.nx ρ' σ' H' f a b (o.up h), fun ρ' σ' H' f a b o => d.bk ρ' σ' H' f a b (o.up h), fun ρ' σ' H' f a b o => d.ct ρ' σ' H' f a b (o.up h), d.rt⟩
theorem EndsOk.after {G : Hp} {W : List Nat} {σ σ1 : L2.St} {R : DEnds} {D : Ends} (d : EndsOk K S G W σ R D) (o : Off W σ σ1) : EndsOk K S G W σ1 R D :=
  ⟨fun ρ' σ' H' f a b o' => d.nx ρ' σ' H' f a b (o.join o'), fun ρ' σ' H' f a b o' => d.bk ρ' σ' H' f a b (o.join o'), fun ρ' σ' H' f a b o' => d.ct ρ' σ' H' f a b (o.join o'), d.rt⟩
theorem ds_seq {t u : TS} {m1 m2 : DMS} {V W : List Nat} (h1 : DS K S t m1 V) (h2 : DS K S u m2 W) : DS K S (tSeq t u) (sSeq m1 m2) (V ++ W) := fun G H ρ σ fps E R hm D d => by
  have l : ∀ j ∈ V, j ∈ V ++ W := fun j h => List.mem_append_left _ h
  have r : ∀ j ∈ W, j ∈ V ++ W := fun j h => List.mem_append_right _ h
  exact h1 G H ρ σ fps E _ hm _ ⟨fun ρ1 σ1 H1 f1 hR E1 o1 => h2 G H1 ρ1 σ1 f1 E1 R hR D ((d.after (o1.up l)).up r), (d.up l).bk, (d.up l).ct, d.rt⟩
def sIf (c : DMt) (a b : DMS) : DMS := fun ρ R => c ρ fun k => cond k (a ρ R) (b ρ R)
theorem ds_if {c : TT} {t u : TS} {mc : DMt} {m1 m2 : DMS} {V W : List Nat} (hc : DT K S c mc) (h1 : DS K S t m1 V) (h2 : DS K S u m2 W) : DS K S (tIfS c t u) (sIf mc m1 m2) (V ++ W) := fun G H ρ σ fps E R hm D d =>
  hc G H ρ σ fps E _ hm _ fun b H1 hR e1 s1 => by
    cases b with
    | true => exact iteT (h1 G H1 ρ σ fps (E.step e1 s1) R hR D (d.up fun j h => List.mem_append_left _ h))
    | false => exact iteF (h2 G H1 ρ σ fps (E.step e1 s1) R hR D (d.up fun j h => List.mem_append_right _ h))
def sDrop (m : DM) : DMS := fun ρ R => m ρ fun _ => R.nx ρ
theorem back_none {c : Zc} {G H : Hp} (e : Ext c G H) {a : Addr} (h : H a = none) (n : ¬ c.has a) : G a = none := e.free h n
def sRet (m : DM) : DMS := fun ρ R => m ρ R.rt
theorem ds_ret {te : TE} {m : DM} (h : DE K S te m []) : DS K S (tRet te) (sRet m) [] := fun G H ρ σ fps E R hm D d =>
  h G H ρ σ fps E _ hm _ fun x v H1 fp hR e1 s1 r n f => d.rt x v H1 fp hR (E.ext.trans e1) s1 r n (f.2 rfl) fun a ha => back_none E.ext (f.off a ha) (n a ha)
def sRetV (i : Nat) : DMS := fun ρ R => match ρ[i]? with
  | some (.own d) => R.rt d
  | _ => False
/-- return x, x an own list -/
theorem ds_retV (i : Nat) : DS K S (tRet (tVar i)) (sRetV i) [] := fun G H ρ σ fps E R hm D d => by
  unfold sRetV at hm
  split at hm
  · rename_i x e
    obtain ⟨v, e1, r, n, nd, g⟩ := E.ok i _ e
    exact ⟨v, e1, d.rt x v H _ hm E.ext E.src r n nd g⟩
  · exact hm.elim
def sRetN : DMS := fun ρ R => R.rt .none
/-! ### stores -/
theorem EnvAt.setOwn {c : Zc} {G H : Hp} {ρ : En} {σ : L2.St} {fps : Nat → List Addr} (E : EnvAt c G H ρ σ fps) {d : D} {v : V} {fp : List Addr} (r : Rp c H d v fp) (ns : NoS c fp) (nd : fp.Nodup) (g : ∀ a ∈ fp, G a = none) (i : Nat)
    (sep : ∀ j, j < ρ.length → j ≠ i → ∀ a ∈ fp, a ∉ fps j) : EnvAt c G H (ρ.set i (.own d)) (σ.set i (some v)) (fun j => if j = i then fp else fps j) := by
  refine ⟨by simp [E.len], E.ext, E.src, fun j sl h => ?_, fun j k hne hj hk ho a ha hb => ?_⟩
  · by_cases hji : j = i
    · subst hji
      have hl : j < ρ.length := by
        have := (List.getElem?_eq_some_iff.mp h).1
        simpa using this
      rw [List.getElem?_set_self hl] at h
      cases h
      have hl2 : j < σ.length := by rw [E.len]; exact hl
      rw [List.getElem?_set_self hl2]
      simp only [if_true]
      exact ⟨v, rfl, r, ns, nd, g⟩
    · rw [List.getElem?_set_ne (Ne.symm hji)] at h ⊢
      simp only [if_neg hji]
      exact E.ok j sl h
  · have hj' : j < ρ.length := by simpa using hj
    have hk' : k < ρ.length := by simpa using hk
    by_cases hji : j = i
    · subst hji
      simp only [if_true] at ha
      simp only [if_neg (Ne.symm hne)] at hb
      exact sep k hk' (Ne.symm hne) a ha hb
    · rw [List.getElem?_set_ne (Ne.symm hji)] at ho
      simp only [if_neg hji] at ha
      by_cases hki : k = i
      · simp only [if_pos hki] at hb
        exact sep j hj' hji a hb ha
      · simp only [if_neg hki] at hb
        exact E.sep j k hne hj' hk' ho a ha hb
theorem off_set {i : Nat} {x : Option V} {σ : L2.St} : Off [i] σ (σ.set i x) := ⟨by simp, fun j hj => List.getElem?_set_ne fun e => hj (by simp [e])⟩
def sAsg (i : Nat) (m : DM) : DMS := fun ρ R => m ρ fun d => R.nx (ρ.set i (.own d))
theorem ds_asg (i : Nat) {te : TE} {m : DM} (h : DE K S te m []) : DS K S (tAsg te (gName i)) (sAsg i m) [i] := fun G H ρ σ fps E R hm D d =>
  h G H ρ σ fps E _ hm _ fun x v H1 fp hR e1 s1 r n f => by
    have E1 := E.step e1 s1
    refine d.nx _ _ H1 _ hR (E1.setOwn r n (f.2 rfl) (fun a ha => back_none E.ext (f.off a ha) (n a ha)) i fun j hj _ a ha hb => ?_) off_set
    obtain ⟨o, ho, _⟩ := E.thereAt hj a hb
    rw [f.off a ha] at ho
    cases ho
/-- all of U hold what is only read -/
def valsAt (ρ : En) (U : List Nat) : Prop := ∀ u ∈ U, ¬ isOwn ρ[u]?
def sAsgG (U : List Nat) (m : DM) (mg : DMg) : DMS := fun ρ R => valsAt ρ U ∧ m ρ fun d => mg d ρ R.nx
def sPar (i j : Nat) (ms : DMs) : DMS := fun ρ R => ms ρ fun ds => match ds with
  | [x, y] => R.nx ((ρ.set i (.own x)).set j (.own y))
  | _ => False
theorem ds_par (i j : Nat) {t : TA} {ms : DMs} (h : DA K S t ms []) (hij : i ≠ j := by decide) : DS K S (tPar i j t) (sPar i j ms) [i, j] := fun G H ρ σ fps E R hm D d =>
  h G H ρ σ fps E _ hm _ fun ds vs H1 fp hR e1 s1 r n f => by
    split at hR
    · rename_i x y
      simp only [Rps] at r
      obtain ⟨v, ys, g1, g2, rfl, rfl, r1, w, zs, g3, g4, rfl, rfl, r2, rfl, rfl⟩ := r
      rw [List.append_nil] at f n
      have E1 := E.step e1 s1
      have nd := f.2 rfl
      obtain ⟨nd1, nd2, nd3⟩ := List.nodup_append.mp nd
      have fr : ∀ a ∈ g1 ++ g3, ∀ k, k < ρ.length → a ∉ fps k := fun a ha k hk hb => by
        obtain ⟨o, ho, _⟩ := E.thereAt hk a hb
        rw [f.off a ha] at ho
        cases ho
      have gn : ∀ a ∈ g1 ++ g3, G a = none := fun a ha => back_none E.ext (f.off a ha) (n a ha)
      refine ⟨v, w, rfl, ?_⟩
      have E2 := E1.setOwn r1 (fun a ha => n a (List.mem_append_left _ ha)) nd1 (fun a ha => gn a (List.mem_append_left _ ha)) i fun k hk _ a ha hb => fr a (List.mem_append_left _ ha) k hk hb
      have E3 := E2.setOwn r2 (fun a ha => n a (List.mem_append_right _ ha)) nd2 (fun a ha => gn a (List.mem_append_right _ ha)) j fun k hk hkj a ha hb => by
        by_cases hki : k = i
        · simp only [if_pos hki] at hb
          exact nd3 a hb a ha rfl
        · simp only [if_neg hki] at hb
          exact fr a (List.mem_append_right _ ha) k (by simpa using hk) hb
      refine d.nx _ _ H1 _ hR E3 ⟨by simp, fun k hk => ?_⟩
      have k1 : j ≠ k := fun e => hk (by simp [e])
      have k2 : i ≠ k := fun e => hk (by simp [e])
      rw [List.getElem?_set_ne k1, List.getElem?_set_ne k2]
    · exact hR.elim
/-- an own list or dict, changed -/
theorem EnvAt.change {c : Zc} {G H : Hp} {ρ : En} {σ : L2.St} {fps : Nat → List Addr} (E : EnvAt c G H ρ σ fps) {i : Nat} {d d' : D} {a : Addr} {v : V} {o : HO} {fp' : List Addr} (hi : ρ[i]? = some (.own d)) (hv : σ[i]? = some (some v)) (ha : a ∈ fps i)
    (r : Rp c (upd H a o) d' v fp') (sub : ∀ b ∈ fp', b ∈ fps i ∨ (G b = none ∧ ¬ c.has b ∧ ∀ j, j < ρ.length → b ∉ fps j)) (nd : fp'.Nodup) :
    EnvAt c G (upd H a o) (ρ.set i (.own d')) σ (fun j => if j = i then fp' else fps j) := by
  have hl : i < ρ.length := (List.getElem?_eq_some_iff.mp hi).1
  have oki := E.ok i _ hi
  obtain ⟨v0, e0, r0, n0, nd0, g0⟩ := oki
  have han : ¬ c.has a := n0 a ha
  obtain ⟨o1, ho1, hf1⟩ := E.thereAt hl a ha
  have tk : Tk H (upd H a o) := fun b u hu hf => by
    rw [upd_ne fun z => by rw [z, ho1] at hu; cases hu; exact hf1 hf]
    exact hu
  have isO : isOwn ρ[i]? := by rw [hi]; trivial
  refine ⟨by rw [List.length_set]; exact E.len, fun b u hb hn => ?_, E.src.own han, fun j sl h => ?_, fun j k hne hj hk ho b hb1 hb2 => ?_⟩
  · rw [upd_ne fun z => by rw [z, g0 a ha] at hb; cases hb]
    exact E.ext b u hb hn
  · by_cases hji : j = i
    · subst hji
      rw [List.getElem?_set_self hl] at h
      cases h
      simp only [if_true]
      refine ⟨v, hv, r, fun b hb => ?_, nd, fun b hb => ?_⟩
      · rcases sub b hb with z | z
        · exact n0 b z
        · exact z.2.1
      · rcases sub b hb with z | z
        · exact g0 b z
        · exact z.1
    · rw [List.getElem?_set_ne (Ne.symm hji)] at h
      simp only [if_neg hji]
      have okj := E.ok j sl h
      have hjl : j < ρ.length := (List.getElem?_eq_some_iff.mp h).1
      have keep : ∀ b ∈ fps j, upd H a o b = H b := fun b hb => upd_ne fun z => E.sep i j (Ne.symm hji) hl hjl isO a ha (z ▸ hb)
      cases sl with
      | unk => exact okj
      | val dj => obtain ⟨w, f1, f2, f3⟩ := okj; exact ⟨w, f1, f2.mono tk _ _ _ keep, f3⟩
      | own dj => obtain ⟨w, f1, f2, f3⟩ := okj; exact ⟨w, f1, f2.mono tk _ _ _ keep, f3⟩
  · have hj' : j < ρ.length := by simpa using hj
    have hk' : k < ρ.length := by simpa using hk
    by_cases hji : j = i
    · subst hji
      simp only [if_true] at hb1
      simp only [if_neg (Ne.symm hne)] at hb2
      rcases sub b hb1 with z | z
      · exact E.sep j k hne hj' hk' isO b z hb2
      · exact z.2.2 k hk' hb2
    · rw [List.getElem?_set_ne (Ne.symm hji)] at ho
      simp only [if_neg hji] at hb1
      by_cases hki : k = i
      · simp only [if_pos hki] at hb2
        rcases sub b hb2 with z | z
        · exact E.sep j i hji hj' hl ho b hb1 z
        · exact z.2.2 j hj' hb1
      · simp only [if_neg hki] at hb2
        exact E.sep j k hne hj' hk' ho b hb1 hb2
/-- an own list -/
def ownL (s : Option Sl) (k : List D → Prop) : Prop := match s with
  | some (.own (.list ds)) => k ds
  | _ => False
theorem ownL_ok {s : Option Sl} {k : List D → Prop} (h : ownL s k) : ∃ ds, s = some (.own (.list ds)) ∧ k ds := by
  unfold ownL at h
  split at h
  · exact ⟨_, rfl, h⟩
  · exact h.elim
/-- x.append(e), x an own list -/
def sAppend (i : Nat) (m : DM) : DMS := fun ρ R => ownL ρ[i]? fun ds => m ρ fun y => ds.length < 10000000 ∧ R.nx (ρ.set i (.own (.list (ds ++ [y]))))
theorem ds_append (i : Nat) {te : TE} {m : DM} (h : DE K S te m []) : DS K S (tDrop (tBM K "list" rAppend (tVar i) (tCons te tNil))) (sAppend i m) [i] := fun G H ρ σ fps E R hm D d => by
  · obtain ⟨ds, hi, hm⟩ := ownL_ok hm
    obtain ⟨v, ev, r, n, nd, g⟩ := E.ok i _ hi
    have r' := r
    simp only [Rp] at r'
    obtain ⟨a, xs, gp, rfl, ef, hL, rs⟩ := r'
    refine ⟨.ref a, ev, .inl ⟨rfl, xs, .of hL⟩, h G H ρ σ fps E _ hm _ fun y w H1 fp hR e1 s1 ry ny fy => ?_⟩
    have han : ¬ Zc.has ⟨K, S⟩ a := n a (by rw [ef]; exact List.mem_cons_self ..)
    have hL1 : H1 a = some (.lst xs) := e1 a _ hL han
    have E1 := E.step e1 s1
    refine ⟨a, xs, w, rfl, rfl, hL1, by rw [rs.len]; exact Nat.lt_of_lt_of_le hR.1 (lim_ok (Nat.le_refl _)), ?_⟩
    have gpn : ∀ b ∈ gp, b ∈ fps i := fun b hb => by rw [ef]; exact List.mem_cons_of_mem _ hb
    have ndc : (a :: gp).Nodup := by rw [← ef]; exact nd
    have hag : a ∉ gp := (List.nodup_cons.mp ndc).1
    have hafp : a ∉ fp := fun z => by
      rw [fy.off a z] at hL
      cases hL
    have tk : Tk H1 (upd H1 a (.lst (xs ++ [w]))) := fun b u hu hf => by
      rw [upd_ne fun z => by rw [z, hL1] at hu; cases hu; exact hf]
      exact hu
    have rr : Rp ⟨K, S⟩ (upd H1 a (.lst (xs ++ [w]))) (.list (ds ++ [y])) (.ref a) (a :: (gp ++ fp)) := by
      simp only [Rp]
      refine ⟨a, xs ++ [w], gp ++ fp, rfl, rfl, upd_same, ?_⟩
      refine ((rs.ext (fun b hb => n b (gpn b hb)) e1 E.src).app (.one ry)).mono tk _ _ _ fun b hb => upd_ne fun z => ?_
      rcases List.mem_append.mp hb with z' | z'
      · exact hag (z ▸ z')
      · exact hafp (z ▸ z')
    refine d.nx _ σ _ _ hR.2 (E1.change hi ev (by rw [ef]; exact List.mem_cons_self ..) rr (fun b hb => ?_) ?_) ⟨rfl, fun _ _ => rfl⟩
    · rcases List.mem_cons.mp hb with z | hb
      · rw [z, ef]; exact .inl (List.mem_cons_self ..)
      · rcases List.mem_append.mp hb with z | z
        · exact .inl (gpn b z)
        · refine .inr ⟨back_none E.ext (fy.off b z) (ny b z), ny b z, fun j hj hb' => ?_⟩
          obtain ⟨o, ho, _⟩ := E.thereAt hj b hb'
          rw [fy.off b z] at ho
          cases ho
    · refine List.nodup_cons.mpr ⟨fun z => (List.mem_append.mp z).elim hag hafp, List.nodup_append.mpr ⟨(List.nodup_cons.mp ndc).2, fy.2 rfl, fun b hb b' hb' z => ?_⟩⟩
      subst z
      obtain ⟨o, ho, _⟩ := rs.there _ _ _ b hb
      rw [fy.off b hb'] at ho
      cases ho
end
end Z
set_option Elab.async false
set_option linter.all false
set_option maxRecDepth 100000
set_option maxHeartbeats 2000000
/-! Z4: loops; defs by their promises over data. -/
namespace Z
open PySem L2
section
variable {K : PySem.W.Frag} {S : Option (Addr × Addr)}
/-! ### for -/
/-- the slots outside W are only read -/
def demoteOff (W : List Nat) : Nat → En → En
  | _, [] => []
  | k, s :: ρ => (if W.contains k then s else match s with
    | .own d => .val d
    | s => s) :: demoteOff W (k + 1) ρ
theorem demoteOff_get (W : List Nat) : ∀ (ρ : En) (k j : Nat), (demoteOff W k ρ)[j]? = ρ[j]?.map fun s => if W.contains (k + j) then s else match s with
    | .own d => .val d
    | s => s
  | [], _, _ => by simp [demoteOff]
  | s :: ρ, k, 0 => by simp [demoteOff]
  | s :: ρ, k, j + 1 => by
    unfold demoteOff
    rw [List.getElem?_cons_succ, List.getElem?_cons_succ, demoteOff_get W ρ (k + 1) j, Nat.add_assoc, Nat.add_comm 1 j]
/-- behind a loop: the slots of W as the loop left them, the others as they were -/
def restore (W : List Nat) : Nat → En → En → En
  | k, s :: ρ, t :: τ => (if W.contains k then (match t with
    | .val d => if solid d = true then .val d else .unk
    | t => t) else s) :: restore W (k + 1) ρ τ
  | _, _, _ => []
theorem restore_get (W : List Nat) : ∀ (ρ τ : En) (k j : Nat) (s t : Sl), ρ[j]? = some s → τ[j]? = some t → (restore W k ρ τ)[j]? = some (if W.contains (k + j) then (match t with
    | .val d => if solid d = true then .val d else .unk
    | t => t) else s)
  | [], _, _, _, _, _, h, _ => by simp at h
  | _ :: _, [], _, _, _, _, _, h => by simp at h
  | s0 :: ρ, t0 :: τ, k, 0, s, t, h, h' => by
    cases h; cases h'
    simp [restore]
  | s0 :: ρ, t0 :: τ, k, j + 1, s, t, h, h' => by
    unfold restore
    rw [List.getElem?_cons_succ, restore_get W ρ τ (k + 1) j s t (by simpa using h) (by simpa using h'), Nat.add_assoc, Nat.add_comm 1 j]
theorem restore_len (W : List Nat) : ∀ (ρ τ : En) (k : Nat), ρ.length = τ.length → (restore W k ρ τ).length = ρ.length
  | [], [], _, _ => rfl
  | [], _ :: _, _, h => by simp at h
  | _ :: _, [], _, h => by simp at h
  | s :: ρ, t :: τ, k, h => by
    unfold restore
    rw [List.length_cons, List.length_cons, restore_len W ρ τ (k + 1) (by simpa using h)]
theorem EnvAt.hideF {c : Zc} {G H : Hp} {ρ : En} {σ : L2.St} {fps : Nat → List Addr} (E : EnvAt c G H ρ σ fps) (F : List Nat) : EnvAt c G H (hide F ρ) σ (fun j => if j ∈ F then [] else fps j) := by
  refine ⟨by rw [hide_length]; exact E.len, E.ext, E.src, fun j sl h => ?_, fun j k hne hj hk ho a ha hb => ?_⟩
  · by_cases hj : j ∈ F
    · rw [hide_in hj h]
      simp only [if_pos hj]
      rfl
    · rw [hide_out hj] at h
      simp only [if_neg hj]
      exact E.ok j sl h
  · rw [hide_length] at hj hk
    by_cases h1 : j ∈ F
    · simp only [if_pos h1] at ha
      cases ha
    · by_cases h2 : k ∈ F
      · simp only [if_pos h2] at hb
        cases hb
      · simp only [if_neg h1] at ha
        simp only [if_neg h2] at hb
        rw [hide_out h1] at ho
        exact E.sep j k hne hj hk ho a ha hb
def forD (mg : DMg) (mb : DMS) (F : List Nat) (R : DEnds) : List D → En → Prop
  | [], ρ => R.nx ρ
  | x :: xs, ρ => mg x ρ fun ρ1 => mb ρ1 ⟨fun ρ' => forD mg mb F R xs (hide F ρ'), R.rt, fun ρ' => R.nx (hide F ρ'), fun ρ' => forD mg mb F R xs (hide F ρ')⟩
def sFor (mi : DMs) (mg : DMg) (mb : DMS) (W F : List Nat) : DMS := fun ρ R => mi ρ fun xs => forD mg mb F ⟨fun ρ' => R.nx (restore W 0 ρ ρ'), R.rt, fun _ => False, fun _ => False⟩ xs (hide F (demoteOff W 0 ρ))
open Classical in
/-- all but the own objects of W's slots is held fast -/
noncomputable def pin (c : Zc) (H : Hp) (ρ : En) (fps : Nat → List Addr) (W : List Nat) : Hp := fun a => if (∃ i ∈ W, i < ρ.length ∧ isOwn ρ[i]? ∧ a ∈ fps i) ∨ c.has a then none else H a
theorem pin_some {c : Zc} {H : Hp} {ρ : En} {fps : Nat → List Addr} {W : List Nat} {a : Addr} {o : HO} (h : H a = some o) (hw : ∀ i ∈ W, i < ρ.length → isOwn ρ[i]? → a ∉ fps i) (n : ¬ c.has a) : pin c H ρ fps W a = some o := by
  unfold pin
  rw [if_neg]
  · exact h
  · rintro (⟨i, hi, hl, ho, ha⟩ | z)
    · exact hw i hi hl ho ha
    · exact n z
theorem pin_own {c : Zc} {H : Hp} {ρ : En} {fps : Nat → List Addr} {W : List Nat} {a : Addr} {i : Nat} (hi : i ∈ W) (hl : i < ρ.length) (ho : isOwn ρ[i]?) (ha : a ∈ fps i) : pin c H ρ fps W a = none := by
  unfold pin
  rw [if_pos (.inl ⟨i, hi, hl, ho, ha⟩)]
theorem pin_le {c : Zc} {H : Hp} {ρ : En} {fps : Nat → List Addr} {W : List Nat} : ∀ a o, pin c H ρ fps W a = some o → H a = some o := fun a o h => by
  unfold pin at h
  split at h
  · cases h
  · exact h
theorem EnvAt.enter {c : Zc} {G H : Hp} {ρ : En} {σ : L2.St} {fps : Nat → List Addr} (E : EnvAt c G H ρ σ fps) (W : List Nat) : EnvAt c (pin c H ρ fps W) H (demoteOff W 0 ρ) σ fps := by
  have len : (demoteOff W 0 ρ).length = ρ.length := by
    have h := demoteOff_get W ρ 0
    apply Nat.le_antisymm
    · refine Nat.le_of_not_lt fun z => ?_
      have := h ρ.length
      rw [List.getElem?_eq_getElem z, List.getElem?_eq_none (Nat.le_refl _)] at this
      cases this
    · refine Nat.le_of_not_lt fun z => ?_
      have := h (demoteOff W 0 ρ).length
      rw [List.getElem?_eq_none (Nat.le_refl _), List.getElem?_eq_getElem z] at this
      cases this
  have own : ∀ j, isOwn (demoteOff W 0 ρ)[j]? → isOwn ρ[j]? ∧ j ∈ W := fun j ho => by
    rw [demoteOff_get, Nat.zero_add] at ho
    cases hs : ρ[j]? with
    | none => rw [hs] at ho; exact ho.elim
    | some s =>
      rw [hs] at ho
      by_cases hw : W.contains j = true
      · simp only [Option.map_some, hw, if_true] at ho
        exact ⟨ho, by simpa using hw⟩
      · exfalso
        rw [Option.map_some, if_neg hw] at ho
        cases s <;> exact ho
  refine ⟨by rw [len]; exact E.len, fun a o h _ => pin_le a o h, E.src, fun j sl h => ?_, fun j k hne hj hk ho => ?_⟩
  · rw [demoteOff_get, Nat.zero_add] at h
    cases hs : ρ[j]? with
    | none => rw [hs] at h; cases h
    | some s =>
      rw [hs, Option.map_some] at h
      have ok := E.ok j s hs
      have hl : j < ρ.length := (List.getElem?_eq_some_iff.mp hs).1
      by_cases hw : W.contains j = true
      · rw [if_pos hw] at h
        cases h
        cases sl with
        | unk => exact ok
        | val d => exact ok
        | own d =>
          obtain ⟨v, a1, a2, a3, a4, a5⟩ := ok
          exact ⟨v, a1, a2, a3, a4, fun a ha => pin_own (by simpa using hw) hl (by rw [hs]; trivial) ha⟩
      · rw [if_neg hw] at h
        cases s with
        | unk => cases h; exact ok
        | val d => cases h; exact ok
        | own d => cases h; obtain ⟨v, a1, a2, a3, _⟩ := ok; exact ⟨v, a1, a2, a3⟩
  · rw [len] at hj hk
    exact E.sep j k hne hj hk (own j ho).1
theorem EnvAt.leave {c : Zc} {G H H' : Hp} {ρ ρ' : En} {σ σ' : L2.St} {fps fps' : Nat → List Addr} {W : List Nat} (E : EnvAt c G H ρ σ fps) (E' : EnvAt c (pin c H ρ fps W) H' ρ' σ' fps') (o : Off W σ σ') :
    ∃ fps2, EnvAt c G H' (restore W 0 ρ ρ') σ' fps2 := by
  have hl : ρ.length = ρ'.length := by rw [← E.len, ← E'.len, o.len]
  have gH : ∀ a u, G a = some u → ¬ c.has a → pin c H ρ fps W a = some u := fun a u h n => pin_some (E.ext a u h n) (fun i _ hil ho ha => by
    cases hs : ρ[i]? with
    | none => rw [hs] at ho; exact ho
    | some s =>
      rw [hs] at ho
      cases s with
      | own d =>
        obtain ⟨_, _, _, _, _, g⟩ := E.ok i _ hs
        rw [g a ha] at h
        cases h
      | _ => exact ho) n
  have pinned : ∀ j, j < ρ.length → j ∉ W → ∀ a ∈ fps j, pin c H ρ fps W a = H a := fun j hj hw a ha => by
    obtain ⟨u, hu, _⟩ := E.thereAt hj a ha
    rw [hu]
    exact pin_some hu (fun i hi hil ho hia => E.sep i j (fun z => hw (z ▸ hi)) hil hj ho a hia ha) (E.noS hj a ha)
  have stay : ∀ j, j < ρ.length → j ∉ W → ∀ a ∈ fps j, H' a = H a := fun j hj hw a ha => by
    obtain ⟨u, hu, _⟩ := E.thereAt hj a ha
    rw [hu]
    exact E'.ext a u (by rw [pinned j hj hw a ha]; exact hu) (E.noS hj a ha)
  have tk : Tk H H' := fun a u hu hf => E'.ext a u (pin_some hu (fun i _ hil _ ha => by
    obtain ⟨u', hu', hf'⟩ := E.thereAt hil a ha
    rw [hu] at hu'
    cases hu'
    exact hf' hf) (E.src.not_fix hu hf)) (E.src.not_fix hu hf)
  let fps2 : Nat → List Addr := fun j => if W.contains j then (match ρ'[j]? with
    | some (.own _) => fps' j
    | _ => []) else fps j
  have ownW : ∀ j s, ρ'[j]? = some s → W.contains j = true → ∀ a ∈ fps2 j, isOwn (some s) ∧ a ∈ fps' j := fun j s hs hw a ha => by
    simp only [fps2, hw, if_true, hs] at ha
    cases s with
    | own d => exact ⟨trivial, ha⟩
    | _ => cases ha
  refine ⟨fps2, by rw [restore_len W ρ ρ' 0 hl, hl]; exact E'.len, fun a u h n => E'.ext a u (gH a u h n) n, E'.src, fun j sl h => ?_, fun j k hne hj hk ho a ha hb => ?_⟩
  · have hjl : j < ρ.length := by
      have := (List.getElem?_eq_some_iff.mp h).1
      rw [restore_len W ρ ρ' 0 hl] at this
      exact this
    have e1 := List.getElem?_eq_getElem hjl
    have e2 := List.getElem?_eq_getElem (show j < ρ'.length by rw [← hl]; exact hjl)
    rw [restore_get W ρ ρ' 0 j _ _ e1 e2, Nat.zero_add] at h
    by_cases hw : W.contains j = true
    · rw [if_pos hw] at h
      have ok := E'.ok j _ e2
      cases hs : ρ'[j]'(by rw [← hl]; exact hjl) with
      | unk =>
        rw [hs] at h e2
        cases h
        simp only [fps2, hw, if_true, e2]
        rfl
      | val d =>
        rw [hs] at h e2 ok
        simp only [fps2, hw, if_true, e2]
        obtain ⟨v, a1, a2, a3⟩ := ok
        by_cases hsd : solid d = true
        · simp only [hsd, if_true] at h
          cases h
          have z := a2.solid _ _ _ hsd
          rw [z] at a2 a3
          exact ⟨v, a1, a2, a3⟩
        · simp only [if_neg hsd] at h
          cases h
          rfl
      | own d =>
        rw [hs] at h e2 ok
        cases h
        simp only [fps2, hw, if_true, e2]
        obtain ⟨v, a1, a2, a3, a4, a5⟩ := ok
        refine ⟨v, a1, a2, a3, a4, fun a ha => ?_⟩
        cases hg : G a with
        | none => rfl
        | some u =>
          have := gH a u hg (a3 a ha)
          rw [a5 a ha] at this
          cases this
    · rw [if_neg hw] at h
      cases h
      simp only [fps2, if_neg hw]
      have hjW : j ∉ W := by simpa using hw
      have ok := E.ok j _ e1
      have st := stay j hjl hjW
      rw [o.off j hjW]
      cases hs : ρ[j] with
      | unk => rw [hs] at ok; exact ok
      | val d => rw [hs] at ok; obtain ⟨v, a1, a2, a3⟩ := ok; exact ⟨v, a1, a2.mono tk _ _ _ st, a3⟩
      | own d => rw [hs] at ok; obtain ⟨v, a1, a2, a3⟩ := ok; exact ⟨v, a1, a2.mono tk _ _ _ st, a3⟩
  · rw [restore_len W ρ ρ' 0 hl] at hj hk
    have e1 := List.getElem?_eq_getElem hj
    have e2 := List.getElem?_eq_getElem (show j < ρ'.length by rw [← hl]; exact hj)
    have k1 := List.getElem?_eq_getElem hk
    have k2 := List.getElem?_eq_getElem (show k < ρ'.length by rw [← hl]; exact hk)
    rw [restore_get W ρ ρ' 0 j _ _ e1 e2, Nat.zero_add] at ho
    by_cases hw : W.contains j = true
    · obtain ⟨z1, z2⟩ := ownW j _ e2 hw a ha
      by_cases hwk : W.contains k = true
      · obtain ⟨_, z4⟩ := ownW k _ k2 hwk a hb
        exact E'.sep j k hne (by rw [← hl]; exact hj) (by rw [← hl]; exact hk) (by rw [e2]; exact z1) a z2 z4
      · simp only [fps2, if_neg hwk] at hb
        have hkW : k ∉ W := by simpa using hwk
        have ok := E'.ok j _ e2
        cases hs : ρ'[j]'(by rw [← hl]; exact hj) with
        | own d =>
          rw [hs] at ok
          obtain ⟨_, _, _, _, _, a5⟩ := ok
          have := a5 a z2
          rw [pinned k hk hkW a hb] at this
          obtain ⟨u, hu, _⟩ := E.thereAt hk a hb
          rw [hu] at this
          cases this
        | unk => rw [hs] at z1; exact z1
        | val d => rw [hs] at z1; exact z1
    · simp only [fps2, if_neg hw] at ha
      rw [if_neg hw] at ho
      have hjW : j ∉ W := by simpa using hw
      have hoj : isOwn ρ[j]? := by rw [e1]; exact ho
      by_cases hwk : W.contains k = true
      · obtain ⟨z3, z4⟩ := ownW k _ k2 hwk a hb
        have ok := E'.ok k _ k2
        cases hs : ρ'[k]'(by rw [← hl]; exact hk) with
        | own d =>
          rw [hs] at ok
          obtain ⟨_, _, _, _, _, a5⟩ := ok
          have := a5 a z4
          rw [pinned j hj hjW a ha] at this
          obtain ⟨u, hu, _⟩ := E.thereAt hj a ha
          rw [hu] at this
          cases this
        | unk => rw [hs] at z3; exact z3
        | val d => rw [hs] at z3; exact z3
      · simp only [fps2, if_neg hwk] at hb
        exact E.sep j k hne hj hk hoj a ha hb
theorem ds_for {wi : TI} {g : TG} {tb : TS} {mi : DMs} {mg : DMg} {mb : DMS} {U Wg Wb F : List Nat} {w : Bool} (hi : DI w K S wi mi U) (hg : DG w K S g mg Wg) (hb : DS K S tb mb Wb) (hU : U.all (fun u => !(Wg ++ Wb).contains u) = true) :
    DS K S (tFor wi g tb) (sFor mi mg mb (Wg ++ Wb) F) (Wg ++ Wb) := fun G H ρ σ fps E R hm D d =>
  hi G H ρ σ fps E _ hm _ fun xs J H1 FP hR e1 s1 J1 nF tF fF => by
    have E1 := E.step e1 s1
    have FPin : ∀ a ∈ FP, ∀ i, i ∈ Wg ++ Wb → i < ρ.length → isOwn ρ[i]? → a ∉ fps i := fun a ha i hiW hil ho hia => by
      rcases fF.1 a ha with z | ⟨u, hu, hul, z⟩
      · obtain ⟨o, ho', _⟩ := E.thereAt hil a hia
        rw [z] at ho'
        cases ho'
      · have hx := List.all_eq_true.mp hU u hu
        have hne : i ≠ u := fun q => by
          subst q
          have : (Wg ++ Wb).contains i = true := by simpa using hiW
          rw [this] at hx
          cases hx
        exact E.sep i u hne hil hul ho a hia z
    let Pv : Nat → L2.St → Hp → Prop := fun i σ' H' => ∃ (ρ' : En) (fps' : Nat → List Addr), EnvAt ⟨K, S⟩ (pin ⟨K, S⟩ H1 ρ fps (Wg ++ Wb)) H' ρ' σ' fps' ∧ Off (Wg ++ Wb) σ σ' ∧
      forD mg mb F ⟨fun ρ' => R.nx (restore (Wg ++ Wb) 0 ρ ρ'), R.rt, fun _ => False, fun _ => False⟩ (xs.drop i) ρ'
    have fin : ∀ (ρ' : En) (σ' : L2.St) (H' : Hp) (fps' : Nat → List Addr), R.nx (restore (Wg ++ Wb) 0 ρ ρ') → EnvAt ⟨K, S⟩ (pin ⟨K, S⟩ H1 ρ fps (Wg ++ Wb)) H' ρ' σ' fps' → Off (Wg ++ Wb) σ σ' → D.nx σ' H' := fun ρ' σ' H' fps' hn E' o => by
      obtain ⟨fps2, E2⟩ := E1.leave E' o
      exact d.nx _ σ' H' fps2 hn E2 o
    have rtk : ∀ x v H' fp, R.rt x → Ext ⟨K, S⟩ (pin ⟨K, S⟩ H1 ρ fps (Wg ++ Wb)) H' → SrcAt ⟨K, S⟩ H' → Rp ⟨K, S⟩ H' x v fp → NoS ⟨K, S⟩ fp → fp.Nodup → (∀ a ∈ fp, pin ⟨K, S⟩ H1 ρ fps (Wg ++ Wb) a = none) → D.rt v H' := fun x v H' fp hr xe se r n nd fr => by
      have gp : ∀ a u, G a = some u → ¬ Zc.has ⟨K, S⟩ a → pin ⟨K, S⟩ H1 ρ fps (Wg ++ Wb) a = some u := fun a u h nn => pin_some (E1.ext a u h nn) (fun i _ hil ho ha => by
        cases hs : ρ[i]? with
        | none => rw [hs] at ho; exact ho
        | some s =>
          rw [hs] at ho
          cases s with
          | own d =>
            obtain ⟨_, _, _, _, _, g⟩ := E.ok i _ hs
            rw [g a ha] at h
            cases h
          | _ => exact ho) nn
      refine d.rt x v H' fp hr (fun a u h nn => xe a u (gp a u h nn) nn) se r n nd fun a ha => ?_
      cases hg' : G a with
      | none => rfl
      | some u =>
        have := gp a u hg' (n a ha)
        rw [fr a ha] at this
        cases this
    refine for_it J1 Pv ⟨hide F (demoteOff (Wg ++ Wb) 0 ρ), _, (E1.enter (Wg ++ Wb)).hideF F, .refl _ _, hR⟩ (fun i σ' H' _ p => ?_) (fun i x σ' H' H'' hlt p y => ?_) fun σ' H' p => ?_
    · obtain ⟨ρ', fps', E', o, _⟩ := p
      refine ⟨fun a u hu hf => E'.ext a u (pin_some hu (fun i _ hil _ ha => ?_) (s1.not_fix hu hf)) (s1.not_fix hu hf), fun a ha => ?_, E'.src⟩
      · obtain ⟨u', hu', hf'⟩ := E1.thereAt hil a ha
        rw [hu] at hu'
        cases hu'
        exact hf' hf
      · obtain ⟨u, hu⟩ := tF a ha
        rw [hu]
        exact E'.ext a u (pin_some hu (FPin a ha) (nF a ha)) (nF a ha)
    · obtain ⟨ρ', fps', E', o, hf⟩ := p
      obtain ⟨y1, sy, dd, fp, hd, rd, subd⟩ := y
      have hdrop : xs.drop i = dd :: xs.drop (i + 1) := by
        obtain ⟨hlt', hd'⟩ := List.getElem?_eq_some_iff.mp hd
        rw [← hd']
        exact List.drop_eq_getElem_cons hlt'
      rw [hdrop] at hf
      have E2 := E'.step y1 sy
      refine hg _ H'' ρ' σ' fps' E2 dd x fp rd (fun a ha => nF a (subd a ha)) (fun j hj ho a ha hb' => ?_) _ hf _ fun ρ2 σ2 fps2 hR2 E3 g3 => ?_
      · -- an own slot's objects are not held fast
        cases hs : ρ'[j]? with
        | none => rw [hs] at ho; exact ho
        | some s =>
          rw [hs] at ho
          cases s with
          | own dj =>
            obtain ⟨_, _, _, _, _, g⟩ := E'.ok j _ hs
            obtain ⟨u, hu⟩ := tF a (subd a hb')
            have := pin_some (ρ := ρ) (fps := fps) (W := Wg ++ Wb) hu (FPin a (subd a hb')) (nF a (subd a hb'))
            rw [g a ha] at this
            cases this
          | _ => exact ho
      · have o2 : Off (Wg ++ Wb) σ σ2 := o.join ⟨by rw [E3.len, g3.len, E'.len], fun j hj => (g3.off j fun z => hj (List.mem_append_left _ z)).1⟩
        have step : ∀ (ρ4 : En) (σ4 : L2.St) (H4 : Hp) (fps4 : Nat → List Addr), forD mg mb F ⟨fun ρ' => R.nx (restore (Wg ++ Wb) 0 ρ ρ'), R.rt, fun _ => False, fun _ => False⟩ (xs.drop (i + 1)) (hide F ρ4) →
            EnvAt ⟨K, S⟩ (pin ⟨K, S⟩ H1 ρ fps (Wg ++ Wb)) H4 ρ4 σ4 fps4 → Off Wb σ2 σ4 → Pv (i + 1) σ4 H4 := fun ρ4 σ4 H4 fps4 h4 E4 o4 =>
          ⟨hide F ρ4, _, E4.hideF F, o2.join (o4.up fun j h => List.mem_append_right _ h), h4⟩
        exact hb _ H'' ρ2 σ2 fps2 E3 _ hR2 _ ⟨step, fun ρ4 σ4 H4 fps4 h4 E4 o4 => fin (hide F ρ4) σ4 H4 _ h4 (E4.hideF F) (o2.join (o4.up fun j h => List.mem_append_right _ h)), step, rtk⟩
    · obtain ⟨ρ', fps', E', o, hf⟩ := p
      rw [List.drop_eq_nil_of_le (Nat.le_refl _)] at hf
      exact fin ρ' σ' H' fps' hf E' o
/-! ### while -/
/-! ### defs -/
/-- a promise over data: for the data ds, whatever R holds of all that spec tells, R holds of what is handed back; nothing that stood is changed -/
def spD (K : PySem.W.Frag) (spec : List D → (D → Prop) → Prop) : Sp := fun vs H Q _ => ∃ (S : Option (Addr × Addr)) (ds : List D) (fp : List Addr) (R : D → Prop), Rps ⟨K, S⟩ H ds vs fp ∧ NoS ⟨K, S⟩ fp ∧ SrcAt ⟨K, S⟩ H ∧ spec ds R ∧
  ∀ d v H' gp, R d → Ext ⟨K, S⟩ H H' → SrcAt ⟨K, S⟩ H' → Rp ⟨K, S⟩ H' d v gp → NoS ⟨K, S⟩ gp → gp.Nodup → (∀ a ∈ gp, H a = none) → Q v H'
theorem de_call {spec : List D → (D → Prop) → Prop} {E : XK} {t : TA} {ms : DMs} {U : List Nat} (h : DA K S t ms U) : DE K S (tCall (spD K spec) [] E t) (dCall spec ms) [] := fun G H ρ σ fps En R hm Q q =>
  h G H ρ σ fps En _ hm _ fun ds vs H1 fp hR e1 s1 r n f => by
    rw [List.append_nil]
    exact ⟨S, ds, fp, R, r, n, s1, hR, fun d v H' gp hd e2 s2 r2 n2 nd fr => q d v H' gp hd (e1.trans e2) s2 r2 n2 (.fresh (fun a ha => e1.free (fr a ha) (n2 a ha)) nd)⟩
theorem spD_len {spec : List D → (D → Prop) → Prop} {n : Nat} (hs : ∀ ds R, spec ds R → ds.length = n) : ∀ vs H Q E, spD K spec vs H Q E → vs.length = n := fun vs H Q E h => by
  obtain ⟨S, ds, fp, R, r, _, _, hsp, _⟩ := h
  rw [r.len]
  exact hs ds R hsp
/-- the slots at a def's start -/
def startE (N : List Str) (ds : List D) : En := ds.map Sl.val ++ List.replicate (N.length - ds.length) .unk
theorem envStart {c : Zc} {H : Hp} {ds : List D} {vs : List V} {fp : List Addr} (N : List Str) (r : Rps c H ds vs fp) (n : NoS c fp) (s : SrcAt c H) : ∃ fps, EnvAt c H H (startE N ds) (L2.start N vs) fps := by
  have pick : ∀ i : Nat, ∃ gp : List Addr, ∀ d, ds[i]? = some d → ∃ v, vs[i]? = some v ∧ Rp c H d v gp ∧ NoS c gp := fun i => by
    cases h : ds[i]? with
    | none => exact ⟨[], fun d z => by cases z⟩
    | some d =>
      obtain ⟨x, gp, e1, e2, e3, _⟩ := r.at h
      exact ⟨gp, fun d' z => by cases z; exact ⟨x, e1, e2, fun a ha => n a (e3 a ha)⟩⟩
  refine ⟨fun i => if i < ds.length then Classical.choose (pick i) else [], by simp [startE, L2.start, r.len], Ext.refl _ _, s, fun i sl h => ?_, fun i j _ _ _ ho => ?_⟩
  · unfold startE at h
    by_cases hi : i < ds.length
    · rw [List.getElem?_append_left (by simpa using hi), List.getElem?_map, List.getElem?_eq_getElem hi] at h
      cases h
      simp only [if_pos hi]
      obtain ⟨v, e1, e2, e3⟩ := Classical.choose_spec (pick i) _ (List.getElem?_eq_getElem hi)
      refine ⟨v, ?_, e2, e3⟩
      unfold L2.start
      rw [List.getElem?_append_left (by simp only [List.length_map]; rw [r.len]; exact hi), List.getElem?_map, e1]
      rfl
    · rw [List.getElem?_append_right (by simpa using Nat.le_of_not_lt hi)] at h
      have hx := List.mem_of_getElem? h
      rw [List.eq_of_mem_replicate hx]
      simp only [if_neg hi]
      rfl
  · exfalso
    unfold startE at ho
    by_cases hi : i < ds.length
    · rw [List.getElem?_append_left (by simpa using hi), List.getElem?_map, List.getElem?_eq_getElem hi] at ho
      exact ho
    · rw [List.getElem?_append_right (by simpa using Nat.le_of_not_lt hi)] at ho
      cases hx : (List.replicate (N.length - ds.length) Sl.unk)[i - (ds.map Sl.val).length]? with
      | none => rw [hx] at ho; exact ho
      | some s =>
        have := List.eq_of_mem_replicate (List.mem_of_getElem? hx)
        rw [hx, this] at ho
        exact ho
/-- what a def's body is to give -/
def retE (R : D → Prop) : DEnds := { nx := fun _ => R .none, rt := R }
theorem body_of {X : Cx} {body : List Stmt} {t : TS} {m : Option (Addr × Addr) → DMS} {W : List Nat} {spec : List D → (D → Prop) → Prop} {vs : List V} {H : Hp} {Q : VK} {E : XK} (N : List Str) (hp : PSs X body t) (hs : ∀ S, DS K S t (m S) W) (h : spD K spec vs H Q E)
    (hm : ∀ S ds R, spec ds R → m S (startE N ds) (retE R)) : ∃ t, PSs X body t ∧ t { nx := fun _ H' => Q .non H', rt := Q } (L2.start N vs) H := by
  obtain ⟨S, ds, fp, R, r, n, s, hsp, q⟩ := h
  obtain ⟨fps, E0⟩ := envStart N r n s
  refine ⟨t, hp, hs S H H _ _ fps E0 _ (hm S ds R hsp) _ ⟨fun ρ' σ' H' f hn E' _ => q .none .non H' [] hn E'.ext E'.src (non_rp H') .nil List.nodup_nil (fun a h => nomatch h), fun _ _ _ _ h => False.elim h, fun _ _ _ _ h => False.elim h, fun d v H' gp hd e s' r' n' nd fr => q d v H' gp hd e s' r' n' nd fr⟩⟩
end
end Z
set_option Elab.async false
set_option linter.all false
set_option maxRecDepth 100000
set_option maxHeartbeats 4000000
/-! Z5: rules by values: enumerate of tuples, == of data, repr of data. -/
namespace Z
open PySem L2
/-! ### enumerate(tuple) -/
theorem meets_enum1 {v : Value} {o : Obj} {B : Heap → Prop} (b : Begins v o B) :
    Meets (Builtin.«enumerate.__new__» ⟨[.type "enumerate", v], []⟩) (fun _ R s => B s.heap ∧
      R (.ok (.ret (.ref (s.heap.push o).objs.size))) { s with heap := (s.heap.push o).push { cls := .type "enumerate", data := .fields #[.none, .bool false, .ref s.heap.objs.size, rawInt 0, .none, .none] } }) :=
  .of_wp fun prog w A R s h => by
    obtain ⟨hp, g, d, tk, os⟩ := s
    obtain ⟨h1, h2⟩ := h
    have hsub := sub_enumerate
    have road : ∀ {A' : Around} {E : Value → Shared → Prop} {Q : Value → Shared → Prop}, Q (.ref hp.objs.size) ⟨hp.push o, g, d, tk, os⟩ → wpAny (model prog w) A' (pyIter v) Q E ⟨hp, g, d, tk, os⟩ := fun q => b.iter prog w _ _ ⟨hp, g, d, tk, os⟩ _ h1 q
    wp_walk using road
    refine wpAny_stack_any fun st => wpAny_pure ?_
    split
    · rename_i c _ _ _ _ _
      cases (c == Value.type "enumerate") <;> (wp_walk using road; exact ⟨_, rfl, h2⟩)
    · wp_walk using road
      exact ⟨_, rfl, h2⟩
theorem enum_starts {prog : Program} {w : World} {A : Around} {E : Value → Shared → Prop} {s : Shared} {v : Value} {o : Obj} {B : Heap → Prop} {Q : Value → Shared → Prop} (b : Begins v o B) (h1 : B s.heap)
    (h : ∀ h', IsEnum h' (s.heap.objs.size + 1) s.heap.objs.size 0 .none → h'.get? s.heap.objs.size = some o → (∀ c u, s.heap.get? c = some u → h'.get? c = some u) → Q (.ref (s.heap.objs.size + 1)) { s with heap := h' }) :
    wpAny (model prog w) A (call (.type "enumerate") [v]) Q E s := by
  refine callType_new F.called_enumerate (by decide) (F.typeCall_enumerate_1 _) (F.newCall_enumerate_1 _) (fun obj => F.args_object_init_2 obj _) F.entry_enumerate_new (meets_enum1 b) ⟨h1, ?_⟩
  have hz : (s.heap.push o).objs.size = s.heap.objs.size + 1 := Heap.size_push ..
  have he : IsEnum ((s.heap.push o).push { cls := .type "enumerate", data := .fields #[.none, .bool false, .ref s.heap.objs.size, rawInt 0, .none, .none] }) (s.heap.objs.size + 1) s.heap.objs.size 0 .none := by
    have x := Heap.get?_push_size (s.heap.push o) (o := { cls := .type "enumerate", data := .fields #[.none, .bool false, .ref s.heap.objs.size, rawInt 0, .none, .none] }) rfl
    rwa [hz] at x
  show _ ∧ _
  rw [hz]
  exact ⟨⟨_, he, rfl⟩, h _ he (Heap.get?_push_of_some _ (Heap.get?_push_size _ b.free)) fun c u x => Heap.get?_push_of_some _ (Heap.get?_push_of_some _ x)⟩
def IteT (K : PySem.W.Frag) (a : Addr) : It :=
  ⟨fun i H => ∃ (xs : List V) (x : V), SqT K H a xs ∧ xs[i]? = some x, fun i H v H' => ∃ T x, v = .ref T ∧ H T = none ∧ H' = upd H T (.tup [.int (i : Nat), x]) ∧ ∀ xs, SqT K H a xs → xs[i]? = some x, fun i H => ∃ xs : List V, SqT K H a xs ∧ xs.length = i⟩
theorem turn_enumT {P : Program} {w : World} {K : PySem.W.Frag} {elts : List Expr} {kk : Nat} {tpos : Pos} (a e it : Addr) :
    Turn P w K (.Tuple elts kk tpos) (IteT K a) [e, it] e (fun i h => (∃ old, IsEnum h e it ((i : Nat) : Int) old) ∧ h.IsTupleIter it a i ∧ e ≠ it ∧ a ≠ it ∧ e ≠ a) where
  mem := List.mem_cons_self ..
  obj := fun i h st b hb => by
    obtain ⟨⟨old, he⟩, ⟨o, ho, _, hd⟩, _⟩ := st
    rcases List.mem_cons.mp hb with z | hb
    · subst z
      exact ⟨_, he, fun v q => by cases q⟩
    · exact ⟨o, (List.mem_singleton.mp hb) ▸ ho, fun v q => by rw [hd] at q; cases q⟩
  keep := fun i h h' st k => by
    obtain ⟨⟨old, he⟩, hi, hr⟩ := st
    exact ⟨⟨old, k e (List.mem_cons_self ..) _ he⟩, hi.at fun o q => k it (List.mem_cons_of_mem _ (List.mem_cons_self ..)) o q, hr⟩
  item := by
    intro X hP hw hK hc i pins s σ H E I hf st hg
    subst hP hw hK
    obtain ⟨⟨old, he⟩, hit, hne, hai, hea⟩ := st
    obtain ⟨xs, x, hq, hx⟩ := hg
    obtain ⟨its, rv, p, hz⟩ := I.tuple hq
    obtain ⟨u, hu, ru⟩ := rv.get hx
    have hel : e < s.heap.objs.size := Heap.lt_size he
    have hil : it < s.heap.objs.size := by obtain ⟨_, q, _⟩ := hit; exact Heap.lt_size q
    have hi : i < its.length := (List.getElem?_eq_some_iff.mp hu).1
    have hd : X.A.in1.handled = none := I.ok.hd hc
    have tup : s.heap.IsTuple a its.toArray := p
    refine wpAny_pyNext_enum_itemC (Draws.tuple hd it a hai its.toArray) he ⟨hit, tup⟩ (by simpa using hi) hne (by simp only [List.mem_cons, List.not_mem_nil, or_false, not_or]; exact ⟨hne, hea⟩) fun y h' tk hy ho hst hT hsz hk => ?_
    have ey : u = y := by
      have h0 : its[i]? = some y := by simpa using hy
      rw [hu] at h0
      exact Option.some.inj h0
    subst ey
    refine ⟨_, rfl, wpAny_letOwnedTupleGo_enum (s := { s with heap := h', toks := tk + 1 }) ho fun h'' he' sb => ?_⟩
    have hT2 : h''.get? s.heap.objs.size = some { cls := .type "tuple", data := .seq #[.int i tk, u] } := (sb.2 _ (Nat.ne_of_gt hel)).trans hT
    have new : ObjOk X.prog X.w (upd H s.heap.objs.size (.tup [.int (i : Nat), x])) h'' s.heap.objs.size (.tup [.int (i : Nat), x]) :=
      ⟨lim_ok (show 2 ≤ 10000000 by decide), [.int i tk, u], .cons ⟨_, rfl⟩ (.cons ru .nil), ⟨_, hT2, rfl, _, rfl⟩⟩
    have I1 : Inv X pins σ (upd H s.heap.objs.size (.tup [.int (i : Nat), x])) { s with heap := h'', toks := tk + 1 } :=
      I.turnedNew (ch := [e, it]) (fun b ob hb q => (sb.2 b fun z => hb (by simp [z])).trans (hk b ob (fun z => hb (by simp [z])) (fun z => hb (by simp [z])) q)) hf (Nat.le_refl _) new
    refine ⟨.ref s.heap.objs.size, _, I1, rfl, ⟨_, x, rfl, I.hok.fresh (Nat.le_refl _), rfl, fun ys hy' => by rw [I.tuple_inj hy' hq]; exact hx⟩, ⟨⟨u, ?_⟩, hst.1.at fun o q => (sb.2 it (Ne.symm hne)).trans q, hne, hai, hea⟩, fun b hb => ?_⟩
    · rw [show ((i + 1 : Nat) : Int) = (i : Int) + 1 by omega]
      exact he'
    · have hlt : b < s.heap.objs.size := by
        rcases List.mem_cons.mp hb with z | hb
        · exact z ▸ hel
        · exact (List.mem_singleton.mp hb) ▸ hil
      rw [upd_ne (Nat.ne_of_lt hlt)]
      exact (hf b hb).1
  done := by
    intro X hP hw hK hc i pins s σ H E I hf st hg
    subst hP hw hK
    obtain ⟨⟨old, he⟩, hit, hne, hai, hea⟩ := st
    obtain ⟨xs, hq, hx⟩ := hg
    obtain ⟨its, rv, p, hz⟩ := I.tuple hq
    obtain ⟨f0, f1, f2, f3, f4, f5⟩ := hf it (List.mem_cons_of_mem _ (List.mem_cons_self ..))
    have hn : i = its.toArray.size := by rw [← hx, rv.length]; simp
    have hd : X.A.in1.handled = none := I.ok.hd hc
    refine wpAny_pyNext_enum_endD (Draws.tuple hd it a hai its.toArray) he ⟨hn ▸ hit, p⟩ fun h' eb => ⟨rfl, I.turned (t' := s.toks) (fun b o hb q => eb b o hb q) f0 f1 f3 f4 f5⟩
  self := fun A i s Q E st h => by
    obtain ⟨⟨_, he⟩, _⟩ := st
    exact wpAny_pyIter_enum he h
/-- enumerate of a list or a tuple -/
def iEnumS (K : PySem.W.Frag) (ta : TA) : TI := fun σ H R => ta σ H fun vs H1 => ∃ a xs, vs = [.ref a] ∧ ((SqL K H1 a xs ∧ R (Ite K a) H1) ∨ (SqT K H1 a xs ∧ R (IteT K a) H1))
theorem pi_enumS {X : Cx} {e : Expr} {ta : TA} {p pos tpos : Pos} {elts : List Expr} {kk : Nat} (hg : Gl X "enumerate") (hm : X.mg "enumerate" = none) (ha : PA X [e] ta) (hs : starEach [e] X.env = [(false, eval e X.env)] := by rfl) :
    PI X (.Tuple elts kk tpos) (.Call (.Name "enumerate" p) [e] [] pos) (iEnumS X.K ta) := ⟨fun pins s σ H R I h => by
  refine PyProof.Rows.Call_ (ld_blt I hg hm PyProof.Rows.boot_enumerate (PyProof.Rows.callWith_type1 (thn (ha.run pos pins s σ H _ I h) fun us s1 ⟨vs, H1, I1, r1, q1⟩ => ?_) hs rfl))
  obtain ⟨a, xs, rfl, q⟩ := q1
  obtain ⟨u, rfl, ru⟩ := vals1 r1
  cases ru
  have fps : ∀ b ∈ [s1.heap.objs.size + 1, s1.heap.objs.size], FpOk X pins H1 b := fun b hb => by
    have hle : s1.heap.objs.size ≤ b := by
      rcases List.mem_cons.mp hb with z | hb
      · exact z ▸ Nat.le_succ _
      · exact (List.mem_singleton.mp hb) ▸ Nat.le_refl _
    exact I1.fpOk hle (I1.hok.fresh hle)
  rcases q with ⟨hq, q⟩ | ⟨hq, q⟩
  · obtain ⟨its, rv, p', hz⟩ := I1.list hq
    exact call_enumerate_list p'.isList fun h' he hit hsz hk => wpAny_pyIter_enum he ⟨_, [_, _], _, _, H1, rfl, I1.kept (t' := s1.toks) hk, turn_enum a (s1.heap.objs.size + 1) s1.heap.objs.size, ⟨⟨.none, he⟩, hit, Nat.succ_ne_self _⟩, fps, q⟩
  · obtain ⟨its, rv, p', hz⟩ := I1.tuple hq
    have tup : s1.heap.IsTuple a its.toArray := p'
    have hal : a < s1.heap.objs.size := by obtain ⟨o, ho, _⟩ := tup; exact Heap.lt_size ho
    exact enum_starts (begins_tuple a its.toArray) tup fun h' he hit hk => wpAny_pyIter_enum he ⟨_, [_, _], _, _, H1, rfl, I1.kept (t' := s1.toks) hk, turn_enumT a (s1.heap.objs.size + 1) s1.heap.objs.size, ⟨⟨.none, he⟩, ⟨_, hit, rfl, rfl⟩, Nat.succ_ne_self _, Nat.ne_of_lt hal, Nat.ne_of_gt (Nat.lt_succ_of_lt hal)⟩, fps, q⟩⟩
end Z
set_option Elab.async false
set_option linter.all false
set_option maxRecDepth 100000
set_option maxHeartbeats 4000000
/-! Z6: promises where no repr is running around (for repr); the end. -/
namespace Z
open PySem PySem.Spec PyProof.Rows L2
/-- a def's promise, called where no repr runs -/
structure FnG (P : Program) (w : World) (K : PySem.W.Frag) (mg : Str → Option Value) (base : Heap) (k : Nat) (f : Addr) (fd : FuncData) (ps : List Str) (sp : Sp) : Prop where
  len : ∀ vs H Q E, sp vs H Q E → vs.length = ps.length
  run : ∀ (A : Around) (outer : List Env) (s : Shared) (H : Hp) (args : Args) (us : List Value) (vs : List V) (Q : VK) (E : XK), Room k A → A.guards = some [] → Env0 P w K mg base A outer s H → BindsTo s fd args (ps.zip us) → Vals vs us → sp vs H Q E →
    codeAny (model P w) A (.call (.ref f) args) (CR CX0 outer P w H s Q E) s
theorem FnG.mono {P : Program} {w : World} {K : PySem.W.Frag} {mg : Str → Option Value} {base : Heap} {j k : Nat} {f : Addr} {fd : FuncData} {ps : List Str} {sp : Sp} (F : FnG P w K mg base j f fd ps sp) (h : j ≤ k) : FnG P w K mg base k f fd ps sp :=
  ⟨F.len, fun A outer s H args us vs Q E r => F.run A outer s H args us vs Q E (r.mono h)⟩
/-- a name of the module that holds a def with a promise over data -/
structure FnAt (P : Program) (w : World) (K : PySem.W.Frag) (mg : Str → Option Value) (base : Heap) (x : Str) (k : Nat) (n : Nat) (sp : Sp) : Prop where
  ex : ∃ (f : Addr) (fd : FuncData) (ps : List Str), ps.length = n ∧ mg x = some (.ref f) ∧ PySem.W.keepIn K (.ref f) = true ∧ Binds K fd ps [] ∧ FnG P w K mg base k f fd ps sp
section
variable {X : Cx} {k n : Nat} {sp : Sp} {x : Str} {p pos : Pos} {e : Expr} {es : List Expr} {t : TA}
theorem pe_callG (F : FnAt X.prog X.w X.K X.mg X.base x k n sp) (hr : Room k X.A) (hgd : X.A.guards = some []) (hg : Gl X x) (ha : PA X (e :: es) t) (hdb : (x == ("__debug__" : Str)) = false := by decide)
    (he : starEach (e :: es) X.env = (false, eval e X.env) :: starEach es X.env := by rfl) (hpl : (backTo pos (starEach es X.env)).any (·.1) = false := by rfl) : PE X (.Call (.Name x p) (e :: es) [] pos) (tCall sp [] E0 t) := ⟨fun pins s σ H Q I h => by
  obtain ⟨f, fd, ps, _, hm, hk, hb, G⟩ := F.ex
  refine wpAny_Call_Name_kw (ld_glob I hg hm ?_ hdb)
  refine PySem.W.callWith_K (h₀ := X.base) I.ok.mod.kin hk (thn (ha.run pos pins s σ H _ I h) fun us s1 ⟨vs, H1, I1, r, q⟩ => ⟨I1.kIn, ?_⟩) he hpl
  have q : sp vs H1 Q E0 := by
    have q0 : sp (vs ++ []) H1 Q E0 := q
    rwa [List.append_nil] at q0
  have hl : (us ++ []).length = ps.length := by rw [List.append_nil, ← r.length]; exact G.len _ _ _ _ q
  have hb' := hb s1 us I1.kIn hl
  rw [List.append_nil] at hb'
  refine wpAny_call (codeAny_mono (G.run X.A X.stack s1 H1 ⟨us, []⟩ us vs Q E0 hr hgd I1.env0 hb' r q) fun r' s' hq => ?_)
  cases r' with
  | error e => exact False.elim hq
  | ok fl =>
    cases fl with
    | ret u => exact I1.after hq
    | next => exact False.elim hq
    | brk => exact False.elim hq
    | cont => exact False.elim hq⟩
end
section
variable {P : Program} {w : World} {K : PySem.W.Frag} {mg : Str → Option Value} {base : Heap}
/-- a def of the text: its body's reading keeps the promise -/
theorem fnG_of {x qual : Str} {st : Stmt} {f : Addr} {fd : FuncData} {N ps : List Str} {k : Nat} {sp : Sp} (F : Fun K x qual st f fd) (S : FnScope N ps (defScope st)) (len : ∀ vs H Q E, sp vs H Q E → vs.length = ps.length)
    (hbody : ∀ (cdv : Value) (A : Around) (outer : List Env) (s : Shared) (H : Hp) (vs : List V) (Q : VK) (E : XK), Room k (A.deeper (envOfC qual (defScope st) s.heap.objs.size f cdv)) → A.guards = some [] → sp vs H Q E →
      ∃ t, PSs (cxOf CX0 P w K mg base N qual (defScope st) f cdv A outer s H E).nox (defBody st) t ∧ t { nx := fun _ H' => Q .non H', rt := Q } (L2.start N vs) H) : FnG P w K mg base (k + 1) f fd ps sp := by
  obtain ⟨oc, od, kV, doc, pm, an, cdv, ct, osl, rfl, lk, hcd⟩ := F.ex
  refine ⟨len, fun A outer s H args us vs Q E hr hgd e0 hb r hsp => ?_⟩
  have hl := len _ _ _ _ hsp
  have kept : ∀ b o, base.get? b = some o → s.heap.get? b = some o := fun b o e => (e0.bs b o e).1
  have KX : K.In s.heap := e0.mod.kin.keeps kept
  have lim : s.heap.NoLimit := e0.mod.nolimit.keeps kept
  have kinds : ∀ y ∈ ps.zip us, (defScope st).names.lookup y.1 = some .local ∨ ((defScope st).names.lookup y.1 = some .cell ∧ ((cellsFrom (s.heap.objs.size + 1) (defScope st).names []).lookup y.1).isSome = true) := fun y hy =>
    (S.par y.1 (List.of_mem_zip (a := y.1) (b := y.2) hy).1).imp id fun q => ⟨q, PySem.W.cellsFrom_some _ _ _ (.inl q)⟩
  refine codeAny_call_function hr.depth (KX _ _ lk) rfl S.co S.gen rfl (PySem.W.codeRec_of KX hcd) (hb _ _ _ _ (wpAny_newFunctionEnv_cells S.kind kinds fun env he s1 nw => ?_))
  subst he
  refine ⟨lim.keeps nw.toInCall.keep, codeAny_func ?_⟩
  obtain ⟨t, ht, hq⟩ := hbody cdv A outer s H vs Q E (hr.deeper _) hgd hsp
  have I := inv_start (P := P) (w := w) (CX := CX0) (E := E) S hr.hd e0 hl r nw
  refine wpAny_mono (ht.nox.run [] s1 (L2.start N vs) H _ I hq) (fun fl s' hs => ?_) fun e s' hs => hs
  cases fl with
  | ret u =>
    obtain ⟨v, σ', H', J, rv, q⟩ := hs
    exact ⟨v, H', J.os, J.bare, J.base, J.hok, rv, q⟩
  | next =>
    obtain ⟨σ', H', J, q⟩ := hs
    exact ⟨.non, H', J.os, J.bare, J.base, J.hok, rfl, q⟩
  | brk =>
    obtain ⟨_, _, _, q⟩ := hs
    exact False.elim q
  | cont =>
    obtain ⟨_, _, _, q⟩ := hs
    exact False.elim q
theorem fnAt_of {x : Str} {st : Stmt} {f : Addr} {fd : FuncData} {ps : List Str} {k n : Nat} {sp : Sp} (hm : mg x = some (.ref f)) (F : Fun K x x st f fd) (hn : ps.length = n) (hb : Binds K fd ps []) (G : FnG P w K mg base k f fd ps sp) : FnAt P w K mg base x k n sp :=
  ⟨f, fd, ps, hn, hm, F.kp, hb, G⟩
/-! ### the law's own call -/
theorem lawG {k : Nat} {mb : Str → Option Value} {fa a : Addr} {fd : FuncData} {x : Str} {sp : Sp} {s1 : Shared} {vs : List Value} {ns : List Int}
    (KX : K.In s1.heap) (hns : s1.heap.Ns mainGlobals mg) (hb : s1.heap.Ns builtinsNs mb) (hbb : ∀ x : Str, x ≠ "__name__" → mb x = bootBuiltins x) (hlim : s1.heap.NoLimit) (hg : s1.gens = #[])
    (ha : s1.heap.get? a = some { cls := .type "list", data := .seq vs.toArray }) (hi : PyProof.Rows.IntsAre vs ns) (hl : ns.length ≤ sizeLine) (hr : Room k callerA)
    (F : ∀ base : Heap, K.In base → base.Ns mainGlobals mg → FnG P w K mg base k fa fd [x] sp) (hbind : ∀ (s : Shared) (u : Value), BindsTo s fd ⟨[u], []⟩ [(x, u)])
    (hsp : ∀ H : Hp, Only H → SqL K H a (ns.map V.int) → sp [.ref a] H (fun v _ => v = .bl true) fun _ _ _ => False) :
    codeAny (model P w) callerA (.call (.ref fa) ⟨[.ref a], []⟩) (fun r s' => r = .ok (.ret (.bool true)) ∧ OldK s1.heap s'.heap ∧ s'.os = s1.os ∧ AllBare s'.gens) s1 := by
  have rv := vals_ints hi
  have hlen := hi.length
  have core : ∀ H : Hp, Only H → SqL K H a (ns.map V.int) → HOk P w H s1.heap → (∀ b, H b ≠ none → b = a) → (H a ≠ none → K.lookup a = none) →
      codeAny (model P w) callerA (.call (.ref fa) ⟨[.ref a], []⟩) (fun r s' => r = .ok (.ret (.bool true)) ∧ OldK s1.heap s'.heap ∧ s'.os = s1.os ∧ AllBare s'.gens) s1 := by
    intro H hO hS hok hA hK
    have away : ∀ b : Addr, (∀ o, s1.heap.get? b = some o → b = a → False) → (∃ o, s1.heap.get? b = some o) → H b = none := fun b hne ⟨o, ho⟩ => by
      cases q : H b with
      | none => rfl
      | some u => exact (hne o ho (hA b (by rw [q]; exact fun z => nomatch z))).elim
    have dicts : ∀ {b : Addr} {m : Str → Option Value}, s1.heap.Ns b m → (hidT s1.heap H).Ns b m := fun {b m} ⟨o, es, ep, e, d, r⟩ => ⟨o, es, ep, hidT_get e (away b (fun o' h' hba => by
      subst hba
      rw [e] at h'
      cases h'
      rw [ha] at e
      cases e
      exact nomatch (show Data.seq vs.toArray _ = Data.dict es ep from d)) ⟨o, e⟩), d, r⟩
    have hKb : K.In (hidT s1.heap H) := fun b o e => hidT_get (KX b o e) (by
      cases q : H b with
      | none => rfl
      | some u =>
        have hba : b = a := hA b (by rw [q]; exact fun z => nomatch z)
        subst hba
        rw [hK (by rw [q]; exact fun z => nomatch z)] at e
        cases e)
    obtain ⟨mc, n1, n2⟩ := hlim
    have hM : Mod K mg (hidT s1.heap H) := ⟨hKb, dicts hns, ⟨mb, dicts hb, hbb⟩, mc, dicts n1, n2⟩
    have e0 : Env0 P w K mg (hidT s1.heap H) callerA [] s1 H := ⟨rfl, hM, fun b o e => of_hidT e, Nat.le_of_eq (hidT_size _ _), trivial, (fun b hb => nomatch (show b ∈ ([] : List Addr) from hb)), hok, .of_eq hg⟩
    refine codeAny_mono ((F _ hKb (dicts hns)).run callerA [] s1 H ⟨[.ref a], []⟩ [.ref a] [.ref a] _ _ hr rfl e0 (hbind s1 (.ref a)) (.cons rfl .nil) (hsp H hO hS)) fun r s' h => ?_
    cases r with
    | error e => exact False.elim h
    | ok fl =>
      cases fl with
      | next => exact False.elim h
      | brk => exact False.elim h
      | cont => exact False.elim h
      | ret u =>
        obtain ⟨v, H', os, bare, un, hok', r', q⟩ := h
        obtain rfl : v = .bl true := q
        obtain rfl : u = Value.bool true := r'
        refine ⟨rfl, OldK.of_keep fun b o e => ?_, os, bare⟩
        cases q : H b with
        | none => exact un.keep b o e q (fun z => nomatch (show b ∈ ([] : List Addr) from z)) (fun z => nomatch z)
        | some u =>
          rcases hO b with z | ⟨ob, xs, z⟩
          · rw [q] at z; cases z
          · obtain ⟨e1, _⟩ := hok b _ z
            obtain ⟨e2, _⟩ := hok' b _ (un.frzs b ob _ z)
            rw [e] at e1
            cases e1
            exact e2
  cases hk : K.lookup a with
  | some o =>
    have e := KX a o hk
    rw [ha] at e
    cases e
    exact core (fun _ => none) (fun _ => .inl rfl) (.inr ⟨_, vs.toArray, _, hk, rfl, rfl, rfl, by rw [List.size_toArray, hlen]; exact hl, by simpa using rv⟩) (fun b u z => nomatch (show (none : Option HO) = some u from z)) (fun b z => absurd rfl z) fun z => absurd rfl z
  | none =>
    refine core (fun b => if b = a then some (.frz { cls := .type "list", data := .seq vs.toArray } (.lst (ns.map V.int))) else none) (fun b => ?_) (.inl (.inr ⟨_, if_pos rfl⟩)) (fun b u z => ?_) (fun b z => ?_) fun _ => hk
    · by_cases hb : b = a
      · exact .inr ⟨_, _, if_pos hb⟩
      · exact .inl (if_neg hb)
    · by_cases hb : b = a
      · cases (if_pos hb).symm.trans z
        subst hb
        exact ⟨ha, by rw [List.length_map]; exact hl, vs, _, rv, ha⟩
      · cases (if_neg hb).symm.trans z
    · by_cases hb : b = a
      · exact hb
      · exact absurd (if_neg hb) z
end
theorem walkG {l : PySem.W.OpenLaw} {n k : Nat} {q : Program} {loose : List Str} {XP : (Str → Option Value) → Heap → Prop} {YP : World → Heap → Prop} {d : DefRec} {K : Params → PySem.W.Frag} {sp : PySem.W.Frag → Sp} {x : Str}
    (hn : l.most = some n) (hn2 : n ≤ sizeLine) (hdf : d.params.defaults = []) (hr : Room k callerA) (hY : ∀ (w : World) (h : Heap), YP w h → (K w.params).In h)
    (F : ∀ (w : World) (mg : Str → Option Value) (fa : Addr) (h : Heap), (K w.params).In h → h.Ns mainGlobals mg → mg d.name = some (.ref fa) →
      ∃ fd : FuncData, (∀ (s : Shared) (u : Value), BindsTo s fd ⟨[u], []⟩ [(x, u)]) ∧ ∀ base : Heap, (K w.params).In base → base.Ns mainGlobals mg → FnG l.prog w (K w.params) mg base k fa fd [x] (sp (K w.params)))
    (hsp : ∀ (K : PySem.W.Frag) (H : Hp) (a : Addr) (ns : List Int), ns.length ≤ n → Only H → SqL K H a (ns.map V.int) → sp K [.ref a] H (fun v _ => v = .bl true) fun _ _ _ => False) :
    PySem.W.WalkO q loose XP YP l.row.toRowW d [] (fun f vs => PySem.call f vs) :=
  Att.attach_call hn hdf fun w s0 s1 mg mb fa o pm cd doc a vs ns G Y ho hd hcd hmg hobj hints hlen hg => by
    obtain ⟨fd, hb, hF⟩ := F w mg fa _ (hY w _ Y) G.T.g hmg
    exact lawG (hY w _ Y) G.T.g G.T.b G.T.builtins G.T.nolimit hg hobj hints (Nat.le_trans hlen hn2) hr hF hb fun H hO hS => hsp (K w.params) H a ns hlen hO hS
end Z
set_option Elab.async false
set_option linter.all false
set_option maxRecDepth 100000
set_option maxHeartbeats 4000000
/-! Z7: rules over data: ==, repr, index, sum, len, tuple, int, repeat, enumerate. -/
namespace Z
open PySem PySem.Spec PyProof.Rows L2
/-! ### a value that stands for plain data, as the layer's Dp -/
section
variable {c : Zc} {H : Hp}
mutual
theorem Rp.dp : ∀ (d : D) (v : V) (fp : List Addr), Rp c H d v fp → d.plain = true → Dp c.K H v d
  | .none, v, fp, h, _ => by simp only [Rp] at h; rw [h.1]; exact .non
  | .bool b, v, fp, h, _ => by simp only [Rp] at h; rw [h.1]; exact .bl b
  | .int i, v, fp, h, _ => by simp only [Rp] at h; rw [h.1]; exact .int i
  | .str x, v, fp, h, _ => by simp only [Rp] at h; rw [h.1]; exact .str x
  | .list ds, v, fp, h, p => by
    simp only [Rp] at h
    obtain ⟨a, xs, gp, rfl, rfl, h1, h2⟩ := h
    exact .lst (.of h1) (Rps.dp ds xs gp h2 (by simpa only [PyData.plain] using p))
  | .tuple ds, v, fp, h, p => by
    simp only [Rp] at h
    obtain ⟨a, xs, rfl, h1, h2⟩ := h
    exact .tup h1.t (Rps.dp ds xs fp h2 (by simpa only [PyData.plain] using p))
  | .dict kvs, v, fp, h, p => by simp [PyData.plain] at p
theorem Rps.dp : ∀ (ds : List D) (xs : List V) (fp : List Addr), Rps c H ds xs fp → PyData.plainAll ds = true → DpAll c.K H xs ds
  | [], xs, fp, h, _ => by simp only [Rps] at h; rw [h.1]; exact .nil
  | d :: ds, xs, fp, h, p => by
    simp only [Rps] at h
    simp only [PyData.plainAll, Bool.and_eq_true] at p
    obtain ⟨x, ys, f1, f2, rfl, rfl, h1, h2⟩ := h
    exact .cons (Rp.dp d x f1 h1 p.1) (Rps.dp ds ys f2 h2 p.2)
end
end
/-! ### == and != -/
def rEqZ (K : PySem.W.Frag) (neg : Bool) : R2 := fun x y H Q => ∃ d e, Dp K H x d ∧ Dp K H y e ∧ d.plain = true ∧ e.plain = true ∧ min d.depth e.depth ≤ 60 ∧ Q (.bl (if neg then !PyData.eqv d e else PyData.eqv d e)) H
section
variable {X : Cx}
theorem op_eqZ (hu : X.A.units + 64 < cLine) : OpR X (compareOp .Eq) (rEqZ X.K false) := fun pins s σ H x y v u Q I rx ry h => by
  obtain ⟨d, e, hd, he, pd, pe, hz, q⟩ := h
  obtain ⟨as, r1⟩ := Dp.reads I d x v hd rx
  obtain ⟨bs, r2⟩ := Dp.reads I e y u he ry
  exact SeqAt.eq_plain r1 r2 pd pe (by omega) ⟨.bl _, H, I, rfl, q⟩
theorem op_neZ (hu : X.A.units + 64 < cLine) : OpR X (compareOp .NotEq) (rEqZ X.K true) := fun pins s σ H x y v u Q I rx ry h => by
  obtain ⟨d, e, hd, he, pd, pe, hz, q⟩ := h
  obtain ⟨as, r1⟩ := Dp.reads I d x v hd rx
  obtain ⟨bs, r2⟩ := Dp.reads I e y u he ry
  exact SeqAt.ne_plain r1 r2 pd pe (by omega) ⟨.bl _, H, I, rfl, q⟩
end
/-! ### how great a datum is -/
/-- plain, at most k deep, shown by at most w signs -/
structure Ok (k w : Nat) (d : D) : Prop where
  plain : d.plain = true
  depth : d.depth ≤ k
  show' : d.showable = true
  len : d.shown.length ≤ w
theorem Ok.mono {k w k' w' : Nat} {d : D} (h : Ok k w d) (a : k ≤ k') (b : w ≤ w') : Ok k' w' d := ⟨h.plain, Nat.le_trans h.depth a, h.show', Nat.le_trans h.len b⟩
theorem Ok.int {i : Int} (h : i.natAbs < 10 ^ 12) : Ok 0 13 (.int i) := ⟨by simp [PyData.plain, PyData.canLay0], by simp [PyData.depth], by
    simp only [PyData.showable, decide_eq_true_eq]
    exact log2_small (Nat.lt_of_lt_of_le h (by decide)), PyData.shown_int_le h⟩
theorem Ok.bool {b : Bool} : Ok 0 5 (.bool b) := by
  cases b <;> exact ⟨by decide, by decide, by decide, by decide⟩
theorem Ok.none : Ok 0 4 .none := ⟨by decide, by decide, by decide, by decide⟩
theorem plainAll_of : ∀ {ds : List D}, (∀ d ∈ ds, d.plain = true) → PyData.plainAll ds = true
  | [], _ => by simp [PyData.plainAll]
  | d :: ds, h => by
    simp only [PyData.plainAll, Bool.and_eq_true]
    exact ⟨h d (List.mem_cons_self ..), plainAll_of fun e he => h e (List.mem_cons_of_mem _ he)⟩
theorem depthAll_of {k : Nat} : ∀ {ds : List D}, (∀ d ∈ ds, d.depth ≤ k) → PyData.depthAll ds ≤ k
  | [], _ => by simp [PyData.depthAll]
  | d :: ds, h => by
    simp only [PyData.depthAll]
    exact Nat.max_le.mpr ⟨h d (List.mem_cons_self ..), depthAll_of fun e he => h e (List.mem_cons_of_mem _ he)⟩
theorem showableAll_of : ∀ {ds : List D}, (∀ d ∈ ds, d.showable = true) → PyData.showableAll ds = true
  | [], _ => by simp [PyData.showableAll]
  | d :: ds, h => by
    simp only [PyData.showableAll, Bool.and_eq_true]
    exact ⟨h d (List.mem_cons_self ..), showableAll_of fun e he => h e (List.mem_cons_of_mem _ he)⟩
theorem shownAll_map : ∀ ds : List D, PyData.shownAll ds = ds.map PyData.shown
  | [] => by simp [PyData.shownAll]
  | d :: ds => by simp only [PyData.shownAll, List.map_cons, shownAll_map ds]
theorem sum_le {w : Nat} : ∀ {ds : List D}, (∀ d ∈ ds, d.shown.length ≤ w) → ((PyData.shownAll ds).map (·.length)).sum ≤ ds.length * w
  | [], _ => by simp [PyData.shownAll]
  | d :: ds, h => by
    have h1 := h d (List.mem_cons_self ..)
    have h2 := sum_le fun e he => h e (List.mem_cons_of_mem _ he)
    simp only [PyData.shownAll, List.map_cons, List.sum_cons, List.length_cons, Nat.succ_mul]
    omega
theorem Ok.tuple {k w n : Nat} {ds : List D} (h : ∀ d ∈ ds, Ok k w d) (hn : ds.length ≤ n) : Ok (k + 1) (n * (w + 2) + 3) (.tuple ds) := by
  refine ⟨?_, ?_, ?_, ?_⟩
  · simp only [PyData.plain]; exact plainAll_of fun d hd => (h d hd).plain
  · simp only [PyData.depth]
    have := depthAll_of fun d hd => (h d hd).depth
    omega
  · simp only [PyData.showable]; exact showableAll_of fun d hd => (h d hd).show'
  · have h1 := tupleText_len_le (PyData.shownAll ds)
    have h2 := sum_le fun d hd => (h d hd).len
    have h3 : (PyData.shownAll ds).length = ds.length := by rw [shownAll_map, List.length_map]
    have h4 : ds.length * w ≤ n * w := Nat.mul_le_mul_right _ hn
    simp only [PyData.shown]
    rw [Nat.mul_add]
    omega
theorem Ok.list {k w n : Nat} {ds : List D} (h : ∀ d ∈ ds, Ok k w d) (hn : ds.length ≤ n) : Ok (k + 1) (n * (w + 2) + 3) (.list ds) := by
  refine ⟨?_, ?_, ?_, ?_⟩
  · simp only [PyData.plain]; exact plainAll_of fun d hd => (h d hd).plain
  · simp only [PyData.depth]
    have := depthAll_of fun d hd => (h d hd).depth
    omega
  · simp only [PyData.showable]; exact showableAll_of fun d hd => (h d hd).show'
  · have h1 := listText_len_le (PyData.shownAll ds)
    have h2 := sum_le fun d hd => (h d hd).len
    have h3 : (PyData.shownAll ds).length = ds.length := by rw [shownAll_map, List.length_map]
    have h4 : ds.length * w ≤ n * w := Nat.mul_le_mul_right _ hn
    simp only [PyData.shown]
    rw [Nat.mul_add]
    omega
/-! ### repr -/
/-- tuple(list): a known object; tuple(tuple) -/
def rTupF (K : PySem.W.Frag) : List V → Hp → VK → Prop := fun xs H Q => ∃ p ys, xs = [.ref p] ∧ ((SqL K H p ys ∧ ∀ l o, H l = none → o.dict = none → Q (.ref l) (upd H l (.frz o (.tup ys)))) ∨ (SqT K H p ys ∧ Q (.ref p) H))
theorem call_tupF {X : Cx} : CallR X (.type "tuple") (rTupF X.K) := fun pins s σ H vs us Q I r h => by
  obtain ⟨p, ys, rfl, h⟩ := h
  obtain ⟨u, rfl, rx⟩ := vals1 r
  rcases h with ⟨hl, q⟩ | ⟨ht, q⟩
  · cases rx
    obtain ⟨its, rv, pl, hz⟩ := I.list hl
    refine call_tuple_list pl.isList (fun h' kp => ?_) (by rw [List.size_toArray, ← rv.length]; exact hz)
    have J : Inv X pins σ H { s with heap := h' } := I.kept (t' := s.toks) kp
    have e := Heap.get?_push_size h' (o := { cls := .type "tuple", data := .seq its.toArray }) rfl
    exact ⟨.ref h'.objs.size, _, J.laid (t' := s.toks) (o := .frz { cls := .type "tuple", data := .seq its.toArray } (.tup ys)) (fun b o k => Heap.get?_push_of_some _ k) (Nat.le_refl _) ⟨e, hz, its, rv, ⟨_, e, rfl, _, rfl⟩⟩, rfl, q _ _ (J.hok.fresh (Nat.le_refl _)) rfl⟩
  · exact call_tuple_of pins s σ H [.ref p] _ Q I r ⟨p, ys, rfl, .inr ⟨ht, q⟩⟩
/-! ### t * k -/
theorem tuple_mul_one (l : Addr) (items : Array Value) (n : Nat) (dd : Option Addr) (sl : Array (Option Value)) (u : Tok) :
    Meets (Builtin.«tuple.__mul__» ⟨[.ref l, .int 1 u], []⟩) (fun _ R s => s.heap.get? l = some { cls := .type "tuple", dict := dd, data := .seq items n, slots := sl } ∧ R (.ok (.ret (Value.ref l))) s) :=
  .of_wp fun prog w A R s h => by
    obtain ⟨hp, g, d, tk, os⟩ := s
    obtain ⟨hl, h⟩ := h
    have f1 := AutoSeq1.idx_int
    wp_walk using wpAny_loadPart' hl
    repeat (first
      | (refine wpAny_ite_false (by decide) ?_; wp_walk using wpAny_loadPart' hl)
      | (refine wpAny_ite_true (by simp) ?_; wp_walk using wpAny_loadPart' hl))
    exact ⟨_, rfl, h⟩
/-- a tuple, not empty, from 1 to 1,000 times -/
def rRepA (K : PySem.W.Frag) : R2 := fun x y H Q => ∃ l k xs, x = .ref l ∧ y = .int k ∧ SqT K H l xs ∧ xs ≠ [] ∧ xs.length ≤ 1000 ∧ ((k = 1 ∧ Q (.ref l) H) ∨ (2 ≤ k ∧ k ≤ 1000 ∧ ∀ p o, H p = none → o.dict = none → Q (.ref p) (upd H p (.frz o (.tup (List.replicate k.toNat xs).flatten)))))
theorem flat_small {α : Type} {its : List α} {k : Int} (hz : its.length ≤ 1000) (h2 : k ≤ 1000) : (List.replicate k.toNat its).flatten.length ≤ sizeLine :=
  lim_ok (by
    have a := Nat.mul_le_mul (show k.toNat ≤ 1000 by omega) hz
    rw [PyProof.Rows.lm_len_rep_flat]
    omega)
/-- from 2 to 1,000 times -/
theorem op_repF {X : Cx} : OpR X (binaryOp .Mult) (fun x y H Q => ∃ l k xs, x = .ref l ∧ y = .int k ∧ SqT X.K H l xs ∧ xs ≠ [] ∧ 2 ≤ k ∧ k ≤ 1000 ∧ xs.length ≤ 1000 ∧ ∀ p o, H p = none → o.dict = none → Q (.ref p) (upd H p (.frz o (.tup (List.replicate k.toNat xs).flatten)))) := fun pins s σ H x y v u Q I rx ry h => by
  obtain ⟨l, k, xs, rfl, rfl, hT, hne, h1, h2, hz, q⟩ := h
  cases rx
  obtain ⟨t, rfl⟩ := ry
  obtain ⟨its, r, ⟨⟨cls, dd, data, sl⟩, ho, hc, n, hd⟩, hs⟩ := I.tuple hT
  simp only at hc hd
  subst hc hd
  have el : its.length = xs.length := r.length.symm
  have full : its.toArray.isEmpty = false := by
    cases its with
    | nil => exact (hne (List.eq_nil_of_length_eq_zero el.symm)).elim
    | cons _ _ => rfl
  have es : its.toArray.size = xs.length := by rw [List.size_toArray, el]
  have many : ((its.toArray.size : Nat) : Int) * k ≤ 1000000 := by
    rw [es]
    have a : ((xs.length : Nat) : Int) * k ≤ 1000 * k := Int.mul_le_mul_of_nonneg_right (by omega) (by omega)
    omega
  have small : (List.replicate k.toNat its).flatten.length ≤ sizeLine := flat_small (by rw [el]; exact hz) h2
  have c4 : Builtin.Tuple.tupleTooMany (((its.toArray.size : Nat) : Int) * k) = false := by
    unfold Builtin.Tuple.tupleTooMany
    rw [sizeLine_eq, decide_eq_false_iff_not]
    omega
  refine wpAny_binaryOp_repeat_ref (T := "tuple") (U := "int") (by decide) ⟨_, ho, rfl⟩ (fun s' => typeIs_int s' k t) noFill_tuple_mul F.fills_int_mul F.slot_int_rmul repeat_tuple F.slot_int_index.lookup
    (call_meets F.slot_int_rmul (typeIs_int s k t) F.entry_int_rmul (F.args_int_rmul_2 _ _) (int_rmul_tuple k t l its.toArray n dd sl)
      ⟨ho, rfl, ⟨_, ho, rfl⟩, call_meets F.slot_tuple_mul ⟨_, ho, rfl⟩ F.entry_tuple_mul (F.args_tuple_mul_2 _ _) (tuple_mulW l its.toArray n dd sl k t (by rw [decide_eq_false (by omega), decide_eq_false (by omega)]; rfl)
        (by rw [full, Bool.false_or]; exact beq_eq_false_iff_ne.mpr (by omega)) (by rw [full, Bool.or_false]; exact decide_eq_false (by omega)) (by omega) c4 (by rw [size_rep, List.size_toArray]; exact small)) ⟨ho, ?_⟩⟩)
  rw [size_rep]
  have e := Heap.get?_push_size s.heap (o := { cls := .type "tuple", data := .seq (List.replicate k.toNat its).flatten.toArray }) rfl
  exact ⟨.ref s.heap.objs.size, _, I.laid (t' := s.toks) (o := .frz { cls := .type "tuple", data := .seq (List.replicate k.toNat its).flatten.toArray } (.tup (List.replicate k.toNat xs).flatten)) (fun b ob w => Heap.get?_push_of_some _ w) (Nat.le_refl _) ⟨e, flat_small hz h2, _, r.rep k.toNat, ⟨_, e, rfl, _, rfl⟩⟩, rfl, q _ _ (I.hok.fresh (Nat.le_refl _)) rfl⟩
theorem op_repA {X : Cx} : OpR X (binaryOp .Mult) (rRepA X.K) := fun pins s σ H x y v u Q I rx ry h => by
  obtain ⟨l, k, xs, rfl, rfl, hT, hne, hz, q⟩ := h
  rcases q with ⟨rfl, q⟩ | ⟨h1, h2, q⟩
  · cases rx
    obtain ⟨t, rfl⟩ := ry
    obtain ⟨its, r, ⟨⟨cls, dd, data, sl⟩, ho, hc, n, hd⟩, hs⟩ := I.tuple hT
    simp only at hc hd
    subst hc hd
    exact wpAny_binaryOp_repeat_ref (T := "tuple") (U := "int") (by decide) ⟨_, ho, rfl⟩ (fun s' => typeIs_int s' 1 t) noFill_tuple_mul F.fills_int_mul F.slot_int_rmul repeat_tuple F.slot_int_index.lookup
      (call_meets F.slot_int_rmul (typeIs_int s 1 t) F.entry_int_rmul (F.args_int_rmul_2 _ _) (int_rmul_tuple 1 t l its.toArray n dd sl)
        ⟨ho, rfl, ⟨_, ho, rfl⟩, call_meets F.slot_tuple_mul ⟨_, ho, rfl⟩ F.entry_tuple_mul (F.args_tuple_mul_2 _ _) (tuple_mul_one l its.toArray n dd sl t) ⟨ho, .ref l, H, I, rfl, q⟩⟩)
  · exact op_repF pins s σ H _ _ v u Q I rx ry ⟨l, k, xs, rfl, rfl, hT, hne, h1, h2, hz, q⟩
/-- ints, or a tuple so often -/
def rMul (K : PySem.W.Frag) : R2 := fun x y H Q => rI CMul (fun i j => .int (i * j)) x y H Q ∨ rRepA K x y H Q ∨ rRep x y H Q
theorem op_mulZ {X : Cx} : OpR X (binaryOp .Mult) (rMul X.K) := op_mul.or (op_repA.or op_rep)
/-! ### the same over data -/
section
variable {K : PySem.W.Frag} {S : Option (Addr × Addr)}
def fEq (neg : Bool) : D → D → (D → Prop) → Prop := fun x y R => x.plain = true ∧ y.plain = true ∧ min x.depth y.depth ≤ 60 ∧ R (.bool (if neg then !PyData.eqv x y else PyData.eqv x y))
theorem od_eq {neg : Bool} : OpD K S (rEqZ K neg) (fEq neg) := .pure fun H x y d e f1 f2 r1 r2 R hf Q q => by
  obtain ⟨h1, h2, h3, hR⟩ := hf
  exact ⟨d, e, r1.dp _ _ _ h1, r2.dp _ _ _ h2, h1, h2, h3, q _ _ hR bl_rp⟩
def fRepr : List D → (D → Prop) → Prop := fun ds R => match ds with
  | [d] => Ok 40 10000000 d ∧ R (.str d.shown)
  | _ => False
theorem rps_one {c : Zc} {H : Hp} {d : D} {xs : List V} {fp : List Addr} (h : Rps c H [d] xs fp) : ∃ x, xs = [x] ∧ Rp c H d x fp := by
  simp only [Rps] at h
  obtain ⟨x, ys, f1, f2, rfl, rfl, h1, rfl, rfl⟩ := h
  exact ⟨x, rfl, by rwa [List.append_nil]⟩
theorem rps_two {c : Zc} {H : Hp} {d e : D} {xs : List V} {fp : List Addr} (h : Rps c H [d, e] xs fp) : ∃ x y f1 f2, xs = [x, y] ∧ fp = f1 ++ f2 ∧ Rp c H d x f1 ∧ Rp c H e y f2 := by
  simp only [Rps] at h
  obtain ⟨x, ys, f1, f2, rfl, rfl, h1, y, zs, f3, f4, rfl, rfl, h2, rfl, rfl⟩ := h
  exact ⟨x, y, f1, f3, rfl, by rw [List.append_nil], h1, h2⟩
/-- x[i] -/
def fIx : D → D → (D → Prop) → Prop := fun x y R => asI y fun i => match x with
  | .list ds => ∃ d, atI ds i = some d ∧ R d
  | .tuple ds => ∃ d, atI ds i = some d ∧ R d
  | .str z => z.length ≤ 10000000 ∧ ∃ c, atI z.cps.toList i = some c ∧ R (.str ⟨#[c]⟩)
  | _ => False
theorem rps_atI {c : Zc} {H : Hp} {ds : List D} {xs : List V} {fp : List Addr} {i : Int} {d : D} (h : Rps c H ds xs fp) (e : atI ds i = some d) : ∃ x gp, atI xs i = some x ∧ Rp c H d x gp ∧ (∀ a ∈ gp, a ∈ fp) ∧ (fp.Nodup → gp.Nodup) := by
  unfold atI at e ⊢
  rw [h.len]
  cases hn : ixN ds.length i with
  | none => rw [hn] at e; cases e
  | some j =>
    rw [hn] at e
    exact h.at (i := j) e
theorem oa_ix : OpA K S (rIx K) fIx := fun H x y d e f1 f2 s r1 n1 r2 n2 R hf Q q => by
  obtain ⟨i, rfl, hf⟩ := asI_ok hf
  have ey := rp_int r2
  subst ey
  cases d with
  | list ds =>
    obtain ⟨z, hz, hR⟩ := hf
    simp only [Rp] at r1
    obtain ⟨a, xs, gp, rfl, rfl, h1, h2⟩ := r1
    obtain ⟨v, kp, e1, e2, e3, e4⟩ := rps_atI h2 hz
    exact .inl ⟨a, xs, i, v, rfl, rfl, .of h1, e1, q z v kp hR e2 (fun b hb => List.mem_cons_of_mem _ (e3 b hb)) fun nd => e4 (List.nodup_cons.mp nd).2⟩
  | tuple ds =>
    obtain ⟨z, hz, hR⟩ := hf
    simp only [Rp] at r1
    obtain ⟨a, xs, rfl, h1, h2⟩ := r1
    obtain ⟨v, kp, e1, e2, e3, e4⟩ := rps_atI h2 hz
    exact .inr (.inl ⟨a, xs, i, v, rfl, rfl, h1.t, e1, q z v kp hR e2 e3 e4⟩)
  | str z =>
    obtain ⟨hl, c, hc, hR⟩ := hf
    simp only [Rp] at r1
    obtain ⟨rfl, rfl⟩ := r1
    exact .inr (.inr ⟨z, i, c, rfl, rfl, lim_ok hl, hc, q _ _ [] hR (str_rp H) (fun b hb => hb) fun nd => nd⟩)
  | none => exact hf.elim
  | bool b => exact hf.elim
  | int j => exact hf.elim
  | dict kvs => exact hf.elim
/-- sum of a list of ints -/
def fSum : List D → (D → Prop) → Prop := fun ds R => match ds with
  | [.list xs] => ∃ ns : List Int, xs = ns.map .int ∧ R (.int ns.sum)
  | _ => False
theorem rps_ints {c : Zc} {H : Hp} : ∀ {ns : List Int} {xs : List V} {fp : List Addr}, Rps c H (ns.map .int) xs fp → xs = ns.map .int ∧ fp = []
  | [], xs, fp, h => by simpa [Rps] using h
  | n :: ns, xs, fp, h => by
    simp only [List.map_cons, Rps] at h
    obtain ⟨x, ys, f1, f2, rfl, rfl, h1, h2⟩ := h
    simp only [Rp] at h1
    obtain ⟨rfl, rfl⟩ := h1
    obtain ⟨rfl, rfl⟩ := rps_ints h2
    exact ⟨rfl, rfl⟩
/-- len of a list, a tuple -/
def fLen : List D → (D → Prop) → Prop := fun ds R => match ds with
  | [.list xs] => R (.int xs.length)
  | [.tuple xs] => R (.int xs.length)
  | [.str z] => z.length ≤ 10000000 ∧ R (.int z.length)
  | _ => False
theorem cd_len : CallD K S (fun xs H Q => ∃ x n, xs = [x] ∧ LenV K x H n ∧ Q (.int n) H) fLen := .pure fun H xs ds fp r R hf Q q => by
  unfold fLen at hf
  split at hf
  · rename_i es
    obtain ⟨x, rfl, rx⟩ := rps_one r
    simp only [Rp] at rx
    obtain ⟨a, ys, gp, rfl, rfl, h1, h2⟩ := rx
    exact ⟨_, es.length, rfl, .inl ⟨ys, .of h1, h2.len.symm⟩, q _ _ hf int_rp⟩
  · rename_i es
    obtain ⟨x, rfl, rx⟩ := rps_one r
    simp only [Rp] at rx
    obtain ⟨a, ys, rfl, h1, h2⟩ := rx
    exact ⟨_, es.length, rfl, .inr ⟨ys, h1.t, h2.len.symm⟩, q _ _ hf int_rp⟩
  · rename_i z
    obtain ⟨x, rfl, rx⟩ := rps_one r
    simp only [Rp] at rx
    obtain ⟨rfl, rfl⟩ := rx
    exact ⟨_, z.length, rfl, ⟨lim_ok hf.1, rfl⟩, q _ _ hf.2 int_rp⟩
  · exact hf.elim
/-- tuple(list), tuple(tuple), nothing in it that may change -/
def fTuple : List D → (D → Prop) → Prop := fun ds R => match ds with
  | [.list xs] => solids xs = true ∧ R (.tuple xs)
  | [.tuple xs] => solids xs = true ∧ R (.tuple xs)
  | _ => False
theorem cd_tuple : CallD K S (rTupF K) fTuple := fun H xs ds fp s r n R hf Q q => by
  unfold fTuple at hf
  split at hf
  · rename_i es
    obtain ⟨x, rfl, rx⟩ := rps_one r
    simp only [Rp] at rx
    obtain ⟨a, ys, gp, rfl, rfl, h1, h2⟩ := rx
    have z := h2.solid _ _ _ hf.1
    subst z
    refine ⟨a, ys, rfl, .inl ⟨.of h1, fun l o hl ho => ?_⟩⟩
    have e := Ext.new (c := ⟨K, S⟩) (o := .frz o (.tup ys)) hl
    refine q (.tuple es) (.ref l) _ [] hf.2 e (s.new hl) ?_ .nil List.nodup_nil fun b hb => by cases hb
    simp only [Rp]
    exact ⟨l, ys, rfl, .new ho, h2.ext .nil e s⟩
  · rename_i es
    obtain ⟨x, rfl, rx⟩ := rps_one r
    have z := rx.solid _ _ _ (by simp only [solid]; exact hf.1)
    subst z
    have rx' := rx
    simp only [Rp] at rx
    obtain ⟨a, ys, rfl, h1, h2⟩ := rx
    exact ⟨a, ys, rfl, .inr ⟨h1.t, q _ _ H [] hf.2 (Ext.refl _ _) s rx' .nil List.nodup_nil fun b hb => by cases hb⟩⟩
  · exact hf.elim
/-- int(int), int(bool) -/
def fInt : List D → (D → Prop) → Prop := fun ds R => match ds with
  | [.int i] => R (.int i)
  | [.bool b] => R (.int (if b then 1 else 0))
  | _ => False
theorem cd_int : CallD K S (fun xs H Q => (∃ i, xs = [.int i] ∧ Q (.int i) H) ∨ ∃ k, xs = [.bl k] ∧ Q (.int (if k then 1 else 0)) H) fInt := .pure fun H xs ds fp r R hf Q q => by
  unfold fInt at hf
  split at hf
  · obtain ⟨x, rfl, rx⟩ := rps_one r
    exact .inl ⟨_, by rw [rp_int rx], q _ _ hf int_rp⟩
  · obtain ⟨x, rfl, rx⟩ := rps_one r
    exact .inr ⟨_, by rw [rp_bl rx], q _ _ hf int_rp⟩
  · exact hf.elim
/-- ints; a tuple k times -/
def fMul : D → D → (D → Prop) → Prop := fun x y R => asI y fun j => match x with
  | .int i => CMul i j ∧ R (.int (i * j))
  | .tuple xs => xs ≠ [] ∧ xs.length ≤ 1000 ∧ solids xs = true ∧ 1 ≤ j ∧ j ≤ 1000 ∧ R (.tuple (List.replicate j.toNat xs).flatten)
  | .list xs => xs.length ≤ 1000 ∧ solids xs = true ∧ j ≤ 1000 ∧ -1000 ≤ j ∧ R (.list (List.replicate j.toNat xs).flatten)
  | _ => False
theorem rps_rep {c : Zc} {H : Hp} {ds : List D} {xs : List V} (h : Rps c H ds xs []) : ∀ n : Nat, Rps c H (List.replicate n ds).flatten (List.replicate n xs).flatten []
  | 0 => .nil
  | n + 1 => by
    rw [List.replicate_succ, List.replicate_succ, List.flatten_cons, List.flatten_cons]
    exact h.app (rps_rep h n)
theorem od_mul : OpD K S (rMul K) fMul := fun H x y d e f1 f2 s r1 n1 r2 n2 R hf Q q => by
  obtain ⟨j, rfl, hf⟩ := asI_ok hf
  have ey := rp_int r2
  subst ey
  cases d with
  | int i => exact .inl ⟨i, j, rp_int r1, rfl, hf.1, q _ _ H [] hf.2 (Ext.refl _ _) s (int_rp H) .nil List.nodup_nil fun b hb => by cases hb⟩
  | tuple ds =>
    obtain ⟨h1, h2, h3, h4, h5, hR⟩ := hf
    have z := r1.solid _ _ _ (by simp only [solid]; exact h3)
    subst z
    have r1' := r1
    simp only [Rp] at r1
    obtain ⟨a, xs, rfl, hT, hs⟩ := r1
    have hne : xs ≠ [] := fun z => h1 (by
      have := hs.len
      rw [z] at this
      exact List.eq_nil_of_length_eq_zero this.symm)
    refine .inr (.inl ⟨a, j, xs, rfl, rfl, hT.t, hne, by rw [hs.len]; exact h2, ?_⟩)
    by_cases hj : j = 1
    · subst hj
      exact .inl ⟨rfl, q _ _ H [] (by simpa using hR) (Ext.refl _ _) s r1' .nil List.nodup_nil fun b hb => by cases hb⟩
    · refine .inr ⟨by omega, h5, fun p o hp ho => ?_⟩
      have e := Ext.new (c := ⟨K, S⟩) (o := .frz o (.tup (List.replicate j.toNat xs).flatten)) hp
      refine q _ (.ref p) _ [] hR e (s.new hp) ?_ .nil List.nodup_nil fun b hb => by cases hb
      simp only [Rp]
      exact ⟨p, _, rfl, .new ho, (rps_rep hs _).ext .nil e s⟩
  | list ds =>
    obtain ⟨h2, h3, h5, h6, hR⟩ := hf
    simp only [Rp] at r1
    obtain ⟨a, xs, gp, rfl, rfl, hT, hs⟩ := r1
    have z := hs.solid _ _ _ h3
    subst z
    have hz : xs.length * j.toNat ≤ sizeLine := lim_ok (by
      have h7 : xs.length ≤ 1000 := by rw [hs.len]; exact h2
      have := Nat.mul_le_mul h7 (show j.toNat ≤ 1000 by omega)
      omega)
    refine .inr (.inr ⟨a, j, xs, rfl, rfl, hT, by omega, by omega, hz, fun p hp => ?_⟩)
    have e := Ext.new (c := ⟨K, S⟩) (o := .lst (List.replicate j.toNat xs).flatten) hp
    refine q _ (.ref p) _ [p] hR e (s.new hp) ?_ (fun b hb => by rw [List.mem_singleton.mp hb]; exact s.fresh hp) (List.pairwise_singleton _ _) fun b hb => by rw [List.mem_singleton.mp hb]; exact hp
    simp only [Rp]
    exact ⟨p, _, [], rfl, rfl, upd_same, (rps_rep hs _).ext .nil e s⟩
  | _ => exact hf.elim
/-- enumerate -/
def enumD (ds : List D) : List D := (List.range ds.length).map fun i => .tuple [.int (i : Nat), ds.getD i .none]
def dEnum (ms : DMs) : DMs := fun ρ R => ms ρ fun ds => match ds with
  | [.list xs] => R (enumD xs)
  | [.tuple xs] => R (enumD xs)
  | _ => False
theorem enum_at {ds : List D} {i : Nat} {d : D} (h : ds[i]? = some d) : (enumD ds)[i]? = some (.tuple [.int (i : Nat), d]) := by
  have hi := (List.getElem?_eq_some_iff.mp h).1
  unfold enumD
  rw [List.getElem?_map, List.getElem?_range hi]
  show some (PyData.tuple [.int (i : Nat), ds.getD i .none]) = _
  rw [List.getD_eq_getElem?_getD, h]
  rfl
theorem iter_pairs {c : Zc} {H1 : Hp} {J : It} {ds : List D} {xs : List V} {gp FP : List Addr} {G : Hp → Prop} (w : Walk J xs.length G (YPair (fun i => some (.int (i : Nat))) fun i => xs[i]?)) (r : Rps c H1 ds xs gp) (sub : ∀ b ∈ gp, b ∈ FP)
    (hG : ∀ H', Tk H1 H' → (∀ b ∈ FP, H' b = H1 b) → G H') (nF : NoS c FP) : IterOk true c J H1 (enumD ds) FP := by
  have el : (enumD ds).length = xs.length := by simp [enumD, r.len]
  unfold IterOk
  rw [el]
  refine w.mono (fun H' g => hG H' g.1 g.2.1) fun i H' x H'' hi g y => ?_
  obtain ⟨T, a, b, rfl, hT, rfl, ha, hb⟩ := y
  cases ha
  have e := Ext.new (c := c) (o := .tup [.int (i : Nat), b]) hT
  obtain ⟨d, fp, e1, e2, e3⟩ := (r.mono g.1 _ _ _ fun b hb => g.2.1 b (sub b hb)).atV hb
  refine ⟨e, g.2.2.new hT, .tuple [.int (i : Nat), d], fp, enum_at e1, .inr ⟨rfl, _, T, _, rfl, rfl, .of upd_same, ?_⟩, fun b hb => sub b (e3 b hb)⟩
  have h1 : Rps c (upd H' T (.tup [.int (i : Nat), b])) [.int (i : Nat), d] [.int (i : Nat), b] ([] ++ fp) := .cons (int_rp _) (.one (e2.ext (fun a ha => nF a (sub a (e3 a ha))) e g.2.2))
  exact h1
theorem walk_enumT {a : Addr} {xs : List V} : Walk (IteT K a) xs.length (fun H => SqT K H a xs) (YPair (fun i => some (.int (i : Nat))) (fun i => xs[i]?)) where
  goes := fun i H hi h => ⟨xs, xs[i], h, List.getElem?_eq_getElem hi⟩
  stops := fun H h => ⟨xs, h, rfl⟩
  yields := fun i H v H' _ h y => by
    obtain ⟨T, x, e1, e2, e3, e4⟩ := y
    exact ⟨T, .int (i : Nat), x, e1, e2, e3, rfl, e4 xs h⟩
theorem di_enum {t : TA} {ms : DMs} {U : List Nat} (h : DA K S t ms U) : DI true K S (iEnumS K t) (dEnum ms) U := fun G H ρ σ fps E R hm Q q =>
  h G H ρ σ fps E _ hm _ fun ds vs H1 fp hR e1 s1 r1 n1 f1 => by
    have th : ∀ a ∈ fp, ∃ o, H1 a = some o := fun a ha => let ⟨o, ho, _⟩ := r1.there _ _ _ a ha; ⟨o, ho⟩
    split at hR
    · rename_i es
      obtain ⟨x, rfl, rx⟩ := rps_one r1
      simp only [Rp] at rx
      obtain ⟨a, xs, gp, rfl, rfl, h1, h2⟩ := rx
      exact ⟨a, xs, rfl, .inl ⟨.of h1, q _ _ H1 _ hR e1 s1 (iter_pairs walk_enum h2 (fun b hb => List.mem_cons_of_mem _ hb) (fun H' _ k => .of (by rw [k a (List.mem_cons_self ..)]; exact h1)) n1) n1 th f1⟩⟩
    · rename_i es
      obtain ⟨x, rfl, rx⟩ := rps_one r1
      simp only [Rp] at rx
      obtain ⟨a, xs, rfl, h1, h2⟩ := rx
      exact ⟨a, xs, rfl, .inr ⟨h1.t, q _ _ H1 _ hR e1 s1 (iter_pairs walk_enumT h2 (fun b hb => hb) (fun H' tk _ => tk.sq h1.t) n1) n1 th f1⟩⟩
    · exact hR.elim
end
end Z
set_option Elab.async false
set_option linter.all false
set_option maxRecDepth 100000
set_option maxHeartbeats 4000000
/-! Z8: the law's own source of draws: its reading. -/
namespace Z
open PySem PySem.Spec PyProof.Rows L2
abbrev srcKv (sc : Addr) (l m t : Int) : List (Key × V) := [(Sum.inr "cells", .ref sc), (Sum.inr "left", .int l), (Sum.inr "mixed", .int m), (Sum.inr "turn", .int t)]
theorem kv_cells {sc : Addr} {l m t : Int} : valV (srcKv sc l m t) (Sum.inr "cells") = some (.ref sc) := rfl
theorem kv_left {sc : Addr} {l m t : Int} : valV (srcKv sc l m t) (Sum.inr "left") = some (.int l) := rfl
theorem kv_mixed {sc : Addr} {l m t : Int} : valV (srcKv sc l m t) (Sum.inr "mixed") = some (.int m) := rfl
theorem kv_turn {sc : Addr} {l m t : Int} : valV (srcKv sc l m t) (Sum.inr "turn") = some (.int t) := rfl
abbrev gtR : R2 := rI0 fun i j => .bl (decide (j < i))
abbrev ltR : R2 := rI0 fun i j => .bl (decide (i < j))
abbrev addR : R2 := rI0 fun i j => .int (i + j)
abbrev mulR : R2 := rI CMul fun i j => .int (i * j)
abbrev modR : R2 := rI (fun _ j => 0 < j) fun i j => .int (i % j)
abbrev divR : R2 := rI CDiv fun i j => .int (i / j)
abbrev max2R : List V → Hp → VK → Prop := fun xs H Q => ∃ i j, xs = [.int i, .int j] ∧ Q (.int (if j > i then j else i)) H
abbrev int1R : List V → Hp → VK → Prop := fun xs H Q => (∃ i, xs = [.int i] ∧ Q (.int i) H) ∨ ∃ k, xs = [.bl k] ∧ Q (.int (if k then 1 else 0)) H
abbrev lenR (K : PySem.W.Frag) : List V → Hp → VK → Prop := fun xs H Q => ∃ x n, xs = [x] ∧ LenV K x H n ∧ Q (.int n) H
abbrev tKey (x : Str) : TE := tDGet (tVar 0) (tC (.str x))
/-- the body of _law_pick -/
def tPick (K : PySem.W.Frag) : TS :=
  tSeq (tWhile (tAnd (tTest (tOp gtR (tVar 1) (tC (.int 1)))) (tAnd (tTest (tOp ltR (tKey "left") (tC (.int 2)))) (tTest (tOp gtR (tCB (lenR K) (tCons (tKey "cells") tNil)) (tC (.int 0))))))
      (sDPut (tVar 0) (tC (.str "left")) (tBM0 K "list" rPop (tKey "cells"))))
  (tSeq (tAsg (tKey "left") (gName 2))
  (tSeq (tIfS (tOr (tTest (tOp ltR (tVar 1) (tC (.int 2)))) (tTest (tOp gtR (tVar 2) (tC (.int 1)))))
      (tSeq (sDPut (tVar 0) (tC (.str "left")) (tOp divR (tVar 2) (tCB max2R (tCons (tC (.int 1)) (tCons (tVar 1) tNil)))))
        (tRet (tOp modR (tCB int1R (tCons (tVar 2) tNil)) (tCB max2R (tCons (tC (.int 1)) (tCons (tVar 1) tNil))))))
      tNext)
  (tSeq (sDPut (tVar 0) (tC (.str "turn")) (tOp addR (tKey "turn") (tC (.int 1))))
  (tSeq (tAsg (tOp modR (tCB int1R (tCons (tOp addR (tKey "mixed") (tOp mulR (tKey "turn") (tC (.int 104729)))) tNil)) (tC (.int 998244353))) (gName 3))
  (tSeq (tAsg (tOp modR (tCB int1R (tCons (tOp addR (tOp mulR (tVar 3) (tVar 3)) (tOp mulR (tKey "turn") (tC (.int 17)))) tNil)) (tC (.int 2147483647))) (gName 3))
  (tSeq (sDPut (tVar 0) (tC (.str "mixed")) (tVar 3))
    (tRet (tOp modR (tCB int1R (tCons (tOp divR (tVar 3) (tC (.int 16))) tNil)) (tVar 1)))))))))
def specPick : List D → (D → Prop) → Prop := fun ds R => ∃ n : Int, ds = [srcD, .int n] ∧ n ≤ 1000000000 ∧ ∀ k : Int, 0 ≤ k → (k < n ∨ k = 0) → R (.int k)
section
variable {K : PySem.W.Frag} {S : Option (Addr × Addr)}
theorem rp_src {c : Zc} {H : Hp} {v : V} {fp : List Addr} (h : Rp c H srcD v fp) : ∃ p, c.S = some p ∧ v = .ref p.1 ∧ fp = [] := by
  unfold srcD at h
  simp only [Rp, isSrc] at h
  simpa using h
theorem src_rp {c : Zc} {H : Hp} {p : Addr × Addr} (h : c.S = some p) : Rp c H srcD (.ref p.1) [] := by
  simp only [srcD, Rp]
  rw [if_pos (show isSrc [(.none, .none)] = true from rfl)]
  exact ⟨p, h, rfl, trivial⟩
/-- the source's own objects stand so -/
structure SrcSt (p : Addr × Addr) (H : Hp) (ns : List Int) (l m t : Int) : Prop where
  d : H p.1 = some (.dK (srcKv p.2 l m t))
  c : H p.2 = some (.lst (ns.map V.int))
  len : ns.length ≤ 63
  nn : ∀ n ∈ ns, 0 ≤ n
  l0 : 0 ≤ l
  m0 : 0 ≤ m
  m1 : m < 2147483648
  t0 : 0 ≤ t
theorem SrcSt.at {p : Addr × Addr} {H : Hp} {ns : List Int} {l m t : Int} (s : SrcSt p H ns l m t) (hne : p.1 ≠ p.2) : SrcAt ⟨K, some p⟩ H := fun q hq => by
  cases hq
  exact ⟨hne, ns, l, m, t, s.len, s.nn, s.l0, s.m0, s.m1, s.t0, s.d, s.c⟩
theorem SrcSt.putD {p : Addr × Addr} {H : Hp} {ns : List Int} {l m t l' m' t' : Int} (s : SrcSt p H ns l m t) (hne : p.1 ≠ p.2) (a : 0 ≤ l') (b : 0 ≤ m') (c : m' < 2147483648) (d : 0 ≤ t') : SrcSt p (upd H p.1 (.dK (srcKv p.2 l' m' t'))) ns l' m' t' :=
  ⟨upd_same, by rw [upd_ne (Ne.symm hne)]; exact s.c, s.len, s.nn, a, b, c, d⟩
theorem ext_src {p : Addr × Addr} {H H1 : Hp} {a : Addr} {o : HO} (e : Ext ⟨K, some p⟩ H H1) (ha : a = p.1 ∨ a = p.2) : Ext ⟨K, some p⟩ H (upd H1 a o) := fun b u hb hn => by
  rw [upd_ne fun z => hn ⟨p, rfl, by rw [z]; exact ha⟩]
  exact e b u hb hn
theorem get_of {p : Addr × Addr} {H : Hp} {ns : List Int} {l m t : Int} (s : SrcSt p H ns l m t) {x : Str} {v : V} (e : valV (srcKv p.2 l m t) (Sum.inr x) = some v) : DGet H p.1 (.str x) (some v) := by
  rw [← e]
  exact DGet.k (k := Sum.inr x) s.d
theorem key_of {p : Addr × Addr} {H : Hp} {ns : List Int} {l m t : Int} {σ : L2.St} {Q : VK} (s : SrcSt p H ns l m t) (h0 : σ[0]? = some (some (.ref p.1))) {x : Str} {v : V} (e : valV (srcKv p.2 l m t) (Sum.inr x) = some v) (q : Q v H) : tKey x σ H Q :=
  ⟨_, h0, p.1, v, rfl, get_of s e, q⟩
theorem small4 : (4 : Nat) < sizeLine := Nat.lt_of_lt_of_le (by decide : 4 < 10000000) (lim_ok (Nat.le_refl _))
theorem pick_reading {vs : List V} {H : Hp} {Q : VK} {E : XK} (h : spD K specPick vs H Q E) : tPick K { nx := fun _ H' => Q .non H', rt := Q } (L2.start ["source", "many", "left", "mixed"] vs) H := by
  obtain ⟨S, ds, fp, R, r, ns0, s, ⟨n, rfl, hn, hR⟩, q⟩ := h
  obtain ⟨v, w, f1, f2, rfl, rfl, rv, rw'⟩ := rps_two r
  obtain ⟨p, hp, rfl, rfl⟩ := rp_src rv
  have hp' : S = some p := hp
  subst hp'
  have ew := rp_int rw'
  subst ew
  have q' : ∀ k H', 0 ≤ k → (k < n ∨ k = 0) → Ext ⟨K, some p⟩ H H' → SrcAt ⟨K, some p⟩ H' → Q (.int k) H' := fun k H' h1 h2 e s' => q (.int k) (.int k) H' [] (hR k h1 h2) e s' (int_rp H') .nil List.nodup_nil fun a h => by cases h
  obtain ⟨hne, ns, l, m, t, z1, z2, z3, z4, z5, z6, z7, z8⟩ := s p rfl
  have st0 : SrcSt p H ns l m t := ⟨z7, z8, z1, z2, z3, z4, z5, z6⟩
  have hst : L2.start ["source", "many", "left", "mixed"] [V.ref p.1, .int n] = [some (.ref p.1), some (.int n), none, none] := rfl
  rw [hst]
  -- the loop
  refine ⟨fun k σ H1 => σ = [some (.ref p.1), some (.int n), none, none] ∧ ∃ ns l, k = ns.length ∧ SrcSt p H1 ns l m t ∧ Ext ⟨K, some p⟩ H H1, ⟨ns.length, rfl, ns, l, rfl, st0, Ext.refl _ _⟩, ?_⟩
  rintro k σ H1 ⟨rfl, ns, l, rfl, st, ex⟩
  -- behind the loop
  have after : (tSeq (tAsg (tKey "left") (gName 2))
      (tSeq (tIfS (tOr (tTest (tOp ltR (tVar 1) (tC (.int 2)))) (tTest (tOp gtR (tVar 2) (tC (.int 1)))))
        (tSeq (sDPut (tVar 0) (tC (.str "left")) (tOp divR (tVar 2) (tCB max2R (tCons (tC (.int 1)) (tCons (tVar 1) tNil)))))
          (tRet (tOp modR (tCB int1R (tCons (tVar 2) tNil)) (tCB max2R (tCons (tC (.int 1)) (tCons (tVar 1) tNil))))))
        tNext)
      (tSeq (sDPut (tVar 0) (tC (.str "turn")) (tOp addR (tKey "turn") (tC (.int 1))))
      (tSeq (tAsg (tOp modR (tCB int1R (tCons (tOp addR (tKey "mixed") (tOp mulR (tKey "turn") (tC (.int 104729)))) tNil)) (tC (.int 998244353))) (gName 3))
      (tSeq (tAsg (tOp modR (tCB int1R (tCons (tOp addR (tOp mulR (tVar 3) (tVar 3)) (tOp mulR (tKey "turn") (tC (.int 17)))) tNil)) (tC (.int 2147483647))) (gName 3))
      (tSeq (sDPut (tVar 0) (tC (.str "mixed")) (tVar 3))
        (tRet (tOp modR (tCB int1R (tCons (tOp divR (tVar 3) (tC (.int 16))) tNil)) (tVar 1))))))))) { nx := fun _ H' => Q .non H', rt := Q } [some (.ref p.1), some (.int n), none, none] H1 := by
    refine key_of st rfl kv_left ?_
    -- if many < 2 or left > 1
    have yes : (n < 2 ∨ 1 < l) → (tSeq (sDPut (tVar 0) (tC (.str "left")) (tOp divR (tVar 2) (tCB max2R (tCons (tC (.int 1)) (tCons (tVar 1) tNil)))))
          (tRet (tOp modR (tCB int1R (tCons (tVar 2) tNil)) (tCB max2R (tCons (tC (.int 1)) (tCons (tVar 1) tNil)))))) { nx := fun _ H' => Q .non H', rt := Q } [some (.ref p.1), some (.int n), some (.int l), none] H1 := fun hy => by
      have hm1 : (1 : Int) ≤ (if n > 1 then n else 1) := by split <;> omega
      have hm2 : (if n > 1 then n else 1) ≤ 1000000000 := by split <;> omega
      refine ⟨.int l, rfl, .int n, rfl, 1, n, rfl, l, _, rfl, rfl, ⟨by omega, by omega⟩, .ref p.1, rfl, p.1, _, rfl, DPut.k (k := Sum.inr "left") st.d small4, ?_⟩
      have st2 := st.putD hne (l' := l / (if n > 1 then n else 1)) (m' := m) (t' := t) (Int.ediv_nonneg st.l0 (by omega)) st.m0 st.m1 st.t0
      refine ⟨.int l, rfl, .inl ⟨l, rfl, .int n, rfl, 1, n, rfl, l, _, rfl, rfl, by omega, ?_⟩⟩
      refine q' _ _ (Int.emod_nonneg _ (by omega)) ?_ (ext_src ex (.inl rfl)) (st2.at hne)
      have h3 := Int.emod_lt_of_pos l (show (0 : Int) < (if n > 1 then n else 1) by omega)
      have h4 := Int.emod_nonneg l (show (if n > 1 then n else 1) ≠ (0 : Int) by omega)
      by_cases h : n > 1
      · rw [if_pos h] at h3 ⊢
        exact .inl h3
      · rw [if_neg h] at h3 h4 ⊢
        exact .inr (by omega)
    refine ⟨.int n, rfl, n, 2, rfl, rfl, _, rfl, ite2 (fun hlt => ?_) (fun hlt => ?_)⟩
    · exact iteT (yes (.inl (of_decide_eq_true hlt)))
    · have hn2 : ¬ n < 2 := fun z => hlt (decide_eq_true z)
      refine ⟨.int l, rfl, l, 1, rfl, rfl, _, rfl, ite2 (fun hl => ?_) (fun hl => ?_)⟩
      · exact yes (.inr (of_decide_eq_true hl))
      · -- a number mixed anew
        refine key_of st rfl kv_turn ⟨t, 1, rfl, rfl, .ref p.1, rfl, p.1, _, rfl, DPut.k (k := Sum.inr "turn") st.d small4, ?_⟩
        have st2 := st.putD hne (l' := l) (m' := m) (t' := t + 1) st.l0 st.m0 st.m1 (by have := st.t0; omega)
        refine key_of st2 rfl kv_mixed (key_of st2 rfl kv_turn ⟨t + 1, 104729, rfl, rfl, .inr ⟨by omega, by omega⟩, m, _, rfl, rfl, .inl ⟨_, rfl, _, 998244353, rfl, rfl, by omega, ?_⟩⟩)
        show tSeq _ _ _ [some (.ref p.1), some (.int n), some (.int l), some (.int ((m + (t + 1) * 104729) % 998244353))] _
        generalize hx : (m + (t + 1) * 104729) % 998244353 = x
        have x0 : 0 ≤ x := by rw [← hx]; exact Int.emod_nonneg _ (by omega)
        have x1 : x < 998244353 := by rw [← hx]; exact Int.emod_lt_of_pos _ (by omega)
        refine ⟨.int x, rfl, .int x, rfl, x, x, rfl, rfl, .inl ⟨by omega, by omega⟩, key_of st2 rfl kv_turn ⟨t + 1, 17, rfl, rfl, .inr ⟨by omega, by omega⟩, _, _, rfl, rfl, .inl ⟨_, rfl, _, 2147483647, rfl, rfl, by omega, ?_⟩⟩⟩
        show tSeq _ _ _ [some (.ref p.1), some (.int n), some (.int l), some (.int ((x * x + (t + 1) * 17) % 2147483647))] _
        generalize hy : (x * x + (t + 1) * 17) % 2147483647 = y
        have y0 : 0 ≤ y := by rw [← hy]; exact Int.emod_nonneg _ (by omega)
        have y1 : y < 2147483647 := by rw [← hy]; exact Int.emod_lt_of_pos _ (by omega)
        refine ⟨.int y, rfl, .ref p.1, rfl, p.1, _, rfl, DPut.k (k := Sum.inr "mixed") st2.d small4, ?_⟩
        have st3 := st2.putD hne (l' := l) (m' := y) (t' := t + 1) st.l0 y0 (by omega) st2.t0
        refine ⟨.int y, rfl, y, 16, rfl, rfl, ⟨by omega, by omega⟩, .inl ⟨_, rfl, .int n, rfl, _, n, rfl, rfl, by omega, ?_⟩⟩
        exact q' _ _ (Int.emod_nonneg _ (by omega)) (.inl (Int.emod_lt_of_pos _ (by omega))) (ext_src (ext_src ex (.inl rfl)) (.inl rfl)) (st3.at hne)
  -- the loop's test
  refine ⟨.int n, rfl, n, 1, rfl, rfl, _, rfl, ite2 (fun h1 => ?_) (fun h1 => ?_)⟩
  · refine key_of st rfl kv_left ⟨l, 2, rfl, rfl, _, rfl, ite2 (fun h2 => ?_) (fun h2 => ?_)⟩
    · refine key_of st rfl kv_cells ⟨.ref p.2, ns.length, rfl, .inl ⟨_, .of st.c, by simp⟩, _, 0, rfl, rfl, _, rfl, ite2 (fun h3 => ?_) (fun h3 => ?_)⟩
      · -- source["left"] = source["cells"].pop()
        have hpos : 0 < ns.length := by
          have := of_decide_eq_true h3
          omega
        obtain ⟨ms, y, rfl⟩ : ∃ ms y, ns = ms ++ [y] := ⟨ns.dropLast, ns.getLast (fun z => by rw [z] at hpos; cases hpos), (List.dropLast_concat_getLast _).symm⟩
        refine ⟨fun σ' H' => ∃ m', m' < (ms ++ [y]).length ∧ (σ' = [some (.ref p.1), some (.int n), none, none] ∧ ∃ ns l, m' = ns.length ∧ SrcSt p H' ns l m t ∧ Ext ⟨K, some p⟩ H H'), fun σ' H' h => h, ?_⟩
        refine key_of st rfl kv_cells ⟨.inl ⟨rfl, _, .of st.c⟩, p.2, _, .int y, rfl, rfl, st.c, by simp, .ref p.1, rfl, p.1, _, rfl, DPut.k (k := Sum.inr "left") (kvs := srcKv p.2 l m t) (by rw [upd_ne hne]; exact st.d) small4, ?_⟩
        refine ⟨ms.length, by simp, rfl, ms, y, rfl, ⟨upd_same, ?_, ?_, fun k hk => st.nn k (List.mem_append_left _ hk), st.nn y (by simp), st.m0, st.m1, st.t0⟩, ext_src (ext_src ex (.inr rfl)) (.inl rfl)⟩
        · rw [upd_ne (Ne.symm hne), upd_same]
          simp
        · have := st.len
          simp at this
          omega
      · exact after
    · exact iteF after
  · exact iteF after
end
end Z
set_option Elab.async false
set_option linter.all false
set_option maxRecDepth 100000
set_option maxHeartbeats 4000000
/-! Z9: the source made; the law's body. -/
namespace Z
open PySem PySem.Spec PyProof.Rows L2
abbrev absR : List V → Hp → VK → Prop := fun xs H Q => ∃ i, xs = [.int i] ∧ Q (.int (if i < 0 then -i else i)) H
/-- the body of _law_source -/
def tSource (K : PySem.W.Frag) : TS :=
  tSeq (tAsg (tC (.int 11)) (gName 1))
  (tSeq (tFor (iList K (tVar 0)) (gName 2) (tAsg (tOp modR (tCB int1R (tCons (tOp addR (tOp addR (tOp mulR (tVar 1) (tC (.int 69069))) (tOp mulR (tVar 2) (tC (.int 31)))) (tC (.int 5))) tNil)) (tC (.int 2147483629))) (gName 1)))
    (tRet (tDisp [(tC (.str "cells"), tRevL K (tLc (iList K (tVar 0)) (gName 2) tYes (tCB absR (tCons (tVar 2) tNil)) [2])), (tC (.str "left"), tC (.int 1)), (tC (.str "mixed"), tVar 1), (tC (.str "turn"), tC (.int 0))])))
/-- a new source, all else as it was -/
def spSource (K : PySem.W.Frag) : Sp := fun vs H Q _ => ∃ (a : Addr) (ns : List Int), vs = [.ref a] ∧ SqL K H a (ns.map V.int) ∧ ns.length ≤ 63 ∧
  ∀ p H', Same H H' → p.1 ≠ p.2 → H p.1 = none → H p.2 = none → (∃ ns l m t, SrcSt p H' ns l m t) → Q (.ref p.1) H'
theorem same_new {H H' : Hp} {p : Addr} {o : HO} (s : Same H H') (h : H' p = none) : Same H (upd H' p o) := fun b u e => by
  rw [upd_ne (ne_of_none (s b u e) h)]
  exact s b u e
theorem abs_nat (i : Int) : (if i < 0 then -i else i) = (i.natAbs : Int) := by split <;> omega
theorem source_reading {K : PySem.W.Frag} {vs : List V} {H : Hp} {Q : VK} {E : XK} (h : spSource K vs H Q E) : tSource K { nx := fun _ H' => Q .non H', rt := Q } (L2.start ["script", "mixed", "cell"] vs) H := by
  obtain ⟨a, ns, rfl, hS, hlen, q⟩ := h
  have hst : L2.start ["script", "mixed", "cell"] [V.ref a] = [some (.ref a), none, none] := rfl
  rw [hst]
  have item : ∀ (i : Nat) (x : V), (ns.map V.int)[i]? = some x → ∃ c, x = .int c := fun i x e => by
    rw [List.getElem?_map] at e
    cases hc : ns[i]? with
    | none => rw [hc] at e; cases e
    | some c => rw [hc] at e; cases e; exact ⟨c, rfl⟩
  refine ⟨.ref a, rfl, a, rfl, ⟨_, hS⟩, for_list (K := K) (a := a) (xs := ns.map V.int) (fun i σ H1 => ∃ m y, σ = [some (.ref a), some (.int m), y] ∧ 0 ≤ m ∧ m < 2147483648 ∧ H1 = H) ⟨11, none, rfl, by omega, by omega, rfl⟩ ?_ ?_ ?_⟩
  · rintro i σ H1 _ ⟨m, y, rfl, _, _, rfl⟩
    exact hS
  · rintro i x σ H1 hi ⟨m, y, rfl, m0, m1, rfl⟩
    obtain ⟨c, rfl⟩ := item i x hi
    refine ⟨.int m, rfl, m, 69069, rfl, rfl, .inl ⟨by omega, by omega⟩, .int c, rfl, c, 31, rfl, rfl, .inr ⟨by omega, by omega⟩, _, _, rfl, rfl, _, 5, rfl, rfl, .inl ⟨_, rfl, _, 2147483629, rfl, rfl, by omega, ?_⟩⟩
    have h1 := Int.emod_nonneg (m * 69069 + c * 31 + 5) (show (2147483629 : Int) ≠ 0 by omega)
    have h2 := Int.emod_lt_of_pos (m * 69069 + c * 31 + 5) (show (0 : Int) < 2147483629 by omega)
    exact ⟨_, some (.int c), rfl, h1, by omega, rfl⟩
  · rintro σ H1 ⟨m, y, rfl, m0, m1, rfl⟩
    -- the dict
    intro p hp
    refine ⟨.ref a, rfl, a, rfl, ⟨_, (show Same H1 (upd H1 p (.dK [])) from same_new (Same.refl _) hp).seq hS⟩, fun Dd hD => ?_⟩
    have s1 : Same H1 (upd H1 p (.dK [])) := same_new (Same.refl _) hp
    have hpD : p ≠ Dd := ne_of_none upd_same hD
    refine lc_list (K := K) (a := a) (xs := ns.map V.int) (fun i H2 => ∃ acc : List Int, H2 = upd (upd H1 p (.dK [])) Dd (.lst (acc.map V.int)) ∧ acc.length = i ∧ ∀ k ∈ acc, 0 ≤ k) ⟨[], rfl, rfl, fun k hk => by cases hk⟩ ?_ ?_ ?_
    · rintro i H2 _ ⟨acc, rfl, _, _⟩
      exact (same_new s1 hD).seq hS
    · rintro i x H2 hi ⟨acc, rfl, hacc, hnn⟩
      obtain ⟨c, rfl⟩ := item i x hi
      have hil : i < ns.length := by
        have := (List.getElem?_eq_some_iff.mp hi).1
        simpa using this
      refine ⟨rfl, ?_⟩
      unfold tYes
      dsimp only
      rw [if_pos rfl]
      refine ⟨.int c, rfl, c, rfl, acc.map V.int, upd_same, ?_, acc ++ [if c < 0 then -c else c], ?_, by simp [hacc], fun k hk => ?_⟩
      · rw [List.length_map, hacc]
        exact Nat.lt_of_lt_of_le (by omega : i < 10000000) (lim_ok (Nat.le_refl _))
      · rw [upd_upd, List.map_append]
        rfl
      · rcases List.mem_append.mp hk with hk | hk
        · exact hnn k hk
        · rw [List.mem_singleton.mp hk, abs_nat]
          exact Int.natCast_nonneg _
    · rintro H2 ⟨acc, rfl, hacc, hnn⟩
      refine ⟨Dd, _, rfl, .of upd_same, fun r hr => ?_⟩
      have hrp : r ≠ p := fun z => by
        rw [z, upd_ne hpD, upd_same] at hr
        cases hr
      refine ⟨.int m, rfl, ?_⟩
      have hdk : upd (upd (upd H1 p (.dK [])) Dd (.lst (acc.map V.int))) r (.lst (acc.map V.int).reverse) p = some (.dK []) := by
        rw [upd_ne (Ne.symm hrp), upd_ne hpD, upd_same]
      refine ⟨hdk, [(Sum.inr "cells", .ref r), (Sum.inr "left", .int 1), (Sum.inr "mixed", .int m), (Sum.inr "turn", .int 0)], rfl, (show 4 ≤ 15 by decide), ?_⟩
      have s2 : Same H1 (upd (upd (upd H1 p (.dK [])) Dd (.lst (acc.map V.int))) r (.lst (acc.map V.int).reverse)) := same_new (same_new s1 hD) hr
      refine q (p, r) _ (fun b u e => ?_) (Ne.symm hrp) hp ((same_new s1 hD).free hr) ⟨acc.reverse, 1, m, 0, ⟨?_, ?_, ?_, fun k hk => hnn k (List.mem_reverse.mp hk), by omega, m0, m1, by omega⟩⟩
      · rw [upd_ne (ne_of_none e hp)]
        exact s2 b u e
      · exact upd_same
      · rw [upd_ne hrp, upd_same, List.map_reverse]
      · rw [List.length_reverse, hacc, List.length_map]
        exact hlen
/-- the law: a list of ints, at most 63, and True -/
def spLaw (K : PySem.W.Frag) : Sp := fun vs H Q _ => ∃ (a : Addr) (ns : List Int), vs = [.ref a] ∧ SqL K H a (ns.map V.int) ∧ ns.length ≤ 63 ∧ ∀ H', Q (.bl true) H'
def startL (n : Nat) : En := .unk :: .val srcD :: List.replicate n .unk
def lawE : DEnds := { nx := fun _ => False, rt := fun d => d = .bool true }
theorem law_reading {K : PySem.W.Frag} {rest : TS} {m : DMS} {W : List Nat} {N : List Str} {n : Nat} {vs : List V} {H : Hp} {Q : VK} {E : XK} (hN : N.length = n + 2) (hs : ∀ S, DS K S rest m W) (hm : m (startL n) lawE) (h : spLaw K vs H Q E) :
    (tSeq (tAsg (tCall (spSource K) [] E0 (tCons (tVar 0) tNil)) (gName 1)) rest) { nx := fun _ H' => Q .non H', rt := Q } (L2.start N vs) H := by
  obtain ⟨a, ns, rfl, hS, hlen, q⟩ := h
  have hst : L2.start N [V.ref a] = some (.ref a) :: none :: List.replicate n none := by
    unfold L2.start
    rw [hN]
    rfl
  rw [hst]
  refine ⟨.ref a, rfl, a, ns, rfl, hS, hlen, fun p H' sm hne f1 f2 hsrc => ?_⟩
  obtain ⟨ns', l, mm, t, st⟩ := hsrc
  have E0 : EnvAt ⟨K, some p⟩ (fun _ => none) H' (startL n) (some (.ref a) :: some (.ref p.1) :: List.replicate n none) (fun _ => []) := by
    refine ⟨by simp [startL], fun b u h _ => (by cases h), st.at hne, fun i sl h => ?_, fun i j _ _ _ _ b hb => by cases hb⟩
    match i, h with
    | 0, h => cases h; rfl
    | 1, h => cases h; exact ⟨.ref p.1, rfl, src_rp rfl, .nil⟩
    | i + 2, h =>
      have : sl = .unk := List.eq_of_mem_replicate (List.mem_of_getElem? (show (List.replicate n Sl.unk)[i]? = some sl from h))
      subst this
      rfl
  refine hs (some p) _ _ _ _ _ E0 _ hm _ ⟨fun _ _ _ _ h => False.elim h, fun _ _ _ _ h => False.elim h, fun _ _ _ _ h => False.elim h, fun d v H2 fp hd _ _ r _ _ _ => ?_⟩
  have hd' : d = .bool true := hd
  subst hd'
  rw [rp_bl r]
  exact q H2
theorem law_of {X : Cx} {body : List Stmt} {K : PySem.W.Frag} {rest : TS} {m : DMS} {W : List Nat} {n : Nat} {vs : List V} {H : Hp} {Q : VK} {E : XK} (N : List Str) (hN : N.length = n + 2)
    (hp : PSs X body (tSeq (tAsg (tCall (spSource K) [] E0 (tCons (tVar 0) tNil)) (gName 1)) rest)) (hs : ∀ S, DS K S rest m W) (hm : m (startL n) lawE) (h : spLaw K vs H Q E) : ∃ t, PSs X body t ∧ t { nx := fun _ H' => Q .non H', rt := Q } (L2.start N vs) H :=
  ⟨_, hp, law_reading hN hs hm h⟩
end Z
set_option Elab.async false
set_option linter.all false
set_option maxRecDepth 100000
set_option maxHeartbeats 4000000
/-! Z10: more rules over data: +, unpacking a list, x op= e. -/
namespace Z
open PySem PySem.Spec PyProof.Rows L2
/-- tuple + tuple: a known object, or the one that is not empty -/
def rCatF (K : PySem.W.Frag) : R2 := fun x y H Q => ∃ a b xs ys, x = .ref a ∧ y = .ref b ∧ SqT K H a xs ∧ SqT K H b ys ∧ xs.length + ys.length ≤ sizeLine ∧
  (xs = [] → Q (.ref b) H) ∧ (xs ≠ [] → ys = [] → Q (.ref a) H) ∧ (xs ≠ [] → ys ≠ [] → ∀ p o, H p = none → o.dict = none → Q (.ref p) (upd H p (.frz o (.tup (xs ++ ys)))))
theorem op_catF {X : Cx} : OpR X (binaryOp .Add) (rCatF X.K) := fun pins s σ H x y v u Q I rx ry h => by
  obtain ⟨a, b, xs, ys, rfl, rfl, ha, hb, hz, q0, q1, q2⟩ := h
  by_cases hx : xs = []
  · exact op_catA pins s σ H _ _ v u Q I rx ry ⟨a, b, xs, ys, rfl, rfl, ha, hb, hz, q0, fun z => (z hx).elim, fun z => (z hx).elim⟩
  by_cases hy : ys = []
  · exact op_catA pins s σ H _ _ v u Q I rx ry ⟨a, b, xs, ys, rfl, rfl, ha, hb, hz, q0, q1, fun _ z => (z hy).elim⟩
  cases rx
  cases ry
  obtain ⟨its, r1, p1, _⟩ := I.tuple ha
  obtain ⟨jts, r2, p2, _⟩ := I.tuple hb
  have ne : its ≠ [] ∧ jts ≠ [] := ⟨fun z => hx (List.eq_nil_of_length_eq_zero (by rw [r1.length, z]; rfl)), fun z => hy (List.eq_nil_of_length_eq_zero (by rw [r2.length, z]; rfl))⟩
  refine HT.cat_tup p1 p2 ne.1 (fun z => (ne.2 z).elim) (fun _ => ?_) (by rw [← r1.length, ← r2.length]; exact hz)
  have e := Heap.get?_push_size s.heap (o := { cls := .type "tuple", data := .seq (its ++ jts).toArray }) rfl
  exact ⟨.ref s.heap.objs.size, _, I.laid (t' := s.toks) (o := .frz { cls := .type "tuple", data := .seq (its ++ jts).toArray } (.tup (xs ++ ys))) (fun b ob k => Heap.get?_push_of_some _ k) (Nat.le_refl _) ⟨e, by rw [List.length_append]; exact hz, _, r1.append r2, ⟨_, e, rfl, _, rfl⟩⟩, rfl, q2 hx hy _ _ (I.hok.fresh (Nat.le_refl _)) rfl⟩
/-- ints, texts, tuples, lists -/
def rAddZ (K : PySem.W.Frag) : R2 := fun x y H Q => rI0 (fun i j => .int (i + j)) x y H Q ∨ (∃ i j, x = .str i ∧ y = .str j ∧ i.length + j.length ≤ sizeLine ∧ Q (.str (i ++ j)) H) ∨ rCatF K x y H Q ∨ rCat x y H Q
theorem op_addZ {X : Cx} : OpR X (binaryOp .Add) (rAddZ X.K) := op_add.or (op_add_str.or (op_catF.or op_cat))
section
variable {K : PySem.W.Frag} {S : Option (Addr × Addr)}
def fAdd : D → D → (D → Prop) → Prop := fun x y R => match x with
  | .int i => asI y fun j => R (.int (i + j))
  | .str a => match y with
    | .str b => a.length + b.length ≤ 10000000 ∧ R (.str (a ++ b))
    | _ => False
  | .tuple a => match y with
    | .tuple b => solids a = true ∧ solids b = true ∧ a.length + b.length ≤ 10000000 ∧ R (.tuple (a ++ b))
    | _ => False
  | .list a => match y with
    | .list b => solids a = true ∧ solids b = true ∧ a.length + b.length ≤ 10000000 ∧ R (.list (a ++ b))
    | _ => False
  | _ => False
theorem od_add : OpD K S (rAddZ K) fAdd := fun H x y d e f1 f2 s r1 n1 r2 n2 R hf Q q => by
  cases d with
  | int i =>
    obtain ⟨j, rfl, hR⟩ := asI_ok (show asI e _ from hf)
    exact .inl ⟨i, j, rp_int r1, rp_int r2, q _ _ H [] hR (Ext.refl _ _) s (int_rp H) .nil List.nodup_nil fun b hb => by cases hb⟩
  | str a =>
    cases e with
    | str b =>
      obtain ⟨hl, hR⟩ := hf
      simp only [Rp] at r1 r2
      exact .inr (.inl ⟨a, b, r1.1, r2.1, lim_ok hl, q _ _ H [] hR (Ext.refl _ _) s (str_rp H) .nil List.nodup_nil fun b hb => by cases hb⟩)
    | _ => exact False.elim hf
  | tuple a =>
    cases e with
    | tuple b =>
      obtain ⟨h1, h2, hl, hR⟩ := hf
      have z1 := r1.solid _ _ _ (by simp only [solid]; exact h1)
      have z2 := r2.solid _ _ _ (by simp only [solid]; exact h2)
      subst z1 z2
      have r1' := r1
      have r2' := r2
      simp only [Rp] at r1 r2
      obtain ⟨l, xs, rfl, hl1, hs1⟩ := r1
      obtain ⟨k, ys, rfl, hl2, hs2⟩ := r2
      have both := hs1.app hs2
      refine .inr (.inr (.inl ⟨l, k, xs, ys, rfl, rfl, hl1.t, hl2.t, by rw [hs1.len, hs2.len]; exact lim_ok hl, fun hx => ?_, fun _ hy => ?_, fun _ _ p o hp ho => ?_⟩))
      · have ha : a = [] := List.eq_nil_of_length_eq_zero (by rw [← hs1.len, hx]; rfl)
        subst ha
        exact q _ _ H [] hR (Ext.refl _ _) s r2' .nil List.nodup_nil fun b hb => by cases hb
      · have hb : b = [] := List.eq_nil_of_length_eq_zero (by rw [← hs2.len, hy]; rfl)
        subst hb
        rw [List.append_nil] at hR
        exact q _ _ H [] hR (Ext.refl _ _) s r1' .nil List.nodup_nil fun b hb => by cases hb
      · have e := Ext.new (c := ⟨K, S⟩) (o := .frz o (.tup (xs ++ ys))) hp
        refine q _ (.ref p) _ [] hR e (s.new hp) ?_ .nil List.nodup_nil fun b hb => by cases hb
        simp only [Rp]
        exact ⟨p, _, rfl, .new ho, both.ext .nil e s⟩
    | _ => exact False.elim hf
  | list a =>
    cases e with
    | list b =>
      obtain ⟨h1, h2, hl, hR⟩ := hf
      simp only [Rp] at r1 r2
      obtain ⟨l, xs, g1, rfl, rfl, hl1, hs1⟩ := r1
      obtain ⟨k, ys, g2, rfl, rfl, hl2, hs2⟩ := r2
      have z1 := hs1.solid _ _ _ h1
      have z2 := hs2.solid _ _ _ h2
      subst z1 z2
      have both := hs1.app hs2
      refine .inr (.inr (.inr ⟨l, k, xs, ys, rfl, rfl, hl1, hl2, by rw [hs1.len, hs2.len]; exact lim_ok hl, fun p hp => ?_⟩))
      have e := Ext.new (c := ⟨K, S⟩) (o := .lst (xs ++ ys)) hp
      refine q _ (.ref p) _ [p] hR e (s.new hp) ?_ (fun b hb => by rw [List.mem_singleton.mp hb]; exact s.fresh hp) (List.pairwise_singleton _ _) fun b hb => by rw [List.mem_singleton.mp hb]; exact hp
      simp only [Rp]
      exact ⟨p, _, [], rfl, rfl, upd_same, both.ext .nil e s⟩
    | _ => exact False.elim hf
  | none => exact False.elim hf
  | bool b => exact False.elim hf
  | dict kvs => exact False.elim hf
/-- a, b = a list of that length -/
def asL (d : D) (k : List D → Prop) : Prop := match d with
  | .list ds => k ds
  | _ => False
def dgUnl (n : Nat) (ms : DMgs) : DMg := fun d ρ R => asL d fun ds => ds.length = n ∧ ms ds ρ R
/-- x op= e over ints -/
def sAugI (i : Nat) (f : Int → Int → Int) (m : DM) : DMS := fun ρ R => look ρ[i]? fun d => asI d fun a => m ρ fun e => asI e fun b => R.nx (ρ.set i (.own (.int (f a b))))
end
end Z
set_option Elab.async false
set_option linter.all false
set_option maxRecDepth 100000
set_option maxHeartbeats 4000000
/-! Z11: helps for the plain part. -/
namespace Z
open PySem PySem.Spec PyProof.Rows L2
/-! ### comprehensions -/
section
variable {tg : DMg} {mt : DMt} {me : DM} {ρ : En} {R : List D → Prop}
theorem compD_acc {α : Type} (enc f : α → D) : ∀ (ys : List α) (acc : List D), (∀ y ∈ ys, ∀ (k : D → Prop) (k0 : Prop), k (f y) → tg (enc y) ρ fun ρ' => mt ρ' fun b => cond b (me ρ' k) k0) → R (acc ++ ys.map f) → compD tg mt me ρ R (ys.map enc) acc
  | [], acc, _, h => by simpa [compD] using h
  | y :: ys, acc, hs, h => by
    show tg (enc y) ρ fun ρ' => mt ρ' fun b => cond b (me ρ' fun z => compD tg mt me ρ R (ys.map enc) (acc ++ [z])) (compD tg mt me ρ R (ys.map enc) acc)
    exact hs y (List.mem_cons_self ..) _ _ (compD_acc enc f ys (acc ++ [f y]) (fun z hz => hs z (List.mem_cons_of_mem _ hz)) (by simpa using h))
/-- each item gives one -/
theorem compD_map {α : Type} {ys : List α} {enc : α → D} (f : α → D) (hs : ∀ y ∈ ys, ∀ (k : D → Prop) (k0 : Prop), k (f y) → tg (enc y) ρ fun ρ' => mt ρ' fun b => cond b (me ρ' k) k0) (h : R (ys.map f)) : compD tg mt me ρ R (ys.map enc) [] :=
  compD_acc enc f ys [] hs (by simpa using h)
theorem compD_facc {α : Type} (enc f : α → D) (p : α → Bool) : ∀ (ys : List α) (acc : List D), (∀ y ∈ ys, ∀ (k : D → Prop) (k0 : Prop), (p y = true → k (f y)) → (p y = false → k0) → tg (enc y) ρ fun ρ' => mt ρ' fun b => cond b (me ρ' k) k0) → R (acc ++ (ys.filter p).map f) → compD tg mt me ρ R (ys.map enc) acc
  | [], acc, _, h => by simpa [compD] using h
  | y :: ys, acc, hs, h => by
    show tg (enc y) ρ fun ρ' => mt ρ' fun b => cond b (me ρ' fun z => compD tg mt me ρ R (ys.map enc) (acc ++ [z])) (compD tg mt me ρ R (ys.map enc) acc)
    refine hs y (List.mem_cons_self ..) _ _ (fun hp => ?_) (fun hp => ?_)
    · exact compD_facc enc f p ys (acc ++ [f y]) (fun z hz => hs z (List.mem_cons_of_mem _ hz)) (by simpa [hp] using h)
    · exact compD_facc enc f p ys acc (fun z hz => hs z (List.mem_cons_of_mem _ hz)) (by simpa [hp] using h)
/-- those items that p takes give one each -/
theorem compD_filter {α : Type} {ys : List α} {enc : α → D} (f : α → D) (p : α → Bool) (hs : ∀ y ∈ ys, ∀ (k : D → Prop) (k0 : Prop), (p y = true → k (f y)) → (p y = false → k0) → tg (enc y) ρ fun ρ' => mt ρ' fun b => cond b (me ρ' k) k0) (h : R ((ys.filter p).map f)) : compD tg mt me ρ R (ys.map enc) [] :=
  compD_facc enc f p ys [] hs (by simpa using h)
end
/-! ### loops -/
/-- I: what holds ahead of each turn -/
theorem forD_inv {mg : DMg} {mb : DMS} {F : List Nat} {R : DEnds} (I : Nat → En → Prop) : ∀ (xs : List D) (n : Nat) (ρ : En), I n ρ →
    (∀ i x ρ (Nx : En → Prop), xs[i]? = some x → I (n + i) ρ → (∀ ρ', I (n + i + 1) (hide F ρ') → Nx ρ') → mg x ρ fun ρ1 => mb ρ1 ⟨Nx, R.rt, fun ρ' => R.nx (hide F ρ'), Nx⟩) → (∀ ρ, I (n + xs.length) ρ → R.nx ρ) → forD mg mb F R xs ρ
  | [], n, ρ, h0, _, hd => hd ρ h0
  | x :: xs, n, ρ, h0, hs, hd => hs 0 x ρ _ rfl h0 fun ρ' h' => forD_inv I xs (n + 1) (hide F ρ') h' (fun i y ρ2 Nx e h2 h3 => by
      have := hs (i + 1) y ρ2 Nx (by simpa using e) (by rw [← Nat.add_assoc, Nat.add_right_comm]; exact h2) (fun ρ' h => h3 ρ' (by rw [← Nat.add_assoc, Nat.add_right_comm n i 1] at h; exact h))
      exact this) (fun ρ2 h2 => hd ρ2 (by rw [List.length_cons, Nat.add_comm xs.length 1, ← Nat.add_assoc]; exact h2))
/-! ### data of a shape -/
abbrev tI (xs : List Int) : D := .tuple (xs.map .int)
abbrev tII (xss : List (List Int)) : D := .tuple (xss.map tI)
theorem solids_of {α : Type} {f : α → D} : ∀ {xs : List α}, (∀ x ∈ xs, solid (f x) = true) → solids (xs.map f) = true
  | [], _ => by simp [solids]
  | x :: xs, h => by
    simp only [List.map_cons, solids, Bool.and_eq_true]
    exact ⟨h x (List.mem_cons_self ..), solids_of fun y hy => h y (List.mem_cons_of_mem _ hy)⟩
theorem solids_ints (xs : List Int) : solids (xs.map .int) = true := solids_of fun x _ => by simp [solid]
theorem solid_tI (xs : List Int) : solid (tI xs) = true := by simp only [solid]; exact solids_ints xs
theorem solids_tII (xss : List (List Int)) : solids (xss.map tI) = true := solids_of fun x _ => solid_tI x
theorem solid_tII (xss : List (List Int)) : solid (tII xss) = true := by simp only [solid]; exact solids_tII xss
theorem solid_int (i : Int) : solid (.int i) = true := by simp [solid]
theorem solid_bool (i : Bool) : solid (.bool i) = true := by simp [solid]
theorem solid_str (i : Str) : solid (.str i) = true := by simp [solid]
theorem solid_none : solid .none = true := by simp [solid]
theorem solid_tup (xs : List D) : solid (.tuple xs) = solids xs := by simp [solid]
theorem solids_cons (x : D) (xs : List D) : solids (x :: xs) = (solid x && solids xs) := by simp [solids]
theorem solids_nil : solids [] = true := by simp [solids]
theorem enumD_map {α : Type} (f : α → D) (xs : List α) : enumD (xs.map f) = xs.zipIdx.map fun p => .tuple [.int (p.2 : Nat), f p.1] := by
  unfold enumD
  apply List.ext_getElem?
  intro i
  rw [List.getElem?_map, List.getElem?_map, List.length_map]
  by_cases hi : i < xs.length
  · rw [List.getElem?_range hi, List.getElem?_zipIdx, List.getElem?_eq_getElem hi]
    simp [List.getD_eq_getElem?_getD, hi]
  · rw [List.getElem?_eq_none (by simpa using hi), List.getElem?_eq_none (by simpa using hi)]
    rfl
theorem rangeD_len (lo : Int) (n : Nat) (c : Int) : (rangeD lo n c).length = n := by simp [rangeD]
theorem atI_ok {α : Type} {xs : List α} {j : Nat} {i : Int} {x : α} (h : xs[j]? = some x) (e : i = (j : Int)) : atI xs i = some x := by
  subst e
  exact atI_nat h
theorem eqv_int (i j : Int) : PyData.eqv (.int i) (.int j) = (i == j) := by simp [PyData.eqv]
theorem eqv_str (i j : Str) : PyData.eqv (.str i) (.str j) = (i == j) := by simp [PyData.eqv]
/-- ints, texts, bools compared -/
def flat : D → Bool
  | .list _ | .tuple _ | .dict _ => false
  | _ => true
theorem flat_plain {d : D} (h : flat d = true) : d.plain = true ∧ d.depth = 0 := by
  cases d <;> first | (simp [flat] at h; done) | (exact ⟨by simp [PyData.plain, PyData.canLay0], by simp [PyData.depth]⟩)
theorem fEq_flat {neg : Bool} {x y : D} {R : D → Prop} (h1 : flat x = true) (h2 : flat y = true) (h : R (.bool (if neg then !PyData.eqv x y else PyData.eqv x y))) : fEq neg x y R :=
  ⟨(flat_plain h1).1, (flat_plain h2).1, by rw [(flat_plain h1).2]; omega, h⟩
theorem fEq_int {neg : Bool} {i j : Int} {R : D → Prop} (h : R (.bool (if neg then !(i == j) else (i == j)))) : fEq neg (.int i) (.int j) R := fEq_flat rfl rfl (by rw [eqv_int]; exact h)
theorem fEq_str {neg : Bool} {i j : Str} {R : D → Prop} (h : R (.bool (if neg then !(i == j) else (i == j)))) : fEq neg (.str i) (.str j) R := fEq_flat rfl rfl (by rw [eqv_str]; exact h)
end Z
set_option Elab.async false
set_option linter.all false
set_option maxRecDepth 100000
set_option maxHeartbeats 4000000
/-! Z12: in, index, slices, list(), zip. -/
namespace Z
open PySem PySem.Spec PyProof.Rows L2
/-! ### in -/
def rInZ (K : PySem.W.Frag) (neg : Bool) : R2 := fun x y H Q => ∃ d ds, Dp K H x d ∧ (Dp K H y (.list ds) ∨ Dp K H y (.tuple ds)) ∧ d.plain = true ∧ PyData.plainAll ds = true ∧ min (PyData.depthAll ds) d.depth ≤ 60 ∧
  Q (.bl (if neg then !ds.any fun z => PyData.eqv z d else ds.any fun z => PyData.eqv z d)) H
section
variable {X : Cx}
theorem op_inZ (hu : X.A.units + 64 < cLine) : OpR X (compareOp .In) (rInZ X.K false) := fun pins s σ H x y v u Q I rx ry h => by
  obtain ⟨d, ds, hd, he, pd, pe, hz, q⟩ := h
  obtain ⟨as, r1⟩ := Dp.reads I d x v hd rx
  rcases he with he | he
  · obtain ⟨bs, r2⟩ := Dp.reads I _ y u he ry
    exact SeqAt.in_list_data r2 r1 pe pd (by omega) ⟨.bl _, H, I, rfl, q⟩
  · obtain ⟨bs, r2⟩ := Dp.reads I _ y u he ry
    exact SeqAt.in_tuple_data r2 r1 pe pd (by omega) ⟨.bl _, H, I, rfl, q⟩
theorem op_notInZ (hu : X.A.units + 64 < cLine) : OpR X (compareOp .NotIn) (rInZ X.K true) := fun pins s σ H x y v u Q I rx ry h => by
  obtain ⟨d, ds, hd, he, pd, pe, hz, q⟩ := h
  obtain ⟨as, r1⟩ := Dp.reads I d x v hd rx
  rcases he with he | he
  · obtain ⟨bs, r2⟩ := Dp.reads I _ y u he ry
    exact SeqAt.notIn_list_data r2 r1 pe pd (by omega) ⟨.bl _, H, I, rfl, q⟩
  · obtain ⟨bs, r2⟩ := Dp.reads I _ y u he ry
    exact SeqAt.notIn_tuple_data r2 r1 pe pd (by omega) ⟨.bl _, H, I, rfl, q⟩
/-! ### t.index(x), l.index(x), ints -/
def tIndexZ (K : PySem.W.Frag) (to : TE) (t : TA) : TE := fun σ H Q => to σ H fun x H1 =>
  (∃ a, x = .ref a ∧ (∃ xs, SqL K H1 a xs) ∧ t σ H1 fun vs H2 => ∃ (k : Int) (ns : List Int), vs = [.int k] ∧ SqL K H2 a (ns.map V.int) ∧ k ∈ ns ∧ Q (.int (ns.idxOf k : Nat)) H2) ∨
  (∃ a, x = .ref a ∧ (∃ xs, SqD K H1 a xs) ∧ t σ H1 fun vs H2 => ∃ (k : Int) (ns : List Int), vs = [.int k] ∧ SqT K H2 a (ns.map V.int) ∧ k ∈ ns ∧ Q (.int (ns.idxOf k : Nat)) H2)
theorem SqD.typeIs {pins : List (Addr × Obj)} {σ : L2.St} {H : Hp} {s : Shared} {a : Addr} {xs : List V} (I : Inv X pins σ H s) (h : SqD X.K H a xs) : s.TypeIs (.ref a) "tuple" ∧ ∃ ob, s.heap.get? a = some ob ∧ ob.dict = none := by
  rcases h with ⟨o, h, e⟩ | ⟨o, its, n, h1, h2, h3, h4, h5, h6⟩
  · obtain ⟨ho, _, its, rv, o', ho', hc, hd⟩ := I.hok a _ h
    have eo : o = o' := by rw [ho] at ho'; exact Option.some.inj ho'
    subst eo
    exact ⟨⟨o, ho, hc⟩, o, ho, e⟩
  · have ho : s.heap.get? a = some o := I.kIn _ _ h1
    exact ⟨⟨o, ho, h2⟩, o, ho, h3⟩
theorem pe_indexZ {o e : Expr} {es : List Expr} {to : TE} {t : TA} {apos cpos : Pos} (ho : PE X o to) (ha : PA X (e :: es) t)
    (hbase : attributeBase o "index" X.env (eval o X.env) = eval o X.env := by rfl)
    (hfew : ((backTo cpos (starEach (e :: es) X.env)).all (fun x => !x.1) && (backToKw cpos (keywordEach [] X.env)).all (fun x => x.1.isSome) && decide ((e :: es).length + ([] : List Keyword).length + (if ([] : List Keyword).isEmpty then 0 else 1) < 30)) = true := by rfl)
    (hline : (apos.endLine == cpos.line) = true := by rfl) (hs : starEach (e :: es) X.env = (false, eval e X.env) :: starEach es X.env := by rfl) (hplain : (backTo cpos (starEach es X.env)).any (·.1) = false := by rfl) :
    PE X (.Call (.Attribute o "index" apos) (e :: es) [] cpos) (tIndexZ X.K to t) := by
  refine ⟨fun pins s σ H Q I h => ?_⟩
  refine wpAny_Call_method_late hbase hfew hline rfl (thn (ho.run pins s σ H _ I h) fun v s1 w => ?_)
  obtain ⟨x, H1, I1, r1, q1⟩ := w
  have plain : (false || (backTo cpos (starEach es X.env)).any (·.1)) = false := by rw [hplain]; rfl
  rcases q1 with ⟨a, rfl, ⟨xs, hx⟩, q⟩ | ⟨a, rfl, ⟨xs, hx⟩, q⟩
  · cases r1
    obtain ⟨its, rv, pl, _⟩ := I1.list hx
    refine ⟨"list", "list.index", F.plainAttrs_list, F.slot_list_index, F.type_list_index, pl.isList.typeIs, fun b hb => ?_, ?_⟩
    · cases hb
      obtain ⟨ob, n, h1, h2, h3, h4⟩ := pl
      exact ⟨ob, h1, h3⟩
    · have run := ha.run cpos pins s1 σ H1 _ I1 q
      rw [hs] at run ⊢
      refine Calls.callWith_builtin plain (Calls.evalArgs_plain (thn run fun us s2 w => ?_))
      obtain ⟨vs, H2, I2, r2, k, ns, rfl, hn, hk, q2⟩ := w
      obtain ⟨u, rfl, t', rfl⟩ := vals1 r2
      obtain ⟨jts, rw', pl2, hz⟩ := I2.list hn
      exact SeqAt.list_index_ints (vs := jts) pl2.isList (intsAre_of rw') (by simpa using hz) hk ⟨.int _, H2, I2.tok _, ⟨_, rfl⟩, q2⟩
  · cases r1
    obtain ⟨ty, ob, h1, h2⟩ := hx.typeIs I1
    refine ⟨"tuple", "tuple.index", F.plainAttrs_tuple, F.slot_tuple_index, F.type_tuple_index, ty, fun b hb => by cases hb; exact ⟨ob, h1, h2⟩, ?_⟩
    have run := ha.run cpos pins s1 σ H1 _ I1 q
    rw [hs] at run ⊢
    refine Calls.callWith_builtin plain (Calls.evalArgs_plain (thn run fun us s2 w => ?_))
    obtain ⟨vs, H2, I2, r2, k, ns, rfl, hn, hk, q2⟩ := w
    obtain ⟨u, rfl, t', rfl⟩ := vals1 r2
    obtain ⟨jts, rw', pl2, hz⟩ := I2.tuple hn
    exact SeqAt.tuple_index_ints (vs := jts) pl2 (intsAre_of rw') hk ⟨.int _, H2, I2.tok _, ⟨_, rfl⟩, q2⟩
end
section
variable {K : PySem.W.Frag} {S : Option (Addr × Addr)}
def fIn (neg : Bool) : D → D → (D → Prop) → Prop := fun x y R => match y with
  | .list ds => x.plain = true ∧ PyData.plainAll ds = true ∧ min (PyData.depthAll ds) x.depth ≤ 60 ∧ R (.bool (if neg then !ds.any fun z => PyData.eqv z x else ds.any fun z => PyData.eqv z x))
  | .tuple ds => x.plain = true ∧ PyData.plainAll ds = true ∧ min (PyData.depthAll ds) x.depth ≤ 60 ∧ R (.bool (if neg then !ds.any fun z => PyData.eqv z x else ds.any fun z => PyData.eqv z x))
  | _ => False
theorem od_in {neg : Bool} : OpD K S (rInZ K neg) (fIn neg) := .pure fun H x y d e f1 f2 r1 r2 R hf Q q => by
  cases e with
  | list ds =>
    obtain ⟨h1, h2, h3, hR⟩ := hf
    exact ⟨d, ds, r1.dp _ _ _ h1, .inl (r2.dp _ _ _ (by simpa only [PyData.plain] using h2)), h1, h2, h3, q _ _ hR bl_rp⟩
  | tuple ds =>
    obtain ⟨h1, h2, h3, hR⟩ := hf
    exact ⟨d, ds, r1.dp _ _ _ h1, .inr (r2.dp _ _ _ (by simpa only [PyData.plain] using h2)), h1, h2, h3, q _ _ hR bl_rp⟩
  | _ => exact False.elim hf
def dIndex (m : DM) (ms : DMs) : DM := fun ρ R => m ρ fun d => match d with
  | .list xs => ms ρ fun ys => ∃ (k : Int) (ns : List Int), ys = [.int k] ∧ xs = ns.map .int ∧ k ∈ ns ∧ R (.int (ns.idxOf k : Nat))
  | .tuple xs => ms ρ fun ys => ∃ (k : Int) (ns : List Int), ys = [.int k] ∧ xs = ns.map .int ∧ k ∈ ns ∧ R (.int (ns.idxOf k : Nat))
  | _ => False
theorem de_index {to : TE} {t : TA} {m : DM} {ms : DMs} {U V : List Nat} (h1 : DE K S to m U) (h2 : DA K S t ms V) : DE K S (tIndexZ K to t) (dIndex m ms) [] := fun G H ρ σ fps E R hm Q q =>
  h1 G H ρ σ fps E _ hm _ fun d v H1 fp hR e1 s1 r1 n1 f1 => by
    cases d with
    | list xs =>
      have r1' := r1
      simp only [Rp] at r1
      obtain ⟨a, vs, gp, rfl, rfl, ha, hv⟩ := r1
      refine .inl ⟨a, rfl, ⟨vs, .of ha⟩, h2 G H1 ρ σ fps (E.step e1 s1) _ hR _ fun ys us H2 gp2 hR2 e2 s2 r2 n2 f2 => ?_⟩
      obtain ⟨k, ns, rfl, rfl, hk, hR2⟩ := hR2
      obtain ⟨u, rfl, ru⟩ := rps_one r2
      obtain ⟨rfl, rfl⟩ := rps_ints hv
      exact ⟨k, ns, by rw [rp_int ru], .of (e2 _ _ ha (n1 a (List.mem_cons_self ..))), hk, q _ _ H2 [] hR2 (e1.trans e2) s2 (int_rp H2) .nil (.fresh (fun b hb => by cases hb) List.nodup_nil)⟩
    | tuple xs =>
      simp only [Rp] at r1
      obtain ⟨a, vs, rfl, ha, hv⟩ := r1
      refine .inr ⟨a, rfl, ⟨vs, ha⟩, h2 G H1 ρ σ fps (E.step e1 s1) _ hR _ fun ys us H2 gp2 hR2 e2 s2 r2 n2 f2 => ?_⟩
      obtain ⟨k, ns, rfl, rfl, hk, hR2⟩ := hR2
      obtain ⟨u, rfl, ru⟩ := rps_one r2
      obtain ⟨rfl, rfl⟩ := rps_ints hv
      exact ⟨k, ns, by rw [rp_int ru], (e2.tk s1).sq ha.t, hk, q _ _ H2 [] hR2 (e1.trans e2) s2 (int_rp H2) .nil (.fresh (fun b hb => by cases hb) List.nodup_nil)⟩
    | _ => exact False.elim hR
end
/-! ### slices -/
/-- the items that a slice takes -/
def cutL {α : Type} (xs : List α) (lo hi : Option Int) : List α := (xs.drop (HT.sIx xs.length 0 lo)).take (HT.sIx xs.length xs.length hi - HT.sIx xs.length 0 lo)
def IsAll (n : Nat) (lo hi : Option Int) : Prop := HT.sIx n 0 lo = 0 ∧ HT.sIx n n hi = n
theorem cutL_all {α : Type} {xs : List α} {lo hi : Option Int} (h : IsAll xs.length lo hi) : cutL xs lo hi = xs := by
  unfold cutL
  rw [h.1, h.2]
  simp
def rSlZ (K : PySem.W.Frag) : V → Option Int → Option Int → Hp → VK → Prop := fun x lo hi H Q =>
  (∃ a xs, x = .ref a ∧ SqL K H a xs ∧ ∀ p, H p = none → Q (.ref p) (upd H p (.lst (cutL xs lo hi)))) ∨
  (∃ a xs, x = .ref a ∧ SqT K H a xs ∧ (IsAll xs.length lo hi → Q (.ref a) H) ∧ (¬ IsAll xs.length lo hi → ∀ p o, H p = none → o.dict = none → Q (.ref p) (upd H p (.frz o (.tup (cutL xs lo hi)))))) ∨
  (∃ z, x = .str z ∧ z.length ≤ sizeLine ∧ Q (.str (cutS z lo hi)) H)
theorem sl_cutT {X : Cx} : SlR X (fun x lo hi H Q => ∃ a xs, x = .ref a ∧ SqT X.K H a xs ∧ (IsAll xs.length lo hi → Q (.ref a) H) ∧ (¬ IsAll xs.length lo hi → ∀ p o, H p = none → o.dict = none → Q (.ref p) (upd H p (.frz o (.tup (cutL xs lo hi)))))) := fun pins s σ H x v vl vu lo hi sl Q I rx hs pl pu h => by
  obtain ⟨a, xs, rfl, hx, q1, q2⟩ := h
  by_cases hw : IsAll xs.length lo hi
  · exact sl_tupA pins s σ H _ v vl vu lo hi sl Q I rx hs pl pu ⟨a, xs, rfl, hx, fun _ => q1 hw, fun z => (z hw).elim⟩
  · cases rx
    obtain ⟨its, r, ht, hz⟩ := I.tuple hx
    have el : its.toArray.size = xs.length := by rw [List.size_toArray]; exact r.length.symm
    refine ⟨"tuple", _, PyProof.Rows.slot_tuple_getitem.lookup, ht.typeIs, HT.getItem_tuple_cut ht hs pl pu (by rw [el]; exact hw) ?_ (by rw [el]; exact hz)⟩
    rw [el]
    have cr := (r.drop (HT.sIx xs.length 0 lo)).take (HT.sIx xs.length xs.length hi - HT.sIx xs.length 0 lo)
    have e := Heap.get?_push_size s.heap (o := { cls := .type "tuple", data := .seq ((its.drop (HT.sIx xs.length 0 lo)).take (HT.sIx xs.length xs.length hi - HT.sIx xs.length 0 lo)).toArray }) rfl
    exact ⟨.ref s.heap.objs.size, _, I.laid (t' := s.toks) (o := .frz { cls := .type "tuple", data := .seq ((its.drop (HT.sIx xs.length 0 lo)).take (HT.sIx xs.length xs.length hi - HT.sIx xs.length 0 lo)).toArray } (.tup (cutL xs lo hi))) (fun b ob w => Heap.get?_push_of_some _ w) (Nat.le_refl _)
      ⟨e, Nat.le_trans (cutV_length xs lo hi) hz, _, cr, ⟨_, e, rfl, _, rfl⟩⟩, rfl, q2 hw _ _ (I.hok.fresh (Nat.le_refl _)) rfl⟩
theorem sl_cut {X : Cx} : SlR X (rSlZ X.K) := SlR.or sl_list (SlR.or sl_cutT sl_str)
section
variable {K : PySem.W.Frag} {S : Option (Addr × Addr)}
abbrev DMo := En → (Option Int → Prop) → Prop
def DO (K : PySem.W.Frag) (S : Option (Addr × Addr)) (t : TO) (m : DMo) : Prop :=
  ∀ (G H : Hp) (ρ : En) (σ : L2.St) (fps : Nat → List Addr), EnvAt ⟨K, S⟩ G H ρ σ fps → ∀ R : Option Int → Prop, m ρ R → ∀ Q : Option Int → Hp → Prop,
    (∀ o H', R o → Ext ⟨K, S⟩ H H' → SrcAt ⟨K, S⟩ H' → Q o H') → t σ H Q
def dNo : DMo := fun _ R => R none
def dPart (m : DM) : DMo := fun ρ R => m ρ fun d => asI d fun i => R (some i)
theorem do_no : DO K S tNoPart dNo := fun G H ρ σ fps E R hm Q q => q none H hm (Ext.refl _ _) E.src
theorem do_part {t : TE} {m : DM} {U : List Nat} (h : DE K S t m U) : DO K S (tPart t) (dPart m) := fun G H ρ σ fps E R hm Q q =>
  h G H ρ σ fps E _ hm _ fun d v H1 fp hR e1 s1 r1 n1 f1 => by
    obtain ⟨i, rfl, hR⟩ := asI_ok hR
    exact ⟨i, rp_int r1, q _ H1 hR e1 s1⟩
/-- a slice of a list, a tuple without lists in it, a text -/
def fCut (d : D) (lo hi : Option Int) (R : D → Prop) : Prop := match d with
  | .list ds => solids ds = true ∧ R (.list (cutL ds lo hi))
  | .tuple ds => solids ds = true ∧ R (.tuple (cutL ds lo hi))
  | .str z => z.length ≤ 10000000 ∧ R (.str (cutS z lo hi))
  | _ => False
def dSlice (m : DM) (ml mh : DMo) : DM := fun ρ R => m ρ fun d => ml ρ fun lo => mh ρ fun hi => fCut d lo hi R
theorem Rps.drop {c : Zc} {H : Hp} : ∀ {ds : List D} {xs : List V}, Rps c H ds xs [] → ∀ n, Rps c H (ds.drop n) (xs.drop n) []
  | ds, xs, h, 0 => by simpa using h
  | [], xs, h, n + 1 => by
    simp only [Rps] at h
    rw [h.1]
    simp [Rps]
  | d :: ds, xs, h, n + 1 => by
    simp only [Rps] at h
    obtain ⟨x, ys, f1, f2, rfl, e, h1, h2⟩ := h
    obtain ⟨rfl, rfl⟩ := List.append_eq_nil_iff.mp e.symm
    exact Rps.drop h2 n
theorem Rps.take {c : Zc} {H : Hp} : ∀ {ds : List D} {xs : List V}, Rps c H ds xs [] → ∀ n, Rps c H (ds.take n) (xs.take n) []
  | ds, xs, h, 0 => by simp [Rps]
  | [], xs, h, n + 1 => by
    simp only [Rps] at h
    rw [h.1]
    simp [Rps]
  | d :: ds, xs, h, n + 1 => by
    simp only [Rps] at h
    obtain ⟨x, ys, f1, f2, rfl, e, h1, h2⟩ := h
    obtain ⟨rfl, rfl⟩ := List.append_eq_nil_iff.mp e.symm
    exact Rps.cons h1 (Rps.take h2 n)
theorem Rps.cut {c : Zc} {H : Hp} {ds : List D} {xs : List V} (h : Rps c H ds xs []) (lo hi : Option Int) : Rps c H (cutL ds lo hi) (cutL xs lo hi) [] := by
  unfold cutL
  rw [h.len]
  exact (h.drop _).take _
theorem de_slice {te : TE} {tl th : TO} {m : DM} {ml mh : DMo} {U : List Nat} (h : DE K S te m U) (hl : DO K S tl ml) (hh : DO K S th mh) : DE K S (tSl (rSlZ K) te tl th) (dSlice m ml mh) [] := fun G H ρ σ fps E R hm Q q =>
  h G H ρ σ fps E _ hm _ fun d v H1 fp hR e1 s1 r1 n1 f1 => hl G H1 ρ σ fps (E.step e1 s1) _ hR _ fun lo H2 hR e2 s2 => hh G H2 ρ σ fps (E.step (e1.trans e2) s2) _ hR _ fun hi H3 hR e3 s3 => by
    have r3 := (r1.ext n1 (e2.trans e3) s1)
    have ee := e1.trans (e2.trans e3)
    cases d with
    | list ds =>
      simp only [Rp] at r3
      obtain ⟨a, xs, gp, rfl, rfl, ha, hv⟩ := r3
      have z := hv.solid _ _ _ hR.1
      subst z
      refine .inl ⟨a, xs, rfl, .of ha, fun p hp => ?_⟩
      have e := Ext.new (c := ⟨K, S⟩) (o := .lst (cutL xs lo hi)) hp
      have hpn := s3.fresh hp
      refine q _ (.ref p) _ [p] hR.2 (ee.trans e) (s3.new hp) ?_ (fun b hb => by rw [List.mem_singleton.mp hb]; exact hpn) (.new (ee.free hp hpn))
      simp only [Rp]
      exact ⟨p, _, [], rfl, rfl, upd_same, (hv.cut lo hi).ext .nil e s3⟩
    | tuple ds =>
      have z := r3.solid _ _ _ (by simp only [solid]; exact hR.1)
      subst z
      have r3' := r3
      simp only [Rp] at r3
      obtain ⟨a, xs, rfl, ha, hv⟩ := r3
      refine .inr (.inl ⟨a, xs, rfl, ha.t, fun w => ?_, fun w p o hp ho => ?_⟩)
      · rw [hv.len] at w
        have hR2 := hR.2
        rw [cutL_all w] at hR2
        exact q _ _ H3 [] hR2 ee s3 r3' .nil (.fresh (fun b hb => by cases hb) List.nodup_nil)
      · have e := Ext.new (c := ⟨K, S⟩) (o := .frz o (.tup (cutL xs lo hi))) hp
        refine q _ (.ref p) _ [] hR.2 (ee.trans e) (s3.new hp) ?_ .nil (.fresh (fun b hb => by cases hb) List.nodup_nil)
        simp only [Rp]
        exact ⟨p, _, rfl, .new ho, (hv.cut lo hi).ext .nil e s3⟩
    | str z =>
      simp only [Rp] at r3
      obtain ⟨rfl, rfl⟩ := r3
      exact .inr (.inr ⟨z, rfl, lim_ok hR.1, q _ _ H3 [] hR.2 ee s3 (str_rp H3) .nil (.fresh (fun b hb => by cases hb) List.nodup_nil)⟩)
    | _ => exact False.elim hR
/-! ### list(xs), list(range(..)) -/
def fList : List D → (D → Prop) → Prop := fun ds R => match ds with
  | [.list xs] => solids xs = true ∧ R (.list xs)
  | [.tuple xs] => solids xs = true ∧ R (.list xs)
  | _ => False
theorem cd_list : CallD K S (fun xs H Q => ∃ p ys, xs = [.ref p] ∧ (SqL K H p ys ∨ SqT K H p ys) ∧ ∀ l, H l = none → Q (.ref l) (upd H l (.lst ys))) fList := fun H xs ds fp s r n R hf Q q => by
  have fin : ∀ (p : Addr) (ys : List V) (es : List D), (SqL K H p ys ∨ SqT K H p ys) → Rps ⟨K, S⟩ H es ys [] → R (.list es) → ∃ p' ys', [V.ref p] = [.ref p'] ∧ (SqL K H p' ys' ∨ SqT K H p' ys') ∧ ∀ l, H l = none → Q (.ref l) (upd H l (.lst ys')) := fun p ys es h1 h2 hR => by
    refine ⟨p, ys, rfl, h1, fun l hl => ?_⟩
    have e := Ext.new (c := ⟨K, S⟩) (o := .lst ys) hl
    refine q (.list es) (.ref l) _ [l] hR e (s.new hl) ?_ (fun b hb => by rw [List.mem_singleton.mp hb]; exact s.fresh hl) (List.pairwise_singleton _ _) fun b hb => by rw [List.mem_singleton.mp hb]; exact hl
    simp only [Rp]
    exact ⟨l, ys, [], rfl, rfl, upd_same, h2.ext .nil e s⟩
  unfold fList at hf
  split at hf
  · obtain ⟨x, rfl, rx⟩ := rps_one r
    simp only [Rp] at rx
    obtain ⟨a, ys, gp, rfl, rfl, h1, h2⟩ := rx
    have z := h2.solid _ _ _ hf.1
    subst z
    exact fin a ys _ (.inl (.of h1)) h2 hf.2
  · obtain ⟨x, rfl, rx⟩ := rps_one r
    have z := rx.solid _ _ _ (by simp only [solid]; exact hf.1)
    subst z
    simp only [Rp] at rx
    obtain ⟨a, ys, rfl, h1, h2⟩ := rx
    exact fin a ys _ (.inr h1.t) h2 hf.2
  · exact False.elim hf
def dListRg (m : DM) : DM := fun ρ R => m ρ fun d => asI d fun j => (-1000000000 ≤ j ∧ j ≤ 10000000) ∧ R (.list (rangeD 0 j.toNat 1))
end
end Z
set_option Elab.async false
set_option linter.all false
set_option maxRecDepth 100000
set_option maxHeartbeats 4000000
/-! Z13: sorted, zip. -/
namespace Z
open PySem PySem.Spec PyProof.Rows L2
/-! ### sorted(x): what x gives is collected, then sorted -/
section
open PySem.W
variable {prog : Program} {w : World} {A : Around} {E : Value → Shared → Prop} {s : Shared} {β : Type} {vs : List Value} {bs : List β} {enc : β → PyData} {R : Value → β → Prop}
/-- sorted's keywords: none, or reverse=b -/
inductive Rev : Bool → List (Str × Value) → Prop
  | no : Rev false []
  | of (b : Bool) : Rev b [(Str.ofString "reverse", .bool b)]
theorem sorted_any {x : Value} {b : Bool} {kw : List (Str × Value)} {Q : Value → Shared → Prop} (hr : Rev b kw)
    (col : ∀ (E' : Value → Shared → Prop) (Q' : List Value → Shared → Prop), (∀ h', (∀ c o, s.heap.get? c = some o → h'.get? c = some o) → Q' vs { s with heap := h' }) → wpAny (model prog w) A.in1 (collect x) Q' E' s)
    (e : EachIs R vs bs) (er : EachIs (fun v b => ∃ as, Reads s.heap v (enc b) as) vs bs) (hal : AllAlike (bs.map enc)) (hk : Sortable (bs.map enc)) (hL : bs.length ≤ sizeLine) (hu : ∀ b, b ∈ bs → A.units + 2 + (enc b).depth < cLine)
    (h : ∀ (out : List Value) (h1 h' : Heap) (n : Nat), EachIs R out (bs.mergeSort (dataLe b enc)) → (∀ c o, s.heap.get? c = some o → h1.get? c = some o) → (∀ c o, h1.get? c = some o → h'.get? c = some o) → h'.get? h1.objs.size = some (seqObj "list" (List.toArray out) n) → Q (.ref h1.objs.size) { s with heap := h' }) :
    wpAny (model prog w) A (call (.builtin "sorted") [x] kw) Q E s := by
  have hl : vs.length ≤ sizeLine := by rw [e.length]; exact hL
  refine call_function_entry_kw kind_sorted plain_sorted entry_sorted (by cases hr with | no => exact args_sorted1 _ | of b => exact args_sorted_rev _ _) ?_
  unfold Builtin.«sorted»
  refine wpAny_bind (m := checkCount "sorted" 1 1 _) (wpAny_pure ?_)
  refine wpAny_bind (col _ _ fun h1 k1 => ?_)
  refine wpAny_bind (wpAny_newList ?_ hl)
  have ho : (h1.push (seqObj "list" vs.toArray 0)).get? h1.objs.size = some (seqObj "list" vs.toArray 0) := Heap.get?_push_size _ rfl
  have keep : ∀ c o, s.heap.get? c = some o → (h1.push (seqObj "list" vs.toArray 0)).get? c = some o ∧ c ≠ h1.objs.size := fun c o q => ⟨Heap.get?_push_of_some _ (k1 c o q), Nat.ne_of_lt (Heap.lt_size (k1 c o q))⟩
  have er' : EachIs (fun v b => ∃ as, Reads (sortingHeap (h1.push (seqObj "list" vs.toArray 0)) h1.objs.size vs) v (enc b) as) vs bs :=
    er.mono fun _ _ ⟨as, r⟩ => ⟨as, PyProof.Rows.Reads.keeps (fun c o q => sortingHeap_old (keep c o q).2 (keep c o q).1) r⟩
  have S := SortsAt.data (prog := prog) (w := w) (A := A.in1.in1) (s := { s with heap := sortingHeap (h1.push (seqObj "list" vs.toArray 0)) h1.objs.size vs })
    (each_map (R := fun v d => ∃ as, Reads (sortingHeap (h1.push (seqObj "list" vs.toArray 0)) h1.objs.size vs) v d as) enc er') hal hk (bound_map hu)
  have fin : Q (.ref h1.objs.size) { s with heap := sortedHeap (h1.push (seqObj "list" vs.toArray 0)) h1.objs.size vs (sortVals (dataKind (sortingHeap (h1.push (seqObj "list" vs.toArray 0)) h1.objs.size vs) (bs.map enc)) b vs vs).toArray } := by
    obtain ⟨n, hn⟩ := sortedHeap_at (out := (sortVals (dataKind (sortingHeap (h1.push (seqObj "list" vs.toArray 0)) h1.objs.size vs) (bs.map enc)) b vs vs).toArray) ho
    refine h _ h1 _ n (sortVals_data b e er' hal) k1 (fun c o q => ?_) hn
    have lt := Heap.lt_size q
    rw [sortedHeap_old (Nat.ne_of_lt lt) (by rw [Heap.size_push]; exact Nat.lt_succ_of_lt lt)]
    exact Heap.get?_push_of_some _ q
  refine wpAny_bind (wpAny_holding (wpAny_call_entry_kw slot_list_sort ⟨_, ho, rfl⟩ entry_list_sort ?body (by cases hr with | no => exact args_list_sort _ | of b => exact args_list_sort_rev _ _)))
  case body =>
    cases hr with
    | no => exact list_sort_vals (s := { s with heap := h1.push (seqObj "list" vs.toArray 0) }) ho S hl ⟨_, rfl, wpAny_pure ⟨_, rfl, fin⟩⟩
    | of b => exact list_sort_rev_vals (s := { s with heap := h1.push (seqObj "list" vs.toArray 0) }) ho S hl ⟨_, rfl, wpAny_pure ⟨_, rfl, fin⟩⟩
end
/-! ### sorted over the layer -/
theorem vals_each : ∀ {xs : List V} {us : List Value} {ds : List D}, Vals xs us → xs.length = ds.length → PySem.W.EachIs (fun v (p : V × D) => RelV p.1 v) us (xs.zip ds)
  | [], _, [], .nil, _ => .nil
  | _ :: _, _, _ :: _, .cons r t, h => .cons r (vals_each t (by simpa using h))
  | [], _, _ :: _, _, h => by simp at h
  | _ :: _, _, [], _, h => by simp at h
theorem each_vals : ∀ {ps : List (V × D)} {us : List Value}, PySem.W.EachIs (fun v (p : V × D) => RelV p.1 v) us ps → Vals (ps.map (·.1)) us
  | [], _, .nil => .nil
  | _ :: _, _, .cons r t => .cons r (each_vals t)
theorem reads_each {h : Heap} : ∀ {xs : List V} {us : List Value} {ds : List D} {as : List Addr}, xs.length = ds.length → ReadsAll h us ds as → PySem.W.EachIs (fun v (p : V × D) => ∃ as, Reads h v p.2 as) us (xs.zip ds)
  | [], _, [], _, _, .nil => .nil
  | _ :: _, _, _ :: _, _, h, .cons r t => .cons ⟨_, r⟩ (reads_each (by simpa using h) t)
  | [], _, _ :: _, _, h, _ => by simp at h
  | _ :: _, _, [], _, h, _ => by simp at h
/-- the values, sorted as the data are -/
def sortV (b : Bool) (xs : List V) (ds : List D) : List V := ((xs.zip ds).mergeSort (PySem.W.dataLe b (·.2))).map (·.1)
def sortD (b : Bool) (ds : List D) : List D := ds.mergeSort (PySem.W.dataLe b id)
def SortOk (ds : List D) : Prop := PyData.plainAll ds = true ∧ PySem.W.AllAlike ds ∧ PySem.W.Sortable ds ∧ ds.length ≤ 10000000 ∧ PyData.depthAll ds ≤ 50
def rSortZ (K : PySem.W.Frag) (b : Bool) : List V → Hp → VK → Prop := fun vs H Q => ∃ a xs ds, vs = [V.ref a] ∧ (SqL K H a xs ∨ SqT K H a xs) ∧ DpAll K H xs ds ∧ xs.length = ds.length ∧ SortOk ds ∧ ∀ p, H p = none → Q (.ref p) (upd H p (.lst (sortV b xs ds)))
theorem depth_le {k : Nat} : ∀ {ds : List D}, PyData.depthAll ds ≤ k → ∀ d ∈ ds, d.depth ≤ k
  | d :: ds, h, e, he => by
    simp only [PyData.depthAll] at h
    rcases List.mem_cons.mp he with rfl | he
    · exact Nat.le_trans (Nat.le_max_left _ _) h
    · exact depth_le (Nat.le_trans (Nat.le_max_right _ _) h) e he
section
variable {X : Cx}
theorem sort_run {b : Bool} {kw : List (Str × Value)} (hr : Rev b kw) (hu : X.A.units + 64 < cLine) {pins : List (Addr × Obj)} {s : Shared} {σ : L2.St} {H : Hp} {vs : List V} {us : List Value} {Q : VK} (I : Inv X pins σ H s) (r : Vals vs us) (h : rSortZ X.K b vs H Q) :
    wpAny (model X.prog X.w) X.A (call (.builtin "sorted") us kw) (EP X pins σ Q) X.xe s := by
  obtain ⟨a, xs, ds, rfl, hs, hd, hl, ⟨h1, h2, h3, h4, h5⟩, q⟩ := h
  obtain ⟨u, rfl, ru⟩ := vals1 r
  cases ru
  have go : ∀ its : List Value, Vals xs its → (∀ (E' : Value → Shared → Prop) (Q' : List Value → Shared → Prop), (∀ h', (∀ c o, s.heap.get? c = some o → h'.get? c = some o) → Q' its { s with heap := h' }) → wpAny (model X.prog X.w) X.A.in1 (collect (.ref a)) Q' E' s) →
      wpAny (model X.prog X.w) X.A (call (.builtin "sorted") [.ref a] kw) (EP X pins σ Q) X.xe s := fun its rv col => by
    obtain ⟨as, rr⟩ := Dp.readsAll I ds _ its hd rv
    have emap : (xs.zip ds).map (·.2) = ds := by rw [List.map_snd_zip (Nat.le_of_eq hl.symm)]
    refine sorted_any (bs := xs.zip ds) (enc := (·.2)) hr col (vals_each rv hl) (reads_each hl rr) (by rw [emap]; exact h2) (by rw [emap]; exact h3) (by rw [List.length_zip]; exact Nat.le_trans (Nat.min_le_right _ _) (lim_ok h4)) (fun p hp => ?_) fun out g1 h' n e k1 k2 ho => ?_
    · have := depth_le h5 p.2 (List.of_mem_zip hp).2
      show X.A.units + 2 + p.2.depth < cLine
      omega
    · have J : Inv X pins σ H { s with heap := g1 } := I.kept (t' := s.toks) k1
      have rv' := each_vals e
      have hlen : (sortV b xs ds).length ≤ sizeLine := by
        unfold sortV
        rw [List.length_map, List.length_mergeSort, List.length_zip]
        exact Nat.le_trans (Nat.min_le_right _ _) (lim_ok h4)
      exact ⟨.ref g1.objs.size, _, J.laid (t' := s.toks) (o := .lst (sortV b xs ds)) k2 (Nat.le_refl _) ⟨hlen, out, n, rv', ho⟩, rfl, q _ (J.hok.fresh (Nat.le_refl _))⟩
  rcases hs with hs | hs
  · obtain ⟨its, rv, ⟨o, n, ho, hc, _, hdt⟩, hz⟩ := I.list hs
    exact go its rv fun E' Q' k => wpAny_collect_seq a (.inl rfl) ho hc hdt k (by rw [List.size_toArray, ← rv.length]; exact hz)
  · obtain ⟨its, rv, ⟨o, ho, hc, n, hdt⟩, hz⟩ := I.tuple hs
    exact go its rv fun E' Q' k => wpAny_collect_seq a (.inr rfl) ho hc hdt k (by rw [List.size_toArray, ← rv.length]; exact hz)
theorem cr_sortZ (hu : X.A.units + 64 < cLine) : CallR X (.builtin "sorted") (rSortZ X.K false) := fun pins s σ H vs us Q I r h => sort_run .no hu I r h
theorem cr_sortZR (hu : X.A.units + 64 < cLine) : CallRK X (.builtin "sorted") [Str.ofString "reverse"] (fun vs zs H Q => ∃ b, zs = [.bl b] ∧ rSortZ X.K b vs H Q) := fun pins s σ H vs zs us ws Q I r rz h => by
  obtain ⟨b, rfl, h⟩ := h
  obtain ⟨u, rfl, ru⟩ := vals1 rz
  cases ru
  exact sort_run (.of b) hu I r h
end
section
variable {K : PySem.W.Frag} {S : Option (Addr × Addr)}
def fSorted (b : Bool) : List D → (D → Prop) → Prop := fun ds R => match ds with
  | [.list xs] => solids xs = true ∧ SortOk xs ∧ R (.list (sortD b xs))
  | [.tuple xs] => solids xs = true ∧ SortOk xs ∧ R (.list (sortD b xs))
  | _ => False
theorem rps_pairs {c : Zc} {H : Hp} : ∀ {ps : List (V × D)}, (∀ p ∈ ps, Rp c H p.2 p.1 []) → Rps c H (ps.map (·.2)) (ps.map (·.1)) []
  | [], _ => .nil
  | p :: ps, h => Rps.cons (h p (List.mem_cons_self ..)) (rps_pairs fun q hq => h q (List.mem_cons_of_mem _ hq))
theorem pairs_rps {c : Zc} {H : Hp} : ∀ {ds : List D} {xs : List V}, Rps c H ds xs [] → ∀ p ∈ xs.zip ds, Rp c H p.2 p.1 []
  | [], xs, h, p, hp => by simp at hp
  | d :: ds, xs, h, p, hp => by
    simp only [Rps] at h
    obtain ⟨x, ys, f1, f2, rfl, e, h1, h2⟩ := h
    obtain ⟨rfl, rfl⟩ := List.append_eq_nil_iff.mp e.symm
    rw [List.zip_cons_cons] at hp
    rcases List.mem_cons.mp hp with rfl | hp
    · exact h1
    · exact pairs_rps h2 p hp
theorem rps_sort {c : Zc} {H : Hp} {ds : List D} {xs : List V} (b : Bool) (h : Rps c H ds xs []) : Rps c H (sortD b ds) (sortV b xs ds) [] := by
  have e : sortD b ds = ((xs.zip ds).mergeSort (PySem.W.dataLe b (·.2))).map (·.2) := by
    have e1 : (xs.zip ds).map (·.2) = ds := by rw [List.map_snd_zip (Nat.le_of_eq h.len.symm)]
    have e2 := List.map_mergeSort (r := PySem.W.dataLe b (fun p : V × D => p.2)) (s := PySem.W.dataLe b id) (f := fun p : V × D => p.2) (l := xs.zip ds) (fun a _ b' _ => rfl)
    rw [e2, e1]
    rfl
  rw [e]
  exact rps_pairs fun p hp => pairs_rps h p (List.mem_mergeSort.mp hp)
theorem sorted_fin {b : Bool} {H : Hp} {x : V} {xs : List D} {f : List Addr} (s : SrcAt ⟨K, S⟩ H) (rx : Rp ⟨K, S⟩ H (.list xs) x f ∨ Rp ⟨K, S⟩ H (.tuple xs) x f) (hs : solids xs = true) (ok : SortOk xs) {R : D → Prop} (hR : R (.list (sortD b xs))) {Q : VK}
    (q : ∀ z v H' fp, R z → Ext ⟨K, S⟩ H H' → SrcAt ⟨K, S⟩ H' → Rp ⟨K, S⟩ H' z v fp → NoS ⟨K, S⟩ fp → fp.Nodup → (∀ a ∈ fp, H a = none) → Q v H') : rSortZ K b [x] H Q := by
  have fin : ∀ (a : Addr) (ys : List V), (SqL K H a ys ∨ SqT K H a ys) → Rps ⟨K, S⟩ H xs ys [] → rSortZ K b [.ref a] H Q := fun a ys h1 h2 => by
    refine ⟨a, ys, xs, rfl, h1, h2.dp _ _ _ ok.1, h2.len, ok, fun l hl => ?_⟩
    have e := Ext.new (c := ⟨K, S⟩) (o := .lst (sortV b ys xs)) hl
    refine q _ (.ref l) _ [l] hR e (s.new hl) ?_ (fun c hc => by rw [List.mem_singleton.mp hc]; exact s.fresh hl) (List.pairwise_singleton _ _) fun c hc => by rw [List.mem_singleton.mp hc]; exact hl
    simp only [Rp]
    exact ⟨l, _, [], rfl, rfl, upd_same, (rps_sort b h2).ext .nil e s⟩
  rcases rx with rx | rx
  · simp only [Rp] at rx
    obtain ⟨a, ys, gp, rfl, rfl, h1, h2⟩ := rx
    have z := h2.solid _ _ _ hs
    subst z
    exact fin a ys (.inl (.of h1)) h2
  · have z := rx.solid _ _ _ (by simp only [solid]; exact hs)
    subst z
    simp only [Rp] at rx
    obtain ⟨a, ys, rfl, h1, h2⟩ := rx
    exact fin a ys (.inr h1.t) h2
theorem cd_sorted {b : Bool} : CallD K S (rSortZ K b) (fSorted b) := fun H xs ds fp s r n R hf Q q => by
  unfold fSorted at hf
  split at hf
  · obtain ⟨x, rfl, rx⟩ := rps_one r
    exact sorted_fin s (.inl rx) hf.1 hf.2.1 hf.2.2 q
  · obtain ⟨x, rfl, rx⟩ := rps_one r
    exact sorted_fin s (.inr rx) hf.1 hf.2.1 hf.2.2 q
  · exact False.elim hf
/-- sorted(x, reverse=True) -/
theorem de_sortR {t tk : TA} {ms : DMs} {U : List Nat} (h : DA K S t ms U) (hk : ∀ (σ : L2.St) (H : Hp) (Q : List V → Hp → Prop), Q [.bl true] H → tk σ H Q) : DE K S (tCKw (fun vs zs H Q => ∃ b, zs = [.bl b] ∧ rSortZ K b vs H Q) t tk) (dCall (fSorted true) ms) [] := fun G H ρ σ fps E R hm Q q =>
  h G H ρ σ fps E _ hm _ fun d v H1 fp hR e1 s1 r1 n1 f1 => hk _ _ _ ⟨true, rfl, cd_sorted H1 v d fp s1 r1 n1 _ hR _ fun z u H3 kp hz e3 s3 r3 n3 nd fr =>
    q z u H3 kp hz (e1.trans e3) s3 r3 n3 (.fresh (fun a ha => e1.free (fr a ha) (n3 a ha)) nd)⟩
end
end Z
set_option Elab.async false
set_option linter.all false
set_option maxRecDepth 100000
set_option maxHeartbeats 4000000
/-! Z14: things in a drawn sequence: its reading; zip. -/
namespace Z
open PySem PySem.Spec PyProof.Rows L2
abbrev listR (K : PySem.W.Frag) : List V → Hp → VK → Prop := fun xs H Q => ∃ p ys, xs = [.ref p] ∧ (SqL K H p ys ∨ SqT K H p ys) ∧ ∀ l, H l = none → Q (.ref l) (upd H l (.lst ys))
/-- the body of _law_mixed -/
def tMixed (K : PySem.W.Frag) (E : XK) : TS :=
  tSeq (tAsg (tCB (listR K) (tCons (tVar 1) tNil)) (gName 2))
    (tRet (tLc (iRng1 (tCons (tCB (lenR K) (tCons (tVar 2) tNil)) tNil)) (gName 3) tYes
      (tBM K "list" rPopAt (tVar 2) (tCons (tCall (spD K specPick) [] E (tCons (tVar 0) (tCons (tCB (lenR K) (tCons (tVar 2) tNil)) tNil))) tNil)) [3]))
def specMixed : List D → (D → Prop) → Prop := fun ds R => ∃ xs : List D, (ds = [srcD, .list xs] ∨ ds = [srcD, .tuple xs]) ∧ solids xs = true ∧ xs.length ≤ 1000000 ∧ ∀ ys : List D, ys.Perm xs → R (.list ys)
theorem rps_perm {c : Zc} {H : Hp} {as bs : List V} (p : as.Perm bs) : ∀ {ds : List D}, Rps c H ds bs [] → ∃ es : List D, es.Perm ds ∧ Rps c H es as [] := by
  induction p with
  | nil => exact fun h => ⟨_, List.Perm.refl _, h⟩
  | cons x _ ih =>
    intro ds h
    cases ds with
    | nil => simp [Rps] at h
    | cons d ds =>
      simp only [Rps] at h
      obtain ⟨y, ys, f1, f2, e, e2, h1, h2⟩ := h
      cases e
      obtain ⟨rfl, rfl⟩ := List.append_eq_nil_iff.mp e2.symm
      obtain ⟨es, h3, h4⟩ := ih h2
      exact ⟨d :: es, h3.cons d, Rps.cons h1 h4⟩
  | swap x y l =>
    intro ds h
    match ds, h with
    | [], h => simp [Rps] at h
    | [d], h =>
      simp only [Rps] at h
      obtain ⟨_, _, _, _, e, _, _, e2, _⟩ := h
      subst e2
      cases e
    | d1 :: d2 :: ds, h =>
      simp only [Rps] at h
      obtain ⟨y1, ys, f1, f2, e, e2, h1, y2, zs, f3, f4, e3, e4, h3, h4⟩ := h
      cases e
      cases e3
      subst e4
      obtain ⟨rfl, e5⟩ := List.append_eq_nil_iff.mp e2.symm
      obtain ⟨rfl, rfl⟩ := List.append_eq_nil_iff.mp e5
      exact ⟨d2 :: d1 :: ds, List.Perm.swap d1 d2 ds, Rps.cons h3 (Rps.cons h1 h4)⟩
  | trans _ _ ih1 ih2 =>
    intro ds h
    obtain ⟨es, h1, h2⟩ := ih2 h
    obtain ⟨fs, h3, h4⟩ := ih1 h2
    exact ⟨fs, h3.trans h1, h4⟩
theorem perm_erase {α : Type} {acc xs : List α} {k : Nat} {y : α} (h : xs[k]? = some y) : (acc ++ [y] ++ xs.eraseIdx k).Perm (acc ++ xs) := by
  obtain ⟨hk, e⟩ := List.getElem?_eq_some_iff.mp h
  rw [List.append_assoc]
  refine List.Perm.append_left _ ?_
  have : xs = xs.take k ++ y :: xs.drop (k + 1) := by
    rw [← e, ← List.drop_eq_getElem_cons hk, List.take_append_drop]
  rw [List.eraseIdx_eq_take_drop_succ]
  conv => rhs; rw [this]
  exact (List.perm_middle (a := y) (l₁ := xs.take k) (l₂ := xs.drop (k + 1))).symm
theorem seqIx_nat {j n : Nat} (h : j < n) : seqIndex? (j : Int) n = some j := by
  have e1 : ¬ ((j : Int) < 0) := by omega
  have e2 : (0 : Int) ≤ (j : Int) := by omega
  have e3 : (j : Int) < (n : Int) := by omega
  simp only [seqIndex?, e1, if_false, e2, e3, decide_true, Bool.and_true, if_true, Int.toNat_natCast]
theorem mixed_reading {K : PySem.W.Frag} {vs : List V} {H : Hp} {Q : VK} {E : XK} (h : spD K specMixed vs H Q E) : tMixed K E { nx := fun _ H' => Q .non H', rt := Q } (L2.start ["source", "things", "rest", "lap"] vs) H := by
  obtain ⟨S, ds, fp, R, r, ns0, s, ⟨xs, hds, hsol, hlen, hR⟩, q⟩ := h
  obtain ⟨v, p, ys, rfl, hp, hsq, hys⟩ : ∃ (v : V) (p : Addr) (ys : List V), vs = [v, .ref p] ∧ Rp ⟨K, S⟩ H srcD v [] ∧ (SqL K H p ys ∨ SqT K H p ys) ∧ Rps ⟨K, S⟩ H xs ys [] := by
    rcases hds with rfl | rfl
    · obtain ⟨v, w, f1, f2, rfl, rfl, rv, rw'⟩ := rps_two r
      obtain ⟨_, _, _, rfl⟩ := rp_src rv
      simp only [Rp] at rw'
      obtain ⟨a, ys, gp, rfl, rfl, h1, h2⟩ := rw'
      have z := h2.solid _ _ _ hsol
      subst z
      exact ⟨v, a, ys, rfl, rv, .inl (.of h1), h2⟩
    · obtain ⟨v, w, f1, f2, rfl, rfl, rv, rw'⟩ := rps_two r
      obtain ⟨_, _, _, rfl⟩ := rp_src rv
      have z := rw'.solid _ _ _ (by simp only [solid]; exact hsol)
      subst z
      simp only [Rp] at rw'
      obtain ⟨a, ys, rfl, h1, h2⟩ := rw'
      exact ⟨v, a, ys, rfl, rv, .inr h1.t, h2⟩
  have hst : L2.start ["source", "things", "rest", "lap"] [v, .ref p] = [some v, some (.ref p), none, none] := rfl
  rw [hst]
  refine ⟨.ref p, rfl, p, ys, rfl, hsq, fun l hl => ?_⟩
  have s1 : SrcAt ⟨K, S⟩ (upd H l (.lst ys)) := s.new hl
  have eln := s.fresh hl
  refine ⟨.ref l, rfl, .ref l, ys.length, rfl, .inl ⟨ys, .of upd_same, rfl⟩, _, rfl, by omega, by rw [hys.len]; omega, fun Dd hD => ?_⟩
  have hne : l ≠ Dd := fun z => by rw [← z, upd_same] at hD; cases hD
  have hDn := s1.fresh hD
  have w := walk_range (lo := 0) (n := (ys.length : Int).toNat)
  refine lc_it w (D := Dd) (fun i Hi => Ext ⟨K, S⟩ H Hi ∧ SrcAt ⟨K, S⟩ Hi ∧ ∃ lv acc : List V, Hi l = some (.lst lv) ∧ Hi Dd = some (.lst acc) ∧ (acc ++ lv).Perm ys ∧ acc.length = i) ?_ (fun _ _ _ _ => trivial) (fun i x Hi Hi' hlt P Y => ?_) fun Hn P => ?_
  · exact ⟨(Ext.new hl).trans (Ext.new hD), s1.new hD, ys, [], by rw [upd_ne hne]; exact upd_same, upd_same, List.Perm.refl _, rfl⟩
  · obtain ⟨ex, sx, lv, acc, hlv, hacc, perm, hi⟩ := P
    obtain ⟨rfl, rfl⟩ := Y
    have ltot : acc.length + lv.length = ys.length := by rw [← List.length_append]; exact perm.length_eq
    have hpos : 0 < lv.length := by
      have : i < ys.length := by simpa using hlt
      omega
    have yl := hys.len
    refine ⟨rfl, ?_⟩
    unfold tYes
    simp only [if_true]
    refine ⟨.ref l, rfl, .inl ⟨rfl, lv, .of hlv⟩, v, rfl, .ref l, rfl, .ref l, lv.length, rfl, .inl ⟨lv, .of hlv, rfl⟩, ?_⟩
    refine ⟨S, [srcD, .int lv.length], [], fun d => ∃ k : Int, d = .int k ∧ 0 ≤ k ∧ k < lv.length, (Rps.cons (fp := []) (gp := []) (hp.ext .nil ex s) (.one (int_rp _))), .nil, sx, ⟨lv.length, rfl, by omega, fun k h1 h2 => ⟨k, rfl, h1, by omega⟩⟩, ?_⟩
    rintro d u H4 gp ⟨k, rfl, k0, k1⟩ e4 s4 r4 _ _ _
    have eu := rp_int r4
    subst eu
    have hlv4 := e4 _ _ hlv eln
    have hacc4 := e4 _ _ hacc hDn
    obtain ⟨j, rfl⟩ := Int.eq_ofNat_of_zero_le k0
    have hj : j < lv.length := by omega
    refine ⟨l, lv, _, j, lv[j], rfl, rfl, hlv4, by omega, by omega, seqIx_nat hj, List.getElem?_eq_getElem hj, acc, by rw [upd_ne (Ne.symm hne)]; exact hacc4, Nat.lt_of_lt_of_le (by omega : acc.length < 10000000) (lim_ok (Nat.le_refl _)), ?_⟩
    refine ⟨fun b o hb hn => ?_, (s4.own eln).own hDn, lv.eraseIdx j, acc ++ [lv[j]], by rw [upd_ne hne]; exact upd_same, upd_same, (perm_erase (List.getElem?_eq_getElem hj)).trans perm, by simp [hi]⟩
    have b1 : b ≠ l := fun z => by rw [z, hl] at hb; cases hb
    have b2 : b ≠ Dd := fun z => by
      have := (Ext.new (c := ⟨K, S⟩) (o := .lst ys) hl) b o hb hn
      rw [z, hD] at this
      cases this
    rw [upd_ne b2, upd_ne b1]
    exact (ex.trans e4) b o hb hn
  · obtain ⟨ex, sx, lv, acc, hlv, hacc, perm, hi⟩ := P
    have ltot : acc.length + lv.length = ys.length := by rw [← List.length_append]; exact perm.length_eq
    have hnil : lv = [] := List.eq_nil_of_length_eq_zero (by
      have : acc.length = ys.length := by simpa using hi
      omega)
    subst hnil
    rw [List.append_nil] at perm
    obtain ⟨es, pe, re⟩ := rps_perm perm (hys.ext .nil ex s)
    have hDH : H Dd = none := by
      rw [← upd_ne (H := H) (o := .lst ys) (Ne.symm hne)]
      exact hD
    refine q (.list es) (.ref Dd) Hn [Dd] (hR es pe) ex sx ?_ (fun b hb => by rw [List.mem_singleton.mp hb]; exact hDn) (List.pairwise_singleton _ _) fun b hb => by rw [List.mem_singleton.mp hb]; exact hDH
    simp only [Rp]
    exact ⟨Dd, acc, [], rfl, rfl, hacc, re⟩
/-! ### zip of two lists, of two tuples -/
section
variable {K : PySem.W.Frag} {S : Option (Addr × Addr)}
def zipD (ds es : List D) : List D := List.zipWith (fun a b => .tuple [a, b]) ds es
def dZip (ms : DMs) : DMs := fun ρ R => ms ρ fun ds => match ds with
  | [.list xs, .list ys] => R (zipD xs ys)
  | [.tuple xs, .tuple ys] => R (zipD xs ys)
  | _ => False
theorem iter_zip {c : Zc} {H1 : Hp} {J : It} {ds es : List D} {xs ys : List V} {g1 g2 FP : List Addr} {G : Hp → Prop} (w : Walk J (min xs.length ys.length) G (YPair (fun i => xs[i]?) fun i => ys[i]?)) (r1 : Rps c H1 ds xs g1) (r2 : Rps c H1 es ys g2) (s1 : ∀ b ∈ g1, b ∈ FP) (s2 : ∀ b ∈ g2, b ∈ FP)
    (hG : ∀ H', Tk H1 H' → (∀ b ∈ FP, H' b = H1 b) → G H') (nF : NoS c FP) : IterOk true c J H1 (zipD ds es) FP := by
  have el : (zipD ds es).length = min xs.length ys.length := by rw [r1.len, r2.len]; simp [zipD]
  unfold IterOk
  rw [el]
  refine w.mono (fun H' g => hG H' g.1 g.2.1) fun i H' x H'' hi g y => ?_
  obtain ⟨T, a, b, rfl, hT, rfl, ha, hb⟩ := y
  have e := Ext.new (c := c) (o := .tup [a, b]) hT
  obtain ⟨d1, f1, e1, q1, k1⟩ := (r1.mono g.1 _ _ _ fun b hb => g.2.1 b (s1 b hb)).atV ha
  obtain ⟨d2, f2, e2, q2, k2⟩ := (r2.mono g.1 _ _ _ fun b hb => g.2.1 b (s2 b hb)).atV hb
  have n1 : NoS c f1 := fun z hz => nF z (s1 z (k1 z hz))
  have n2 : NoS c f2 := fun z hz => nF z (s2 z (k2 z hz))
  exact ⟨e, g.2.2.new hT, .tuple [d1, d2], f1 ++ f2, by simp [zipD, List.getElem?_zipWith, e1, e2], .inr ⟨rfl, _, T, _, rfl, rfl, .of upd_same, Rps.cons (q1.ext n1 e g.2.2) (.one (q2.ext n2 e g.2.2))⟩,
    fun z hz => (List.mem_append.mp hz).elim (fun h => s1 z (k1 z h)) fun h => s2 z (k2 z h)⟩
theorem walk_zipT {a b : Addr} {xs ys : List V} : Walk (RZ.ItzT K a b) (min xs.length ys.length) (fun H => SqT K H a xs ∧ SqT K H b ys) (YPair (fun i => xs[i]?) (fun i => ys[i]?)) where
  goes := fun i H hi h => ⟨xs, ys, xs[i]'(by omega), ys[i]'(by omega), h.1, h.2, List.getElem?_eq_getElem _, List.getElem?_eq_getElem _⟩
  stops := fun H h => ⟨xs, ys, h.1, h.2, by omega⟩
  yields := fun i H v H' _ h y => by
    obtain ⟨T, x, y, e1, e2, e3, e4, e5⟩ := y
    exact ⟨T, x, y, e1, e2, e3, e4 xs h.1, e5 ys h.2⟩
theorem di_zip {t : TA} {ms : DMs} {U : List Nat} (h : DA K S t ms U) : DI true K S (RZ.iZipA K t) (dZip ms) U := fun G H ρ σ fps E R hm Q q =>
  h G H ρ σ fps E _ hm _ fun ds vs H1 fp hR e1 s1 r1 n1 f1 => by
    have th : ∀ a ∈ fp, ∃ o, H1 a = some o := fun a ha => let ⟨o, ho, _⟩ := r1.there _ _ _ a ha; ⟨o, ho⟩
    split at hR
    · obtain ⟨x, y, f2, f3, rfl, rfl, rx, ry⟩ := rps_two r1
      simp only [Rp] at rx ry
      obtain ⟨a, xs, g1, rfl, rfl, h1, h2⟩ := rx
      obtain ⟨b, ys, g2, rfl, rfl, h3, h4⟩ := ry
      exact ⟨a, b, xs, ys, rfl, .inl ⟨.of h1, .of h3, q _ _ H1 _ hR e1 s1 (iter_zip (walk_zip rfl) h2 h4 (fun z hz => List.mem_append_left _ (List.mem_cons_of_mem _ hz)) (fun z hz => List.mem_append_right _ (List.mem_cons_of_mem _ hz))
        (fun H' _ k => ⟨.of (by rw [k a (by simp)]; exact h1), .of (by rw [k b (by simp)]; exact h3)⟩) n1) n1 th f1⟩⟩
    · obtain ⟨x, y, f2, f3, rfl, rfl, rx, ry⟩ := rps_two r1
      simp only [Rp] at rx ry
      obtain ⟨a, xs, rfl, h1, h2⟩ := rx
      obtain ⟨b, ys, rfl, h3, h4⟩ := ry
      exact ⟨a, b, xs, ys, rfl, .inr ⟨h1.t, h3.t, q _ _ H1 _ hR e1 s1 (iter_zip walk_zipT h2 h4 (fun z hz => List.mem_append_left _ hz) (fun z hz => List.mem_append_right _ hz)
        (fun H' tk _ => ⟨tk.sq h1.t, tk.sq h3.t⟩) n1) n1 th f1⟩⟩
    · exact False.elim hR
end
end Z
set_option Elab.async false
set_option linter.all false
set_option maxRecDepth 100000
set_option maxHeartbeats 4000000
/-! Z15: the truth of a value; xs[i] = e. -/
namespace Z
open PySem PySem.Spec PyProof.Rows L2
section
variable {K : PySem.W.Frag} {S : Option (Addr × Addr)}
def tru (d : D) (R : Bool → Prop) : Prop := match d with
  | .none => R false
  | .bool b => R b
  | .int i => R (i != 0)
  | .list xs => R (!xs.isEmpty)
  | .tuple xs => R (!xs.isEmpty)
  | .str z => z.length ≤ 10000000 ∧ R ((z.length : Int) != 0)
  | _ => False
def dTru (m : DM) : DMt := fun ρ R => m ρ fun d => tru d R
theorem empty_eq {c : Zc} {H : Hp} {ds : List D} {xs : List V} {fp : List Addr} (h : Rps c H ds xs fp) : (!ds.isEmpty) = !xs.isEmpty := by
  have := h.len
  cases ds <;> cases xs <;> simp_all
theorem dt_tru {te : TE} {m : DM} {U : List Nat} (h : DE K S te m U) : DT K S (fun σ H Q => te σ H fun x H' => ∃ k, TruV K x H' k ∧ Q k H') (dTru m) := fun G H ρ σ fps E R hm Q q =>
  h G H ρ σ fps E _ hm _ fun d v H' fp hR e s r ns f => by
    cases d with
    | none => rw [show v = .non by simpa [Rp] using r.1]; exact ⟨false, rfl, q _ H' hR e s⟩
    | bool b => rw [rp_bl r]; exact ⟨b, rfl, q _ H' hR e s⟩
    | int i => rw [rp_int r]; exact ⟨_, rfl, q _ H' hR e s⟩
    | str z =>
      simp only [Rp] at r
      rw [r.1]
      exact ⟨_, ⟨lim_ok hR.1, rfl⟩, q _ H' hR.2 e s⟩
    | list ds =>
      simp only [Rp] at r
      obtain ⟨a, xs, gp, rfl, rfl, h1, h2⟩ := r
      exact ⟨_, .inl ⟨xs, .of h1, empty_eq h2⟩, q _ H' hR e s⟩
    | tuple ds =>
      simp only [Rp] at r
      obtain ⟨a, xs, rfl, h1, h2⟩ := r
      exact ⟨_, .inr (.inl ⟨xs, h1.t, empty_eq h2⟩), q _ H' hR e s⟩
    | dict kvs => exact False.elim hR
end
/-- a loop that folds: I, what holds at each state -/
theorem forD_fold {α τ : Type} {mg : DMg} {mb : DMS} {F : List Nat} {R : DEnds} (enc : α → D) (step : τ → α → τ) (I : τ → En → Prop) : ∀ (ys : List α) (t : τ) (ρ : En), I t ρ →
    (∀ y ∈ ys, ∀ t ρ (Nx Bk : En → Prop), I t ρ → (∀ ρ', I (step t y) (hide F ρ') → Nx ρ') → mg (enc y) ρ fun ρ1 => mb ρ1 ⟨Nx, R.rt, Bk, Nx⟩) → (∀ ρ, I (ys.foldl step t) ρ → R.nx ρ) → forD mg mb F R (ys.map enc) ρ
  | [], t, ρ, h0, _, hd => hd ρ h0
  | y :: ys, t, ρ, h0, hs, hd => hs y (List.mem_cons_self ..) t ρ _ _ h0 fun ρ' h' => forD_fold enc step I ys (step t y) (hide F ρ') h' (fun z hz => hs z (List.mem_cons_of_mem _ hz)) hd
/-- .. whose turns all go on to the next one -/
theorem forD_nx {mg : DMg} {mb : DMS} {F : List Nat} {R : DEnds} (I : Nat → En → Prop) (xs : List D) (n : Nat) (ρ : En) (h0 : I n ρ)
    (hs : ∀ i x ρ (E : DEnds), xs[i]? = some x → I (n + i) ρ → (∀ ρ', I (n + i + 1) (hide F ρ') → E.nx ρ') → mg x ρ fun ρ1 => mb ρ1 E) (hd : ∀ ρ, I (n + xs.length) ρ → R.nx ρ) : forD mg mb F R xs ρ :=
  forD_inv I xs n ρ h0 (fun i x ρ Nx hx hI hN => hs i x ρ _ hx hI hN) hd
theorem range_at {n : Nat} {i : Nat} {x : D} (h : (rangeD 0 n 1)[i]? = some x) : i < n ∧ x = .int ((i : Nat) : Int) := by
  have hi : i < n := by
    have := (List.getElem?_eq_some_iff.mp h).1
    rwa [rangeD_len] at this
  refine ⟨hi, ?_⟩
  unfold rangeD at h
  rw [List.getElem?_map, List.getElem?_range hi] at h
  have := Option.some.inj h
  rw [← this]
  simp
end Z
set_option Elab.async false
set_option linter.all false
set_option maxRecDepth 100000
set_option maxHeartbeats 4000000
/-! Z16: max, min, abs, chains, is None. -/
namespace Z
open PySem PySem.Spec PyProof.Rows L2
section
variable {K : PySem.W.Frag} {S : Option (Addr × Addr)}
def f2L (f : Int → Int → Int) : List D → (D → Prop) → Prop := fun ds R => match ds with
  | [x, y] => asI x fun i => asI y fun j => R (.int (f i j))
  | _ => False
def fAbs : List D → (D → Prop) → Prop := fun ds R => match ds with
  | [.int i] => R (.int (if i < 0 then -i else i))
  | _ => False
/-- x is None -/
def isNone : D → Bool
  | .none => true
  | _ => false
def fIsN (neg : Bool) : D → D → (D → Prop) → Prop := fun x y R => match y with
  | .none => R (.bool (if neg then !isNone x else isNone x))
  | _ => False
/-- x op y op' z -/
def dChain (f f' : D → D → (D → Prop) → Prop) (ma mb mc : DM) : DM := fun ρ R => ma ρ fun x => mb ρ fun y => f x y fun z => asB z fun k => cond k (mc ρ fun w => f' y w R) (R (.bool false))
theorem de_chain {r r' : R2} {f f' : D → D → (D → Prop) → Prop} {ta tb tc : TE} {ma mb mc : DM} {U V W : List Nat} (h : OpD K S r f) (h' : OpD K S r' f') (ha : DE K S ta ma U) (hb : DE K S tb mb V) (hc : DE K S tc mc W) : DE K S (tChain r r' ta tb tc) (dChain f f' ma mb mc) [] := fun G H ρ σ fps E R hm Q q =>
  ha G H ρ σ fps E _ hm _ fun d v H1 fp hR e1 s1 r1 n1 f1 => hb G H1 ρ σ fps (E.step e1 s1) _ hR _ fun e w H2 gp hR2 e2 s2 r2 n2 f2 =>
    h H2 v w d e fp gp s2 (r1.ext n1 e2 s1) n1 r2 n2 _ hR2 _ fun z u H3 kp hz e3 s3 r3 n3 nd fr => by
      obtain ⟨k, rfl, hk⟩ := asB_ok hz
      have e13 := e1.trans (e2.trans e3)
      refine ⟨k, rp_bl r3, ?_⟩
      cases k with
      | true => exact iteT (hc G H3 ρ σ fps (E.step e13 s3) _ hk _ fun c x H4 hp hR4 e4 s4 r4 n4 f4 => h' H4 w x e c gp hp s4 ((r2.ext n2 e3 s2).ext n2 e4 s3) n2 r4 n4 _ hR4 _ fun z' u' H5 lp hz5 e5 s5 r5 n5 nd5 fr5 =>
          q z' u' H5 lp hz5 (e13.trans (e4.trans e5)) s5 r5 n5 (.fresh (fun a ha => (e13.trans e4).free (fr5 a ha) (n5 a ha)) nd5))
      | false => exact iteF (q (.bool false) (.bl false) H3 [] hk e13 s3 (bl_rp H3) .nil (.fresh (fun a ha => by cases ha) List.nodup_nil))
end
end Z
set_option Elab.async false
set_option linter.all false
set_option maxRecDepth 100000
set_option maxHeartbeats 4000000
/-! Z17: zip(a, b, strict=True) of sequences of one length. -/
set_option Elab.async false
set_option linter.all false
set_option maxRecDepth 100000
set_option maxHeartbeats 4000000
/-! Z18: zip(a, b, strict=True) over the layer: lists and tuples of one length. -/
namespace Z
open PySem PySem.Spec PyProof.Rows L2
def ItIs (k : Bool) (h : Heap) (it a : Addr) (i : Nat) : Prop := if k then h.IsTupleIter it a i else h.IsListIter it a i
section
variable {X : Cx} {pins : List (Addr × Obj)} {σ : L2.St} {H : Hp} {s : Shared}
theorem ItIs.at {k : Bool} {h h' : Heap} {it a : Addr} {i : Nat} (x : ItIs k h it a i) (e : ∀ o, h.get? it = some o → h'.get? it = some o) : ItIs k h' it a i := by
  cases k with
  | true => exact Heap.IsTupleIter.at x e
  | false => exact Heap.IsListIter.at x e
end
section
variable {K : PySem.W.Frag} {S : Option (Addr × Addr)}
def dZipS (ms : DMs) : DMs := fun ρ R => ms ρ fun ds => match ds with
  | [.list xs, .list ys] => xs.length = ys.length ∧ R (zipD xs ys)
  | [.tuple xs, .tuple ys] => xs.length = ys.length ∧ R (zipD xs ys)
  | [.list xs, .tuple ys] => xs.length = ys.length ∧ R (zipD xs ys)
  | [.tuple xs, .list ys] => xs.length = ys.length ∧ R (zipD xs ys)
  | _ => False
end
end Z
set_option Elab.async false
set_option linter.all false
set_option maxRecDepth 100000
set_option maxHeartbeats 4000000
/-! Z19: x[i] = e, x an own list. -/
namespace Z
open PySem PySem.Spec PyProof.Rows L2
section
variable {K : PySem.W.Frag} {S : Option (Addr × Addr)}
theorem Rps.set {c : Zc} {H : Hp} {y : D} {w : V} {fp : List Addr} (hw : Rp c H y w fp) : ∀ {ds : List D} {xs : List V} {gp : List Addr} {j : Nat}, Rps c H ds xs gp → j < ds.length →
    ∃ gp', Rps c H (ds.set j y) (xs.set j w) gp' ∧ (∀ b ∈ gp', b ∈ gp ∨ b ∈ fp) ∧ (gp.Nodup → fp.Nodup → (∀ b ∈ gp, b ∉ fp) → gp'.Nodup)
  | [], _, _, _, _, hj => absurd hj (Nat.not_lt_zero _)
  | d :: ds, xs, gp, 0, h, _ => by
    simp only [Rps] at h
    obtain ⟨x, ys, f1, f2, rfl, rfl, h1, h2⟩ := h
    refine ⟨fp ++ f2, .cons hw h2, fun b hb => ?_, fun n1 n2 n3 => ?_⟩
    · rcases List.mem_append.mp hb with z | z
      · exact .inr z
      · exact .inl (List.mem_append_right _ z)
    · exact List.nodup_append.mpr ⟨n2, (List.nodup_append.mp n1).2.1, fun a ha b hb e => n3 b (List.mem_append_right _ hb) (e ▸ ha)⟩
  | d :: ds, xs, gp, j + 1, h, hj => by
    simp only [Rps] at h
    obtain ⟨x, ys, f1, f2, rfl, rfl, h1, h2⟩ := h
    obtain ⟨g', k1, k2, k3⟩ := Rps.set hw (j := j) h2 (by simpa using hj)
    refine ⟨f1 ++ g', .cons h1 k1, fun b hb => ?_, fun n1 n2 n3 => ?_⟩
    · rcases List.mem_append.mp hb with z | z
      · exact .inl (List.mem_append_left _ z)
      · rcases k2 b z with z | z
        · exact .inl (List.mem_append_right _ z)
        · exact .inr z
    · obtain ⟨m1, m2, m3⟩ := List.nodup_append.mp n1
      refine List.nodup_append.mpr ⟨m1, k3 m2 n2 fun b hb => n3 b (List.mem_append_right _ hb), fun a ha b hb e => ?_⟩
      subst e
      rcases k2 a hb with z | z
      · exact m3 a ha a z rfl
      · exact n3 a (List.mem_append_left _ ha) z
/-- x[i] = e -/
def sSetI (i : Nat) (mi me : DM) : DMS := fun ρ R => me ρ fun y => ownL ρ[i]? fun ds => mi ρ fun d => asI d fun k => ∃ j, ixN ds.length k = some j ∧ j < ds.length ∧ R.nx (ρ.set i (.own (.list (ds.set j y))))
end
end Z
set_option Elab.async false
set_option linter.all false
set_option maxRecDepth 100000
set_option maxHeartbeats 4000000
/-! Z20: sum of a tuple, tuple(range), stars in displays, all, any. -/
namespace Z
open PySem PySem.Spec PyProof.Rows L2
/-! ### sum -/
def rSumA (K : PySem.W.Frag) : List V → Hp → VK → Prop := fun vs H Q => ∃ (a : Addr) (ns : List Int), vs = [V.ref a] ∧ (SqL K H a (ns.map V.int) ∨ SqT K H a (ns.map V.int)) ∧ Q (.int ns.sum) H
theorem cr_sumA {X : Cx} (hc : X.calm = true) : CallR X (.builtin "sum") (rSumA X.K) := fun pins s σ H vs us Q I r h => by
  obtain ⟨a, ns, rfl, hs, q⟩ := h
  rcases hs with hs | hs
  · exact cr_sum hc pins s σ H _ us Q I r ⟨a, ns, rfl, hs, q⟩
  · obtain ⟨its, rv, ht, _⟩ := I.tuple hs
    rw [Vals.ref1 r]
    have ht' : s.heap.IsTuple a its.toArray := ht
    obtain ⟨xs, e⟩ := rv.ints.allInts.items
    have hn : numsOf (intItems xs).toList = ns := by rw [← e]; exact rv.ints.numsOf
    rw [nums_intItems] at hn
    rw [e] at ht'
    refine PySem.W.ktm_sumG (I.ok.hd hc) ht' fun h' tk t' hk => ?_
    rw [preSum_eq, List.take_of_length_le (by simp), hn]
    exact ⟨.int _, H, I.kept hk, ⟨_, rfl⟩, q⟩
/-! ### tuple(range) -/
section
variable {K : PySem.W.Frag} {S : Option (Addr × Addr)}
/-- sum of a list, a tuple of ints -/
def fSumA : List D → (D → Prop) → Prop := fun ds R => match ds with
  | [.list xs] => ∃ ns : List Int, xs = ns.map .int ∧ R (.int ns.sum)
  | [.tuple xs] => ∃ ns : List Int, xs = ns.map .int ∧ R (.int ns.sum)
  | _ => False
theorem cd_sumA : CallD K S (rSumA K) fSumA := .pure fun H xs ds fp r R hf Q q => by
  unfold fSumA at hf
  split at hf
  · obtain ⟨ns, rfl, hR⟩ := hf
    obtain ⟨x, rfl, rx⟩ := rps_one r
    simp only [Rp] at rx
    obtain ⟨a, ys, gp, rfl, rfl, h1, h2⟩ := rx
    obtain ⟨rfl, rfl⟩ := rps_ints h2
    exact ⟨a, ns, rfl, .inl (.of h1), q _ _ hR int_rp⟩
  · obtain ⟨ns, rfl, hR⟩ := hf
    obtain ⟨x, rfl, rx⟩ := rps_one r
    simp only [Rp] at rx
    obtain ⟨a, ys, rfl, h1, h2⟩ := rx
    obtain ⟨rfl, rfl⟩ := rps_ints h2
    exact ⟨a, ns, rfl, .inr h1.t, q _ _ hR int_rp⟩
  · exact hf.elim
def dTupRg (m : DM) : DM := fun ρ R => m ρ fun d => asI d fun j => (-1000000000 ≤ j ∧ j ≤ 10000000) ∧ R (.tuple (rangeD 0 j.toNat 1))
/-! ### *e in a display -/
def asSeq (d : D) (k : List D → Prop) : Prop := match d with
  | .list xs => k xs
  | .tuple xs => k xs
  | _ => False
def dStar (m : DM) (ms : DMs) : DMs := fun ρ R => m ρ fun d => asSeq d fun xs => ms ρ fun ds => R (xs ++ ds)
/-! ### all, any -/
def fAll : List D → (D → Prop) → Prop := fun ds R => match ds with
  | [.list xs] => ∃ bs : List Bool, xs = bs.map .bool ∧ R (.bool (bs.all id))
  | _ => False
def fAny : List D → (D → Prop) → Prop := fun ds R => match ds with
  | [.list xs] => ∃ bs : List Bool, xs = bs.map .bool ∧ R (.bool (bs.any id))
  | _ => False
/-! ### three at once -/
def sPar3 (i j l : Nat) (ms : DMs) : DMS := fun ρ R => ms ρ fun ds => match ds with
  | [x, y, z] => R.nx (((ρ.set i (.own x)).set j (.own y)).set l (.own z))
  | _ => False
end
end Z
set_option Elab.async false
set_option linter.all false
set_option maxRecDepth 100000
set_option maxHeartbeats 4000000
/-! Z21: isinstance, list + list of any data. -/
namespace Z
open PySem PySem.Spec PyProof.Rows L2
/-- the name of a datum's type -/
def tyN : D → String
  | .none => "NoneType"
  | .bool _ => "bool"
  | .int _ => "int"
  | .str _ => "str"
  | .list _ => "list"
  | .tuple _ => "tuple"
  | .dict kvs => if isFrz kvs = true then "list" else "dict"
def isInt : D → Bool
  | .int _ => true
  | .bool _ => true
  | _ => false
def isBool : D → Bool
  | .bool _ => true
  | _ => false
def isStr : D → Bool
  | .str _ => true
  | _ => false
def isTuple : D → Bool
  | .tuple _ => true
  | _ => false
def isList : D → Bool
  | .list _ => true
  | .dict kvs => isFrz kvs
  | _ => false
def isDict : D → Bool
  | .dict kvs => !isFrz kvs
  | _ => false
theorem kit_isInt (d : D) : kitB (tyN d) "int" = some (isInt d) := by
  cases d with
  | none => exact (by decide +kernel : kitB "NoneType" "int" = some false)
  | bool _ => exact (by decide +kernel : kitB "bool" "int" = some true)
  | int _ => exact (by decide +kernel : kitB "int" "int" = some true)
  | str _ => exact (by decide +kernel : kitB "str" "int" = some false)
  | list _ => exact (by decide +kernel : kitB "list" "int" = some false)
  | tuple _ => exact (by decide +kernel : kitB "tuple" "int" = some false)
  | dict kvs =>
    by_cases h : isFrz kvs = true
    · simp only [tyN, h, if_true]
      exact (by decide +kernel : kitB "list" "int" = some false)
    · simp only [tyN, if_neg h]
      exact (by decide +kernel : kitB "dict" "int" = some false)
theorem kit_isBool (d : D) : kitB (tyN d) "bool" = some (isBool d) := by
  cases d with
  | none => exact (by decide +kernel : kitB "NoneType" "bool" = some false)
  | bool _ => exact (by decide +kernel : kitB "bool" "bool" = some true)
  | int _ => exact (by decide +kernel : kitB "int" "bool" = some false)
  | str _ => exact (by decide +kernel : kitB "str" "bool" = some false)
  | list _ => exact (by decide +kernel : kitB "list" "bool" = some false)
  | tuple _ => exact (by decide +kernel : kitB "tuple" "bool" = some false)
  | dict kvs =>
    by_cases h : isFrz kvs = true
    · simp only [tyN, h, if_true]
      exact (by decide +kernel : kitB "list" "bool" = some false)
    · simp only [tyN, if_neg h]
      exact (by decide +kernel : kitB "dict" "bool" = some false)
theorem kit_isTuple (d : D) : kitB (tyN d) "tuple" = some (isTuple d) := by
  cases d with
  | none => exact (by decide +kernel : kitB "NoneType" "tuple" = some false)
  | bool _ => exact (by decide +kernel : kitB "bool" "tuple" = some false)
  | int _ => exact (by decide +kernel : kitB "int" "tuple" = some false)
  | str _ => exact (by decide +kernel : kitB "str" "tuple" = some false)
  | list _ => exact (by decide +kernel : kitB "list" "tuple" = some false)
  | tuple _ => exact (by decide +kernel : kitB "tuple" "tuple" = some true)
  | dict kvs =>
    by_cases h : isFrz kvs = true
    · simp only [tyN, h, if_true]
      exact (by decide +kernel : kitB "list" "tuple" = some false)
    · simp only [tyN, if_neg h]
      exact (by decide +kernel : kitB "dict" "tuple" = some false)
section
variable {K : PySem.W.Frag} {S : Option (Addr × Addr)}
/-- no dict whose keys are tuples -/
def noFrz : D → Prop
  | .dict kvs => isFrz kvs = true ∨ (kvs.all fun p => !isTuple p.1) = true
  | _ => True
theorem dictU_dK {a : Addr} {ks : List D} {ys xs : List V} {u : HO} (h : DictU a ks ys xs u) (nt : ∀ k ∈ ks, isTuple k = false) : ∃ kvs, u = .dK kvs := by
  rcases h with ⟨kk, _, _, _, rfl⟩ | ⟨rows, hne, e, hr, _⟩
  · exact ⟨_, rfl⟩
  · exfalso
    cases rows with
    | nil => exact hne rfl
    | cons r rows =>
      cases ks with
      | nil => cases e
      | cons k ks =>
        rw [List.map_cons, List.map_cons] at e
        obtain ⟨e1, _⟩ := List.cons.inj e
        obtain ⟨_, l, hl⟩ := hr r (List.mem_cons_self ..)
        have := nt k (List.mem_cons_self ..)
        rw [hl] at e1
        cases k with
        | tuple xs => cases this
        | _ => simp [nkey] at e1
theorem rp_ty {H : Hp} {d : D} {v : V} {fp : List Addr} (s : SrcAt ⟨K, S⟩ H) (nf : noFrz d) (r : Rp ⟨K, S⟩ H d v fp) : TyX K H v (.type (tyN d)) := by
  cases d with
  | none => rw [show v = .non by simpa [Rp] using r.1]; exact .base .non
  | bool b => rw [rp_bl r]; exact .base (.bl b)
  | int i => rw [rp_int r]; exact .base (.int i)
  | str z =>
    simp only [Rp] at r
    rw [r.1]
    exact .base (.str z)
  | list ds =>
    simp only [Rp] at r
    obtain ⟨a, xs, gp, rfl, rfl, h1, h2⟩ := r
    exact .base (.lst h1)
  | tuple ds =>
    simp only [Rp] at r
    obtain ⟨a, xs, rfl, h1, h2⟩ := r
    rcases h1 with ⟨o, h, _⟩ | ⟨o, its, n, h1, h2, _⟩
    · exact .fTuple h
    · exact .kTuple h1 h2
  | dict kvs =>
    simp only [Rp] at r
    split at r
    · rename_i hsr
      obtain ⟨p, hp, rfl, _⟩ := r
      obtain ⟨_, ns, l, m, t, _, _, _, _, _, _, h1, _⟩ := s p hp
      have hf : isFrz kvs = false := by
        unfold isSrc at hsr
        split at hsr
        · rfl
        · cases hsr
      simp only [tyN, hf, Bool.false_eq_true, if_false]
      exact .base (.dK h1)
    · split at r
      · rename_i hf
        obtain ⟨a, y0, x0, ys, xs, rfl, _, ⟨o, ho⟩, _⟩ := r
        simp only [tyN, hf, if_true]
        exact .base (.frz ho)
      · rename_i hf
        simp only [tyN, if_neg hf]
        have nt : ∀ p ∈ kvs, isTuple p.1 = false := fun p hp => by
          have := List.all_eq_true.mp (Or.resolve_left nf hf) p hp
          simpa using this
        split at r
        · obtain ⟨a, y0, x0, ys, xs, rfl, _, ⟨o, u, ho, hu⟩, _⟩ := r
          obtain ⟨q, rfl⟩ := dictU_dK hu fun k hk => by
            obtain ⟨p, hp, rfl⟩ := List.mem_map.mp hk
            exact nt p (List.mem_of_mem_tail hp)
          exact .fDict ho
        · obtain ⟨a, ys, xs, gp, rfl, _, _, u, ho, hu⟩ := r
          obtain ⟨q, rfl⟩ := dictU_dK hu fun k hk => by
            obtain ⟨p, hp, rfl⟩ := List.mem_map.mp hk
            exact nt p hp
          exact .base (.dK ho)
def fIsi (f : D → Bool) (d : D) (R : D → Prop) : Prop := match d with
  | .dict kvs => (isFrz kvs = true ∨ (kvs.all fun p => !isTuple p.1) = true) ∧ R (.bool (f (.dict kvs)))
  | .none => R (.bool (f .none))
  | .bool b => R (.bool (f (.bool b)))
  | .int i => R (.bool (f (.int i)))
  | .str x => R (.bool (f (.str x)))
  | .list ds => R (.bool (f (.list ds)))
  | .tuple ds => R (.bool (f (.tuple ds)))
theorem fIsi_ok {f : D → Bool} {d : D} {R : D → Prop} (h : fIsi f d R) : noFrz d ∧ R (.bool (f d)) := by
  cases d with
  | dict kvs => exact h
  | _ => exact ⟨trivial, h⟩
def dIsi (f : D → Bool) (m : DM) : DM := fun ρ R => m ρ fun d => fIsi f d R
theorem de_isi {te : TE} {m : DM} {U : List Nat} {T : String} {f : D → Bool} (hT : ∀ d, kitB (tyN d) T = some (f d)) (h : DE K S te m U) : DE K S (tCB (rIsi K) (tCons te (tCons (tC (.ty T)) tNil))) (dIsi f m) [] := fun G H ρ σ fps E R hm Q q =>
  h G H ρ σ fps E _ hm _ fun d v H1 fp hR e1 s1 r1 n1 f1 => ⟨v, .ty T, _, _, _, rfl, .ty T, rp_ty s1 (fIsi_ok hR).1 r1, kit_ty (hT d), q _ _ H1 [] (fIsi_ok hR).2 e1 s1 (bl_rp H1) (fun b hb => by cases hb) .nil⟩
/-! ### list + list, whatever they hold -/
def dAddN (ma mb : DM) : DM := fun ρ R => ma ρ fun x => mb ρ fun y => match x with
  | .list a => match y with
    | .list b => a.length + b.length ≤ 10000000 ∧ R (.list (a ++ b))
    | _ => False
  | _ => False
end
end Z
set_option Elab.async false
set_option linter.all false
set_option maxRecDepth 100000
set_option maxHeartbeats 4000000
/-! Z22: dict(pairs) whose keys are tuples of ints: sorted of it, how many keys. -/
namespace Z
open PySem PySem.Spec PyProof.Rows L2
/-! ### the dict -/
/-- a dict with such keys, in this sequence -/
def KdO (a : Addr) (ks : List Value) : HO := .ext fun h => (a == sysModules) = false ∧ ks.length ≤ 10000000 ∧ ∃ es ep, h.DictRaw a es ep ∧ es.toList.map (·.key) = ks
/-! ### sorted of it, its length -/
theorem KdO.ok {X : Cx} {pins : List (Addr × Obj)} {s : Shared} {σ : L2.St} {H : Hp} (I : Inv X pins σ H s) {p : Addr} {ks : List Value} (h : H p = some (KdO p ks)) : (p == sysModules) = false ∧ ks.length ≤ 10000000 ∧ ∃ es ep, s.heap.DictRaw p es ep ∧ es.toList.map (·.key) = ks :=
  (show ObjOk X.prog X.w H s.heap p (KdO p ks) from I.hok p _ h).1
/-! ### over data -/
section
variable {K : PySem.W.Frag} {S : Option (Addr × Addr)}
/-- a list of pairs whose first ones are tuples of ints -/
def asPairs (d : D) (k : List (List Int) → Prop) : Prop := match d with
  | .list ps => ∃ qs : List (List Int × D), ps = qs.map (fun q => .tuple [tI q.1, q.2]) ∧ (∀ q ∈ qs, solid q.2 = true) ∧ qs.length ≤ 10000000 ∧ ∀ ks : List (List Int), ks.Nodup → (∀ n, n ∈ ks ↔ n ∈ qs.map (·.1)) → k ks
  | _ => False
def dSortDict (m : DM) : DM := fun ρ R => m ρ fun d => asPairs d fun ks => SortOk (ks.map tI) ∧ R (.list (sortD false (ks.map tI)))
def dLenDict (m : DM) : DM := fun ρ R => m ρ fun d => asPairs d fun ks => R (.int ((ks.length : Nat) : Int))
end
/-! ### max of a list, a tuple -/
section
variable {K : PySem.W.Frag} {S : Option (Addr × Addr)}
def fMaxA : List D → (D → Prop) → Prop := fun ds R => match ds with
  | [.list xs] => ∃ ns : List Int, xs = ns.map .int ∧ 0 < ns.length ∧ ∀ m, m ∈ ns → (∀ y, y ∈ ns → y ≤ m) → R (.int m)
  | [.tuple xs] => ∃ ns : List Int, xs = ns.map .int ∧ 0 < ns.length ∧ ∀ m, m ∈ ns → (∀ y, y ∈ ns → y ≤ m) → R (.int m)
  | _ => False
end
end Z
set_option Elab.async false
set_option linter.all false
set_option maxRecDepth 100000
set_option maxHeartbeats 4000000
/-! Z23: xs[::-1] of lists and tuples. -/
namespace HT
open PySem PySem.Spec PyProof.Rows
section
variable {prog : Program} {w : World} {A : Around} {E : Value → Shared → Prop} {s : Shared}
theorem sliceApplied_rev {sl : Addr} {vl vu vs : Value} {n : Nat} {Q : Int × Int × Nat → Shared → Prop} (hs : s.heap.IsSliceOf sl vl vu vs) (pl : IsPart vl none) (pu : IsPart vu none) (ps : IsPart vs (some (-1)))
    (h : Q ((n : Int) - 1, -1, n) s) : wpAny (model prog w) A (Builtin.Slice.sliceApplied (.ref sl) (pure (n : Int))) Q E s := by
  obtain ⟨os, hos, hcs, hds⟩ := id hs
  unfold Builtin.Slice.sliceApplied Builtin.Slice.sliceFields
  refine wpAny_bind (wpAny_bind (wpAny_field hos hds (x := vl) rfl (wpAny_bind (wpAny_field hos hds (x := vu) rfl (wpAny_bind (wpAny_field hos hds (x := vs) rfl (wpAny_pure ?_)))))))
  refine wpAny_bind (slicePart_ ps ?_)
  show wpAny _ _ (if ((-1 : Int) == 0) = true then _ else _) _ _ s
  rw [if_neg (by decide)]
  refine wpAny_bind (slicePart_ pl (wpAny_bind (slicePart_ pu (wpAny_bind (wpAny_pure ?_)))))
  show wpAny _ _ (match Builtin.Slice.sliceAdjust none none (-1) (n : Int) with | (lo, hi) => pure (lo, (-1 : Int), Builtin.Slice.slicePlaces lo hi (-1))) _ _ s
  have e : Builtin.Slice.sliceAdjust none none (-1) (n : Int) = ((n : Int) - 1, -1) := rfl
  rw [e]
  show wpAny _ _ (pure ((n : Int) - 1, (-1 : Int), Builtin.Slice.slicePlaces ((n : Int) - 1) (-1) (-1))) _ _ s
  have e2 : Builtin.Slice.slicePlaces ((n : Int) - 1) (-1) (-1) = n := by
    unfold Builtin.Slice.slicePlaces
    have h1 : ¬ ((-1 : Int) > 0) := by omega
    have h2 : (- (-1) : Int) = 1 := by omega
    simp only [h1, if_false, h2, Int.ediv_one]
    split <;> omega
  rw [e2]
  exact wpAny_pure h
theorem pick_rev (xs : Array Value) : ((List.range xs.size).filterMap fun (m : Nat) => xs[(((xs.size : Int) - 1) + (m : Int) * (-1)).toNat]?).toArray = xs.toList.reverse.toArray := by
  have e : ((List.range xs.size).filterMap fun (m : Nat) => xs[(((xs.size : Int) - 1) + (m : Int) * (-1)).toNat]?) = ((List.range xs.size).map fun k => xs.size - 1 - k).filterMap (xs[·]?) := by
    rw [List.filterMap_map]
    congr 1
    funext m
    have : (((xs.size : Int) - 1) + (m : Int) * (-1)).toNat = xs.size - 1 - m := by omega
    show xs[(((xs.size : Int) - 1) + (m : Int) * (-1)).toNat]? = xs[xs.size - 1 - m]?
    rw [this]
  rw [e, PySem.W.krv_range, List.filterMap_reverse, PySem.W.krv_all]
theorem getItem_tuple_rev {t sl : Addr} {items : Array Value} {vl vu vs : Value} {Q : Value → Shared → Prop} (ht : IsTup s.heap t items) (hs : s.heap.IsSliceOf sl vl vu vs) (pl : IsPart vl none) (pu : IsPart vu none) (ps : IsPart vs (some (-1)))
    (h : Q (.ref s.heap.objs.size) { s with heap := s.heap.push { cls := .type "tuple", data := .seq items.toList.reverse.toArray } })
    (hsz : items.size ≤ sizeLine) : wpAny (model prog w) A (getItem (.ref t) (.ref sl)) Q E s := by
  have htake : sizeOk (.seq items.toList.reverse.toArray) := by
    show items.toList.reverse.toArray.size ≤ sizeLine
    rw [List.size_toArray, List.length_reverse, Array.length_toList]
    exact hsz
  obtain ⟨os, hos, hcs, hds⟩ := id hs
  have hTs : s.TypeIs (.ref sl) "slice" := ⟨os, hos, hcs⟩
  unfold getItem
  try with_reducible refine wpAny_holding ?_
  first | refine wpAny_bind (wpAny_pure ?_) | skip
  refine wpAny_bind (wpAny_sequenceKey ht.typeIs (by decide) ?_)
  refine wpAny_bind (wpAny_callSpecial?_slot (name := Str.ofString "__getitem__") ht.typeIs PyProof.Rows.slot_tuple_getitem
    (wpAny_call_entry PyProof.Rows.slot_tuple_getitem ht.typeIs entry_tuple_getitem ?_ (args_tuple_getitem _ _)))
  show wpAny _ _ (Builtin.Tuple.tupleItemsOf (.ref t) >>= _) _ _ s
  refine wpAny_bind (tupleItemsOf_ ht ?_)
  refine wpAny_bind (wpAny_typeOf hTs ?_)
  rw [if_pos (by decide)]
  refine wpAny_bind (sliceApplied_rev hs pl pu ps ?_)
  have hno : ¬ ((((items.size : Int) - 1) == 0 && (-1 : Int) == 1 && items.size == items.size) = true) := by
    intro q
    rw [Bool.and_eq_true, Bool.and_eq_true] at q
    have q1 : (-1 : Int) = 1 := eq_of_beq q.1.2
    omega
  show wpAny _ _ (if (((items.size : Int) - 1) == 0 && (-1 : Int) == 1 && items.size == items.size) = true then _ else _) _ _ s
  rw [if_neg hno, pick_rev]
  first
    | exact wpAny_bind (m := Builtin.Tuple.tupleExact _) (wpAny_newObj_type (wpAny_pure ⟨_, rfl, wpAny_pure h⟩) htake)
    | exact wpAny_bind (m := Builtin.Tuple.tupleExact _) (wpAny_newObj_type (wpAny_bind (wpAny_pure (wpAny_pure ⟨_, rfl, wpAny_pure h⟩))) htake)
    | exact wpAny_bind (wpAny_bind (m := Builtin.Tuple.tupleExact _) (wpAny_newObj_type (wpAny_pure (wpAny_pure ⟨_, rfl, wpAny_pure h⟩)) htake))
    | exact wpAny_bind (wpAny_bind (m := Builtin.Tuple.tupleExact _) (wpAny_newObj_type (wpAny_pure ⟨_, rfl, wpAny_pure h⟩) htake))
end
end HT
namespace Z
open PySem PySem.Spec PyProof.Rows L2
def tRevZ (K : PySem.W.Frag) (te : TE) : TE := fun σ H Q => te σ H fun x H1 =>
  (∃ a xs, x = .ref a ∧ SqL K H1 a xs ∧ ∀ p, H1 p = none → Q (.ref p) (upd H1 p (.lst xs.reverse))) ∨
  (∃ a xs, x = .ref a ∧ SqT K H1 a xs ∧ ∀ p o, H1 p = none → o.dict = none → Q (.ref p) (upd H1 p (.frz o (.tup xs.reverse))))
section
variable {X : Cx}
theorem pe_revZ {e : Expr} {te : TE} {k : Nat} {p1 p2 p3 pos : Pos} (he : PE X e te) : PE X (.Subscript e (.Slice none none (some (.UnaryOp .USub (.Constant (.int 1) k p1) p2)) p3) pos) (tRevZ X.K te) := by
  refine ⟨fun pins s σ H Q I h => ?_⟩
  refine Subscript_ (thn (he.run pins s σ H _ I h) fun v s1 ⟨x, H1, I1, r1, q1⟩ => ?_)
  have hst : PO X (some (.UnaryOp .USub (.Constant (.int 1) k p1) p2)) (tPart (tUn (rU fun i => .int (-i)) (tC (.int 1)))) := po_some (pe_un un_neg pe_int)
  refine wpAny_Slice (thn (po_none.run pins s1 σ H1 (fun o H2 => o = none ∧ H2 = H1) I1 ⟨rfl, rfl⟩) fun vl s2 ⟨l, H2, I2, pl, el, e2⟩ => ?_)
  subst el e2
  refine thn (po_none.run pins s2 σ H2 (fun o H3 => o = none ∧ H3 = H2) I2 ⟨rfl, rfl⟩) fun vu s3 ⟨u, H3, I3, pu, eu, e3⟩ => ?_
  subst eu e3
  refine thn (hst.run pins s3 σ H3 (fun o H4 => o = some (-1) ∧ H4 = H3) I3 ⟨1, rfl, -1, rfl, rfl, rfl⟩) fun vs s4 ⟨o, H4, I4, ps, eo, e4⟩ => ?_
  subst eo e4
  have I5 : Inv X pins σ H4 { s4 with heap := s4.heap.push { cls := .type "slice", data := .fields #[vl, vu, vs] } } := I4.kept (t' := s4.toks) fun b ob q => Heap.get?_push_of_some _ q
  rcases q1 with ⟨a, xs, ex, hx, q⟩ | ⟨a, xs, ex, hx, q⟩
  · subst ex
    cases r1
    obtain ⟨its, r, ht, hz⟩ := I5.list hx
    have hlen := r.length
    show wpAny (model X.prog X.w) X.A (subscriptTail e (.Slice none none (some (.UnaryOp .USub (.Constant (.int 1) k p1) p2)) p3) (.ref a) (.ref s4.heap.objs.size)) (EP X pins σ Q) X.xe { s4 with heap := s4.heap.push { cls := .type "slice", data := .fields #[vl, vu, vs] } }
    refine tail_any (ops := [.ref a, .ref s4.heap.objs.size]) ht.isList.typeIs (PySem.slot_list_getitem.lookup) ?_ (by with_unfolding_all rfl)
    refine wpAny_getItem_list_slice ht.isList (Heap.IsSliceOf.new _ vl vu vs) pl pu ps (by decide) ?_ (by rw [List.size_toArray]; omega)
    rw [PySem.W.krv_pick]
    refine ⟨.ref _, _, I5.laid (t' := s4.toks) (o := .lst xs.reverse) (fun b ob q => Heap.get?_push_of_some _ q) (Nat.le_refl _) ?_, rfl, q _ (I5.hok.fresh (Nat.le_refl _))⟩
    exact ⟨by rw [List.length_reverse]; exact hz, _, 0, r.reverse, Heap.get?_push_size _ rfl⟩
  · subst ex
    cases r1
    obtain ⟨its, r, ht, hz⟩ := I5.tuple hx
    have hlen := r.length
    show wpAny (model X.prog X.w) X.A (subscriptTail e (.Slice none none (some (.UnaryOp .USub (.Constant (.int 1) k p1) p2)) p3) (.ref a) (.ref s4.heap.objs.size)) (EP X pins σ Q) X.xe { s4 with heap := s4.heap.push { cls := .type "slice", data := .fields #[vl, vu, vs] } }
    refine tail_any (ops := [.ref a, .ref s4.heap.objs.size]) ht.typeIs (PyProof.Rows.slot_tuple_getitem.lookup) ?_ (by with_unfolding_all rfl)
    refine HT.getItem_tuple_rev ht (Heap.IsSliceOf.new _ vl vu vs) pl pu ps ?_ (by rw [List.size_toArray]; omega)
    have e := Heap.get?_push_size (s4.heap.push { cls := .type "slice", data := .fields #[vl, vu, vs] }) (o := { cls := .type "tuple", data := .seq its.toArray.toList.reverse.toArray }) rfl
    exact ⟨.ref _, _, I5.laid (t' := s4.toks) (o := .frz { cls := .type "tuple", data := .seq its.toArray.toList.reverse.toArray } (.tup xs.reverse)) (fun b ob q => Heap.get?_push_of_some _ q) (Nat.le_refl _)
      ⟨e, by rw [List.length_reverse]; exact hz, _, r.reverse, ⟨_, e, rfl, _, rfl⟩⟩, rfl, q _ _ (I5.hok.fresh (Nat.le_refl _)) rfl⟩
end
section
variable {K : PySem.W.Frag} {S : Option (Addr × Addr)}
def fRev (d : D) (R : D → Prop) : Prop := match d with
  | .list ds => solids ds = true ∧ R (.list ds.reverse)
  | .tuple ds => solids ds = true ∧ R (.tuple ds.reverse)
  | _ => False
def dRev (m : DM) : DM := fun ρ R => m ρ fun d => fRev d R
theorem Rps.snoc {c : Zc} {H : Hp} {d : D} {x : V} (hx : Rp c H d x []) : ∀ {ds : List D} {xs : List V}, Rps c H ds xs [] → Rps c H (ds ++ [d]) (xs ++ [x]) []
  | [], xs, h => by
    simp only [Rps] at h
    rw [h.1]
    exact Rps.cons hx (by simp [Rps])
  | d :: ds, xs, h => by
    simp only [Rps] at h
    obtain ⟨x', ys, f1, f2, rfl, e, h1, h2⟩ := h
    obtain ⟨rfl, rfl⟩ := List.append_eq_nil_iff.mp e.symm
    exact Rps.cons h1 (Rps.snoc hx h2)
theorem Rps.rev {c : Zc} {H : Hp} : ∀ {ds : List D} {xs : List V}, Rps c H ds xs [] → Rps c H ds.reverse xs.reverse []
  | [], xs, h => by
    simp only [Rps] at h
    rw [h.1]
    simp [Rps]
  | d :: ds, xs, h => by
    simp only [Rps] at h
    obtain ⟨x, ys, f1, f2, rfl, e, h1, h2⟩ := h
    obtain ⟨rfl, rfl⟩ := List.append_eq_nil_iff.mp e.symm
    rw [List.reverse_cons, List.reverse_cons]
    exact Rps.snoc h1 (Rps.rev h2)
theorem de_rev {te : TE} {m : DM} {U : List Nat} (h : DE K S te m U) : DE K S (tRevZ K te) (dRev m) [] := fun G H ρ σ fps E R hm Q q =>
  h G H ρ σ fps E _ hm _ fun d v H3 fp hR ee s3 r3 n1 f1 => by
    cases d with
    | list ds =>
      simp only [Rp] at r3
      obtain ⟨a, xs, gp, rfl, rfl, ha, hv⟩ := r3
      have z := hv.solid _ _ _ hR.1
      subst z
      refine .inl ⟨a, xs, rfl, .of ha, fun p hp => ?_⟩
      have e := Ext.new (c := ⟨K, S⟩) (o := .lst xs.reverse) hp
      have hpn := s3.fresh hp
      refine q _ (.ref p) _ [p] hR.2 (ee.trans e) (s3.new hp) ?_ (fun b hb => by rw [List.mem_singleton.mp hb]; exact hpn) (.new (ee.free hp hpn))
      simp only [Rp]
      exact ⟨p, _, [], rfl, rfl, upd_same, hv.rev.ext .nil e s3⟩
    | tuple ds =>
      have z := r3.solid _ _ _ (by simp only [solid]; exact hR.1)
      subst z
      simp only [Rp] at r3
      obtain ⟨a, xs, rfl, ha, hv⟩ := r3
      refine .inr ⟨a, xs, rfl, ha.t, fun p o hp ho => ?_⟩
      have e := Ext.new (c := ⟨K, S⟩) (o := .frz o (.tup xs.reverse)) hp
      refine q _ (.ref p) _ [] hR.2 (ee.trans e) (s3.new hp) ?_ .nil (.fresh (fun b hb => by cases hb) List.nodup_nil)
      simp only [Rp]
      exact ⟨p, _, rfl, .new ho, hv.rev.ext .nil e s3⟩
    | _ => exact False.elim hR
end
end Z
set_option Elab.async false
set_option linter.all false
set_option maxRecDepth 100000
set_option maxHeartbeats 4000000
/-! Z24: dicts whose keys are ints and whose values are noughts: {}, d.update(dict(pairs)), len(d). -/
namespace Z
open PySem PySem.Spec PyProof.Rows L2
def d0D (ks : List Int) : D := .dict (ks.map fun k => (.int k, .int 0))
/-! ### d.update(e) -/
/-! ### len(d) -/
def rLenK (K : PySem.W.Frag) : List V → Hp → VK → Prop := fun vs H Q => ∃ (a : Addr) (kvs : List (Key × V)), vs = [.ref a] ∧ H a = some (.dK kvs) ∧ Q (.int (kvs.length : Nat)) H
theorem call_lenK {X : Cx} : CallR X (.builtin "len") (rLenK X.K) := fun pins s σ H vs us Q I r h => by
  obtain ⟨a, kvs, rfl, e, q⟩ := h
  obtain ⟨u, rfl, ru⟩ := vals1 r
  cases ru
  exact d_len I (.inl e) fun t s' I' => ⟨.int _, H, I', ⟨_, rfl⟩, q⟩
section
variable {K : PySem.W.Frag} {S : Option (Addr × Addr)}
def d0New : DM := fun _ R => R (d0D [])
/-- a list of pairs (int, nought) -/
def pairs0 (ns : List Int) : D := .list (ns.map fun k => .tuple [.int k, .int 0])
def rDictP (K : PySem.W.Frag) : List V → Hp → VK → Prop := fun xs H Q => ∃ (a : Addr) (ps : List Addr) (kvs : List (Key × V)), xs = [.ref a] ∧ SqL K H a (ps.map V.ref) ∧ Paired (fun p kv => SqT K H p [kV kv.1, kv.2]) ps kvs ∧
    ∀ p, H p = none → Q (.ref p) (upd H p (.dK (mergeK [] kvs)))
/-- the slot holds a dict of noughts -/
def own0 (s : Option Sl) (k : List Int → Prop) : Prop := ∃ ks, s = some (.own (d0D ks)) ∧ k ks
def sUpd0 (i : Nat) (m : DM) : DMS := fun ρ R => own0 ρ[i]? fun ks => m ρ fun d => ∃ ns : List Int, d = pairs0 ns ∧ ks.length + ns.length ≤ 10000000 ∧ ∀ us : List Int, us.Nodup → (∀ x, x ∈ us ↔ x ∈ ks ∨ x ∈ ns) → us.length ≤ ks.length + ns.length → R.nx (ρ.set i (.own (d0D us)))
/-- len(d), d of noughts -/
def dLen0 (m : DM) : DM := fun ρ R => m ρ fun d => ∃ ks : List Int, d = d0D ks ∧ R (.int ((ks.length : Nat) : Int))
end
end Z
set_option Elab.async false
set_option linter.all false
set_option maxRecDepth 100000
set_option maxHeartbeats 4000000
/-! Z25: lists that never change any more. -/
namespace Z
open PySem PySem.Spec PyProof.Rows L2
def tFrz (te : TE) : TE := fun σ H Q => te σ H fun v H1 => ∃ a xs, v = .ref a ∧ H1 a = some (.lst xs) ∧ ∀ o, Q v (upd H1 a (.frz o (.lst xs)))
theorem pe_frz {X : Cx} {e : Expr} {te : TE} (h : PE X e te) : PE X e (tFrz te) := ⟨fun pins s σ H Q I w => by
  refine thn (h.run pins s σ H _ I w) fun u s1 ⟨x, H1, I1, r1, a, xs, ex, ha, q⟩ => ?_
  subst ex
  obtain ⟨z, its, n, r, hl, e⟩ := I1.lstM ha
  refine ⟨.ref a, _, Inv.write (x := a) (e := a) (o := .frz { cls := .type "list", data := .seq its.toArray n } (.lst xs)) (h' := s1.heap) (t' := s1.toks) I1 (by rw [ha]; exact True.intro) (.inl rfl) (fun b u _ k => k) ⟨_, e⟩ ⟨e, z, its, n, r, e⟩, r1, q _⟩⟩
section
variable {K : PySem.W.Frag} {S : Option (Addr × Addr)}
def fFrz (d : D) (R : D → Prop) : Prop := match d with
  | .list ds => solids ds = true ∧ R (frzD ds)
  | _ => False
def dFrz (m : DM) : DM := fun ρ R => m ρ fun d => fFrz d R
theorem frz_tk {H : Hp} {a : Addr} {xs : List V} {o : HO} (h : H a = some (.lst xs)) : Tk H (upd H a o) := fun b u hu hf => by
  rw [upd_ne fun z => by rw [z, h] at hu; cases hu; exact hf]
  exact hu
theorem de_frz {te : TE} {m : DM} (h : DE K S te m []) : DE K S (tFrz te) (dFrz m) [] := fun G H ρ σ fps E R hm Q q =>
  h G H ρ σ fps E _ hm _ fun d v H1 fp hR e1 s1 r1 n1 f1 => by
    cases d with
    | list ds =>
      simp only [Rp] at r1
      obtain ⟨a, xs, gp, rfl, rfl, ha, hv⟩ := r1
      have z := hv.solid _ _ _ hR.1
      subst z
      have hn : H a = none := f1.off a (List.mem_cons_self ..)
      refine ⟨a, xs, rfl, ha, fun o => q _ _ _ [] hR.2 (fun b u hb nb => ?_) (s1.own (n1 a (List.mem_cons_self ..))) (rp_frz.mpr ⟨a, xs, rfl, rfl, ⟨o, upd_same⟩, hv.mono (frz_tk ha) _ _ _ fun b hb => by cases hb⟩) (fun b hb => by cases hb) (.fresh (fun b hb => by cases hb) List.nodup_nil)⟩
      rw [upd_ne fun z => by rw [z, hn] at hb; cases hb]
      exact e1 b u hb nb
    | _ => exact False.elim hR
/-! ### reads -/
theorem sql_frz {K : PySem.W.Frag} {H : Hp} {a : Addr} {xs : List V} (h : ∃ o, H a = some (.frz o (.lst xs))) : SqL K H a xs := .inl (.inr h)
/-- x[i] -/
def fIxF (x y : D) (R : D → Prop) : Prop := match x with
  | .dict kvs => asI y fun i => ∃ ds d, .dict kvs = frzD ds ∧ atI ds i = some d ∧ R d
  | .none => fIx .none y R
  | .bool b => fIx (.bool b) y R
  | .int i => fIx (.int i) y R
  | .str s => fIx (.str s) y R
  | .list ds => fIx (.list ds) y R
  | .tuple ds => fIx (.tuple ds) y R
theorem fIxF_tup {ds : List D} {y : D} {R : D → Prop} : fIxF (.tuple ds) y R = fIx (.tuple ds) y R := rfl
theorem fIxF_list {ds : List D} {y : D} {R : D → Prop} : fIxF (.list ds) y R = fIx (.list ds) y R := rfl
/-- a list, of either kind -/
def IsL (d : D) (ds : List D) : Prop := d = .list ds ∨ d = frzD ds
theorem IsL.rp {c : Zc} {H : Hp} {d : D} {ds : List D} {v : V} {fp : List Addr} (l : IsL d ds) (r : Rp c H d v fp) :
    ∃ a xs gp, v = .ref a ∧ SqL c.K H a xs ∧ Rps c H ds xs gp ∧ (∀ b ∈ gp, b ∈ fp) ∧ ∀ H', Tk H H' → (∀ b ∈ fp, H' b = H b) → SqL c.K H' a xs := by
  rcases l with rfl | rfl
  · simp only [Rp] at r
    obtain ⟨a, xs, gp, rfl, rfl, ha, hv⟩ := r
    exact ⟨a, xs, gp, rfl, .of ha, hv, fun b hb => List.mem_cons_of_mem _ hb, fun H' _ k => .of (by rw [k a (List.mem_cons_self ..)]; exact ha)⟩
  · obtain ⟨a, xs, rfl, rfl, ⟨o, ho⟩, h2⟩ := rp_frz.mp r
    exact ⟨a, xs, [], rfl, sql_frz ⟨o, ho⟩, h2, fun b hb => hb, fun H' t _ => sql_frz ⟨o, t a _ ho trivial⟩⟩
/-- zip of two lists, of either kind -/
def dZipF (ms : DMs) : DMs := fun ρ R => ms ρ fun ds => ∃ x y xs ys, ds = [x, y] ∧ IsL x xs ∧ IsL y ys ∧ R (zipD xs ys)
/-- x.index(k) of a list of either kind -/
def dIndexF (m : DM) (ms : DMs) : DM := fun ρ R => m ρ fun d => ∃ xs, IsL d xs ∧ ms ρ fun ys => ∃ (k : Int) (ns : List Int), ys = [.int k] ∧ xs = ns.map .int ∧ k ∈ ns ∧ R (.int (ns.idxOf k : Nat))
end
end Z
set_option Elab.async false
set_option linter.all false
set_option maxRecDepth 100000
set_option maxHeartbeats 4000000
/-! Z26: sorted(dict(pairs)), the keys ints. -/
namespace Z
open PySem PySem.Spec PyProof.Rows L2
section
variable {K : PySem.W.Frag} {S : Option (Addr × Addr)}
/-- sorted(dict(pairs)), the keys ints -/
def dSortDict0 (m : DM) : DM := fun ρ R => m ρ fun d => ∃ ns : List Int, d = pairs0 ns ∧ ∀ ks : List Int, ks.Nodup → (∀ x, x ∈ ks ↔ x ∈ ns) → ks.length ≤ ns.length → SortOk (ks.map fun k => (.int k : D)) ∧ R (.list (sortD false (ks.map fun k => (.int k : D))))
end
end Z
set_option Elab.async false
set_option linter.all false
set_option maxRecDepth 100000
set_option maxHeartbeats 4000000
/-! Z27: x = xs.pop(k), xs an own list of what never changes. -/
namespace Z
open PySem PySem.Spec PyProof.Rows L2
section
variable {K : PySem.W.Frag} {S : Option (Addr × Addr)}
theorem Rps.erase {c : Zc} {H : Hp} : ∀ {ds : List D} {xs : List V} (j : Nat), Rps c H ds xs [] → Rps c H (ds.eraseIdx j) (xs.eraseIdx j) []
  | [], xs, j, h => by
    simp only [Rps] at h
    rw [h.1]
    simp [Rps]
  | d :: ds, xs, 0, h => by
    simp only [Rps] at h
    obtain ⟨x, ys, f1, f2, rfl, e, h1, h2⟩ := h
    obtain ⟨rfl, rfl⟩ := List.append_eq_nil_iff.mp e.symm
    exact h2
  | d :: ds, xs, j + 1, h => by
    simp only [Rps] at h
    obtain ⟨x, ys, f1, f2, rfl, e, h1, h2⟩ := h
    obtain ⟨rfl, rfl⟩ := List.append_eq_nil_iff.mp e.symm
    exact Rps.cons h1 (Rps.erase j h2)
def sPopAt (j i : Nat) (m : DM) : DMS := fun ρ R => ownL ρ[i]? fun ds => m ρ fun d => asI d fun k => 0 ≤ k ∧ k < ds.length ∧ ds.length ≤ 10000000 ∧ solids ds = true ∧ ∃ y, ds[k.toNat]? = some y ∧ R.nx ((ρ.set i (.own (.list (ds.eraseIdx k.toNat)))).set j (.own y))
end
end Z
set_option Elab.async false
set_option linter.all false
set_option maxRecDepth 100000
set_option maxHeartbeats 4000000
/-! Z28: return (x, y) of two own values; zip(.., strict=True) of lists of either kind. -/
namespace Z
open PySem PySem.Spec PyProof.Rows L2
section
variable {K : PySem.W.Frag} {S : Option (Addr × Addr)}
def sRet2 (i j : Nat) : DMS := fun ρ R => match ρ[i]? with
  | some (.own d) => match ρ[j]? with
    | some (.own e) => i ≠ j ∧ R.rt (.tuple [d, e])
    | _ => False
  | _ => False
/-- zip(x, y, strict=True) of lists of either kind -/
def dZipSF (ms : DMs) : DMs := fun ρ R => ms ρ fun ds => ∃ x y xs ys, ds = [x, y] ∧ IsL x xs ∧ IsL y ys ∧ xs.length = ys.length ∧ R (zipD xs ys)
end
end Z
set_option Elab.async false
set_option linter.all false
set_option maxRecDepth 100000
set_option maxHeartbeats 4000000
/-! Z29: values of all kinds that never change: repr of them, == of a tuple with (), {} that never changes. -/
namespace Z
open PySem PySem.Spec PyProof.Rows L2
mutual
/-- as it is shown -/
def thaw : D → D
  | .none => .none
  | .bool b => .bool b
  | .int i => .int i
  | .str x => .str x
  | .list ds => .list (thaws ds)
  | .tuple ds => .tuple (thaws ds)
  | .dict kvs => if isFrz kvs = true then .list (thawk kvs).tail else .dict []
def thaws : List D → List D
  | [] => []
  | d :: ds => thaw d :: thaws ds
def thawk : List (D × D) → List D
  | [] => []
  | (_, d) :: r => thaw d :: thawk r
end
mutual
/-- whether it is such a value -/
def canT : D → Bool
  | .none => true
  | .bool _ => true
  | .int _ => true
  | .str _ => true
  | .list ds => canTs ds
  | .tuple ds => canTs ds
  | .dict kvs => (isFrz kvs && canTk kvs) || (isFrd kvs && kvs.length == 1)
def canTs : List D → Bool
  | [] => true
  | d :: ds => canT d && canTs ds
def canTk : List (D × D) → Bool
  | [] => true
  | (_, d) :: r => canT d && canTk r
end
theorem thaws_map : ∀ ds : List D, thaws ds = ds.map thaw
  | [] => by simp [thaws]
  | d :: ds => by simp [thaws, thaws_map ds]
theorem thawk_frz (ds : List D) (k : D) : thawk (ds.map fun d => (k, d)) = ds.map thaw := by
  induction ds with
  | nil => simp [thawk]
  | cons d ds ih => simp [thawk, ih]
theorem thaw_frz (ds : List D) : thaw (frzD ds) = .list (ds.map thaw) := by
  unfold frzD frzK
  simp only [thaw, thawk, thawk_frz]
  rfl
theorem thaw_frd : thaw (frdD []) = .dict [] := by
  unfold frdD frdK
  simp only [thaw]
  rfl
theorem isFrz_cons {kvs : List (D × D)} (h : isFrz kvs = true) : ∃ r, kvs = (.bool true, .none) :: r := by
  unfold isFrz at h
  split at h
  · exact ⟨_, rfl⟩
  · cases h
theorem isFrd_cons {kvs : List (D × D)} (h : isFrd kvs = true) : ∃ r, kvs = (.bool false, .none) :: r := by
  unfold isFrd at h
  split at h
  · exact ⟨_, rfl⟩
  · cases h
section
variable {prog : Program} {w : World} {h0 : Heap}
/-- how a list is shown -/
theorem shw_list {a : Addr} {o : Obj} {vs : Array Value} {n : Nat} {ds : List D} {as bs : List Addr} (h1 : h0.get? a = some o) (h2 : o.cls = .type "list") (h3 : o.data = .seq vs n) (r : ReadsAll h0 vs.toList ds as)
    (hb : ReadAtMost h0 (PyData.depthAll ds) bs) (hk : ReprAllK prog w bs h0 (PyData.depthAll ds) vs.toList (PyData.shownAll ds)) :
    (∃ cs, Reads h0 (.ref a) (.list ds) cs) ∧ ∃ cs, ReadAtMost h0 (PyData.list ds).depth cs ∧ ReprK prog w cs h0 (PyData.list ds).depth (.ref a) (PyData.list ds).shown := by
  have rr : Reads h0 (.ref a) (.list ds) _ := .list h1 h2 h3 r
  have hlt : PyData.depthAll ds < (PyData.list ds).depth := by simp only [PyData.depth]; omega
  refine ⟨⟨_, rr⟩, a :: bs, ReadAtMost.cons rr (Nat.le_of_lt hlt) hb, ?_⟩
  simp only [PyData.depth, PyData.shown]
  cases vs with
  | mk l =>
    cases l with
    | nil =>
      cases ds with
      | nil =>
        simp only [PyData.shownAll, listText_nil]
        exact ReprK.listEmpty h1 h2 h3
      | cons d ds => cases r
    | cons x l => exact ReprK.list h1 h2 h3 (not_mem_of_deeper rr hlt hb) (by simpa using hk.length_eq) fun i y e => hk.item i y (by simpa using e)
theorem shw_tuple {a : Addr} {o : Obj} {vs : Array Value} {n : Nat} {ds : List D} {as bs : List Addr} (h1 : h0.get? a = some o) (h2 : o.cls = .type "tuple") (h3 : o.data = .seq vs n) (r : ReadsAll h0 vs.toList ds as)
    (hb : ReadAtMost h0 (PyData.depthAll ds) bs) (hk : ReprAllK prog w bs h0 (PyData.depthAll ds) vs.toList (PyData.shownAll ds)) :
    (∃ cs, Reads h0 (.ref a) (.tuple ds) cs) ∧ ∃ cs, ReadAtMost h0 (PyData.tuple ds).depth cs ∧ ReprK prog w cs h0 (PyData.tuple ds).depth (.ref a) (PyData.tuple ds).shown := by
  have rr : Reads h0 (.ref a) (.tuple ds) _ := .tuple h1 h2 h3 r
  have hlt : PyData.depthAll ds < (PyData.tuple ds).depth := by simp only [PyData.depth]; omega
  refine ⟨⟨_, rr⟩, a :: bs, ReadAtMost.cons rr (Nat.le_of_lt hlt) hb, ?_⟩
  simp only [PyData.depth, PyData.shown]
  exact ReprK.tuple h1 h2 h3 (not_mem_of_deeper rr hlt hb) hk
theorem shw_none {a : Addr} {o : Obj} {n : Nat} (h1 : h0.get? a = some o) (h2 : o.cls = .type "dict") (h3 : o.data = .dict #[] n) (hs : (a == sysModules) = false) :
    (∃ cs, Reads h0 (.ref a) (.dict []) cs) ∧ ∃ cs, ReadAtMost h0 (PyData.dict []).depth cs ∧ ReprK prog w cs h0 (PyData.dict []).depth (.ref a) (PyData.dict []).shown := by
  have rr : Reads h0 (.ref a) (.dict []) _ := .dict h1 h2 h3 .nil .nil
  refine ⟨⟨_, rr⟩, [a], ReadAtMost.cons rr (Nat.zero_le _) (fun b hb => by cases hb), ?_⟩
  simp only [PyData.depth, PyData.depthKv, PyData.shown, PyData.shownKv]
  exact ReprK.dict (d := 0) h1 h2 h3 hs (fun hb => by cases hb) .nil
end
section
variable {X : Cx} {pins : List (Addr × Obj)} {σ : L2.St} {H : Hp} {s : Shared} {S : Option (Addr × Addr)}
theorem frd_nil {a : Addr} {o : Obj} {u : HO} {ys xs : List V} (I : Inv X pins σ H s) (h : H a = some (.frz o u)) (hu : DictU a [] ys xs u) : s.heap.get? a = some o ∧ o.cls = .type "dict" ∧ (∃ n, o.data = .dict #[] n) ∧ (a == sysModules) = false := by
  rcases hu with ⟨kk, e, _, hl, rfl⟩ | ⟨rows, hne, e, _⟩
  · have ek : kk = [] := by
      cases kk with
      | nil => rfl
      | cons k kk => cases e
    subst ek
    obtain ⟨e1, z, hs, vs, rel, ob, es, ep, e2, hx, hd, _, hpr, _⟩ := I.hok a _ h
    have ev : vs = [] := by
      have := rel.length
      rw [List.zip_nil_left] at this
      exact List.eq_nil_of_length_eq_zero this.symm
    subst ev
    rw [e1] at e2
    cases e2
    have e0 : es = #[] := by
      cases es with
      | mk l =>
        cases hpr
        rfl
    exact ⟨e1, hx.1, ⟨ep, by rw [hd, e0]⟩, hs⟩
  · exfalso
    cases rows with
    | nil => exact hne rfl
    | cons r rows => cases e
mutual
theorem rp_shw (I : Inv X pins σ H s) : ∀ (d : D) (v : V) (fp : List Addr) (u : Value), Rp ⟨X.K, S⟩ H d v fp → RelV v u → canT d = true → (thaw d).showable = true → (thaw d).shown.length ≤ sizeLine →
    (∃ as, Reads s.heap u (thaw d) as) ∧ ∃ bs, ReadAtMost s.heap (thaw d).depth bs ∧ ReprK X.prog X.w bs s.heap (thaw d).depth u (thaw d).shown
  | .none, v, fp, u, h, ru, _, hs, hz => by
    simp only [Rp] at h
    obtain ⟨rfl, _⟩ := h
    cases ru
    simp only [thaw, PyData.shown]
    exact ⟨⟨_, .none⟩, [], fun _ hb => (by cases hb), .of_is ReprIs.none _ _ _⟩
  | .bool b, v, fp, u, h, ru, _, hs, hz => by
    simp only [Rp] at h
    obtain ⟨rfl, _⟩ := h
    cases ru
    simp only [thaw, PyData.shown]
    exact ⟨⟨_, .bool b⟩, [], fun _ hb => (by cases hb), .of_is (ReprIs.bool b) _ _ _⟩
  | .int i, v, fp, u, h, ru, _, hs, hz => by
    simp only [Rp] at h
    obtain ⟨rfl, _⟩ := h
    obtain ⟨t, rfl⟩ := ru
    simp only [thaw, PyData.shown]
    exact ⟨⟨_, .int i t⟩, [], fun _ hb => (by cases hb), .of_is (ReprIs.int t (by simpa [thaw, PyData.showable] using hs)) _ _ _⟩
  | .str x, v, fp, u, h, ru, _, hs, hz => by
    simp only [Rp] at h
    obtain ⟨rfl, _⟩ := h
    obtain ⟨t, rfl⟩ := ru
    simp only [thaw, PyData.shown] at hz ⊢
    exact ⟨⟨_, .str x t⟩, [], fun _ hb => (by cases hb), .of_is (ReprIs.str x t hz) _ _ _⟩
  | .list ds, v, fp, u, h, ru, hc, hs, hz => by
    simp only [Rp] at h
    obtain ⟨a, xs, gp, rfl, rfl, hl, hv⟩ := h
    cases ru
    obtain ⟨its, rv, ⟨o, n, ho, hcl, _, hd⟩, _⟩ := I.list (.of hl)
    simp only [thaw] at hs hz ⊢
    obtain ⟨⟨as, ra⟩, bs, hb, hk⟩ := rps_shw I ds xs gp its hv rv (by simpa only [canT] using hc) (by simpa only [PyData.showable] using hs) fun t ht => Nat.le_trans (listText_mem_le ht) (by simpa only [PyData.shown] using hz)
    exact shw_list ho hcl hd ra hb hk
  | .tuple ds, v, fp, u, h, ru, hc, hs, hz => by
    simp only [Rp] at h
    obtain ⟨a, xs, rfl, hl, hv⟩ := h
    cases ru
    obtain ⟨its, rv, ⟨o, ho, hcl, n, hd⟩, _⟩ := I.tuple hl.t
    simp only [thaw] at hs hz ⊢
    obtain ⟨⟨as, ra⟩, bs, hb, hk⟩ := rps_shw I ds xs fp its hv rv (by simpa only [canT] using hc) (by simpa only [PyData.showable] using hs) fun t ht => Nat.le_trans (tupleText_mem_le ht) (by simpa only [PyData.shown] using hz)
    exact shw_tuple ho hcl hd ra hb hk
  | .dict [], v, fp, u, h, ru, hc, hs, hz => by simp [canT, isFrz, isFrd] at hc
  | .dict ((k, d) :: r), v, fp, u, h, ru, hc, hs, hz => by
    simp only [canT, Bool.or_eq_true, Bool.and_eq_true] at hc
    simp only [Rp] at h
    by_cases hf : isFrz ((k, d) :: r) = true
    · have hns : ¬ isSrc ((k, d) :: r) = true := by
        obtain ⟨r', e⟩ := isFrz_cons hf
        rw [e]
        exact fun z => nomatch z
      rw [if_neg hns, if_pos hf] at h
      obtain ⟨a, y0, x0, ys, xs, rfl, rfl, ho, hk⟩ := h
      simp only [Rpk] at hk
      obtain ⟨y, ys', x, xs', f1, f2, e1, e2, e3, _, _, h2⟩ := hk
      obtain ⟨rfl, rfl⟩ := List.cons.inj e2
      obtain ⟨rfl, rfl⟩ := List.cons.inj e1
      cases ru
      obtain ⟨its, rv, ⟨o, n, ho, hcl, _, hd⟩, _⟩ := I.list (sql_frz ho)
      have hc' : canTk r = true := by
        rcases hc with ⟨_, z⟩ | ⟨z, _⟩
        · simp only [canTk, Bool.and_eq_true] at z
          exact z.2
        · obtain ⟨r1, e⟩ := isFrz_cons hf
          obtain ⟨r2, e'⟩ := isFrd_cons z
          rw [e] at e'
          cases e'
      have e : thaw (.dict ((k, d) :: r)) = .list (thawk r) := by
        simp only [thaw, if_pos hf, thawk, List.tail_cons]
      rw [e] at hs hz ⊢
      obtain ⟨⟨as, ra⟩, bs, hb, hk⟩ := rpk_shw I r _ _ f2 its h2 rv hc' (by simpa only [PyData.showable] using hs) fun t ht => Nat.le_trans (listText_mem_le ht) (by simpa only [PyData.shown] using hz)
      exact shw_list ho hcl hd ra hb hk
    · obtain ⟨hd, hl⟩ := hc.resolve_left fun z => hf z.1
      obtain ⟨r', e⟩ := isFrd_cons hd
      cases e
      obtain rfl : r = [] := by simpa using hl
      rw [if_neg (fun z => nomatch z), if_neg hf, if_pos hd] at h
      obtain ⟨a, y0, x0, ys, xs, rfl, rfl, ⟨o, u', ho, hu⟩, hk⟩ := h
      cases ru
      obtain ⟨e1, e2, ⟨n, e3⟩, e4⟩ := frd_nil I ho hu
      have e : thaw (.dict [(.bool false, .none)]) = .dict [] := thaw_frd
      rw [e]
      exact shw_none e1 e2 e3 e4
theorem rps_shw (I : Inv X pins σ H s) : ∀ (ds : List D) (vs : List V) (fp : List Addr) (us : List Value), Rps ⟨X.K, S⟩ H ds vs fp → Vals vs us → canTs ds = true → PyData.showableAll (thaws ds) = true → (∀ t ∈ PyData.shownAll (thaws ds), t.length ≤ sizeLine) →
    (∃ as, ReadsAll s.heap us (thaws ds) as) ∧ ∃ bs, ReadAtMost s.heap (PyData.depthAll (thaws ds)) bs ∧ ReprAllK X.prog X.w bs s.heap (PyData.depthAll (thaws ds)) us (PyData.shownAll (thaws ds))
  | [], vs, fp, us, h, rv, _, _, _ => by
    simp only [Rps] at h
    rw [h.1] at rv
    cases rv
    simp only [thaws, PyData.shownAll]
    exact ⟨⟨_, .nil⟩, [], fun _ hb => (by cases hb), .nil⟩
  | d :: ds, vs, fp, us, h, rv, hc, hs, hz => by
    simp only [Rps] at h
    obtain ⟨x, ys, f1, f2, rfl, rfl, h1, h2⟩ := h
    cases rv with
    | cons r1 r2 =>
      simp only [canTs, Bool.and_eq_true] at hc
      simp only [thaws, PyData.showableAll, Bool.and_eq_true] at hs
      simp only [thaws, PyData.shownAll] at hz ⊢
      obtain ⟨⟨as, ra⟩, b1, hb1, k1⟩ := rp_shw I d x f1 _ h1 r1 hc.1 hs.1 (hz _ (List.mem_cons_self ..))
      obtain ⟨⟨bs, rb⟩, b2, hb2, k2⟩ := rps_shw I ds ys f2 _ h2 r2 hc.2 hs.2 fun t ht => hz t (List.mem_cons_of_mem _ ht)
      refine ⟨⟨_, .cons ra rb⟩, b1 ++ b2, ReadAtMost.append (hb1.mono (by simp only [PyData.depthAll]; exact Nat.le_max_left _ _)) (hb2.mono (by simp only [PyData.depthAll]; exact Nat.le_max_right _ _)), ?_⟩
      simp only [PyData.depthAll]
      exact .cons ((k1.more fun b hb => List.mem_append_left _ hb).level_le (Nat.le_max_left _ _)) (k2.more_le (fun b hb => List.mem_append_right _ hb) (Nat.le_max_right _ _))
theorem rpk_shw (I : Inv X pins σ H s) : ∀ (ds : List (D × D)) (ys vs : List V) (fp : List Addr) (us : List Value), Rpk ⟨X.K, S⟩ H ds ys vs fp → Vals vs us → canTk ds = true → PyData.showableAll (thawk ds) = true → (∀ t ∈ PyData.shownAll (thawk ds), t.length ≤ sizeLine) →
    (∃ as, ReadsAll s.heap us (thawk ds) as) ∧ ∃ bs, ReadAtMost s.heap (PyData.depthAll (thawk ds)) bs ∧ ReprAllK X.prog X.w bs s.heap (PyData.depthAll (thawk ds)) us (PyData.shownAll (thawk ds))
  | [], ys, vs, fp, us, h, rv, _, _, _ => by
    simp only [Rpk] at h
    rw [h.2.1] at rv
    cases rv
    simp only [thawk, PyData.shownAll]
    exact ⟨⟨_, .nil⟩, [], fun _ hb => (by cases hb), .nil⟩
  | (k, d) :: ds, ys, vs, fp, us, h, rv, hc, hs, hz => by
    simp only [Rpk] at h
    obtain ⟨y, ys', x, xs', f1, f2, rfl, rfl, rfl, _, h1, h2⟩ := h
    cases rv with
    | cons r1 r2 =>
      simp only [canTk, Bool.and_eq_true] at hc
      simp only [thawk, PyData.showableAll, Bool.and_eq_true] at hs
      simp only [thawk, PyData.shownAll] at hz ⊢
      obtain ⟨⟨as, ra⟩, b1, hb1, k1⟩ := rp_shw I d x f1 _ h1 r1 hc.1 hs.1 (hz _ (List.mem_cons_self ..))
      obtain ⟨⟨bs, rb⟩, b2, hb2, k2⟩ := rpk_shw I ds ys' xs' f2 _ h2 r2 hc.2 hs.2 fun t ht => hz t (List.mem_cons_of_mem _ ht)
      refine ⟨⟨_, .cons ra rb⟩, b1 ++ b2, ReadAtMost.append (hb1.mono (by simp only [PyData.depthAll]; exact Nat.le_max_left _ _)) (hb2.mono (by simp only [PyData.depthAll]; exact Nat.le_max_right _ _)), ?_⟩
      simp only [PyData.depthAll]
      exact .cons ((k1.more fun b hb => List.mem_append_left _ hb).level_le (Nat.le_max_left _ _)) (k2.more_le (fun b hb => List.mem_append_right _ hb) (Nat.le_max_right _ _))
end
end
/-- such a value, shown by at most w signs, at most k deep -/
structure OkT (k w : Nat) (d : D) : Prop where
  can : canT d = true
  depth : (thaw d).depth ≤ k
  show' : (thaw d).showable = true
  len : (thaw d).shown.length ≤ w
def rReprU (K : PySem.W.Frag) : List V → Hp → VK → Prop := fun vs H Q => ∃ (S : Option (Addr × Addr)) (x : V) (d : D) (fp : List Addr), vs = [x] ∧ Rp ⟨K, S⟩ H d x fp ∧ OkT 40 10000000 d ∧ Q (.str (thaw d).shown) H
theorem cr_reprU {X : Cx} (hg : X.A.guards = some []) (hu : X.A.units + 64 < cLine) : CallR X (.builtin "repr") (rReprU X.K) := fun pins s σ H vs us Q I r h => by
  obtain ⟨S, x, d, fp, rfl, hd, ok, q⟩ := h
  obtain ⟨u, rfl, ru⟩ := vals1 r
  have sz := lim_ok ok.len
  have dp := ok.depth
  cases d with
  | none =>
    rw [show x = .non by simpa [Rp] using hd.1] at ru
    cases ru
    exact P.repr_of_none ⟨.str _, H, I.tok _, ⟨_, rfl⟩, by simpa only [thaw, PyData.shown] using q⟩
  | bool b =>
    rw [rp_bl hd] at ru
    cases ru
    exact P.repr_of_bool ⟨.str _, H, I.tok _, ⟨_, rfl⟩, by simpa only [thaw, PyData.shown] using q⟩
  | int i =>
    rw [rp_int hd] at ru
    obtain ⟨t, rfl⟩ := ru
    have hs := ok.show'
    simp only [thaw, PyData.showable, decide_eq_true_eq] at hs
    exact P.repr_of_int hs ⟨.str _, H, I.tok _, ⟨_, rfl⟩, by simpa only [thaw, PyData.shown] using q⟩
  | str z =>
    rw [show x = .str z by simp only [Rp] at hd; exact hd.1] at ru
    obtain ⟨t, rfl⟩ := ru
    exact P.repr_of_str ⟨.str _, H, I.tok _, ⟨_, rfl⟩, by simpa only [thaw, PyData.shown] using q⟩ (by simpa only [thaw, PyData.shown] using sz)
  | list ds =>
    obtain ⟨⟨as, rr⟩, _⟩ := rp_shw I _ _ _ _ hd ru ok.can ok.show' sz
    simp only [Rp] at hd
    obtain ⟨a, xs, gp, rfl, rfl, hl, hv⟩ := hd
    cases ru
    obtain ⟨its, rv, ⟨o, n, ho, hcl, _, hdd⟩, _⟩ := I.list (.of hl)
    have sz' := sz
    have hs := ok.show'
    have hc := ok.can
    simp only [thaw] at sz' hs dp q rr
    obtain ⟨_, bs, hb, hk⟩ := rps_shw I ds xs gp its hv rv (by simpa only [canT] using hc) (by simpa only [PyData.showable] using hs) fun t ht => Nat.le_trans (listText_mem_le ht) (by simpa only [PyData.shown] using sz')
    simp only [PyData.depth] at dp
    refine call_repr_slot (by omega) ⟨o, ho, hcl⟩ F.slot_list_repr.toG ?_
    simp only [PyData.shown] at q sz'
    cases its with
    | nil =>
      cases rv
      have e : ds = [] := by
        have := hv.len
        exact List.eq_nil_of_length_eq_zero this.symm
      subst e
      simp only [thaws, PyData.shownAll, listText_nil] at q
      exact call_list_repr_empty ⟨o, ho, hcl⟩ ho hdd ⟨_, _, rfl, .str _, H, I.kept (fun _ _ e => e), ⟨_, rfl⟩, q⟩
    | cons x l => exact call_list_reprK ho hcl hdd (not_mem_of_deeper rr (by simp only [PyData.depth]; omega) hb) (by simpa using hk.length_eq) (fun i y e => hk.item i y (by simpa using e)) hg (fun b _ => Clear.nil b) (by show X.A.units + 1 + (_ + 1) < cLine; omega) (fun _ _ e => e) (fun h' u tk hk => ⟨_, _, rfl, .str _, H, I.kept hk, ⟨_, rfl⟩, q⟩) sz'
  | tuple ds =>
    obtain ⟨⟨as, rr⟩, _⟩ := rp_shw I _ _ _ _ hd ru ok.can ok.show' sz
    simp only [Rp] at hd
    obtain ⟨a, xs, rfl, hl, hv⟩ := hd
    cases ru
    obtain ⟨its, rv, ⟨o, ho, hcl, n, hdd⟩, _⟩ := I.tuple hl.t
    have sz' := sz
    have hs := ok.show'
    have hc := ok.can
    simp only [thaw] at sz' hs dp q rr
    obtain ⟨_, bs, hb, hk⟩ := rps_shw I ds xs fp its hv rv (by simpa only [canT] using hc) (by simpa only [PyData.showable] using hs) fun t ht => Nat.le_trans (tupleText_mem_le ht) (by simpa only [PyData.shown] using sz')
    simp only [PyData.depth] at dp
    refine call_repr_slot (by omega) ⟨o, ho, hcl⟩ F.slot_tuple_repr ?_
    simp only [PyData.shown] at q sz'
    exact call_tuple_reprK ho hcl hdd (not_mem_of_deeper rr (by simp only [PyData.depth]; omega) hb) hk hg (fun b _ => Clear.nil b) (by show X.A.units + 1 + (_ + 1) < cLine; omega) (fun _ _ e => e) (fun h' u tk hk => ⟨_, _, rfl, .str _, H, I.kept hk, ⟨_, rfl⟩, q⟩) sz'
  | dict kvs =>
    obtain ⟨⟨as, rr⟩, _⟩ := rp_shw I _ _ _ _ hd ru ok.can ok.show' sz
    have hc := ok.can
    simp only [canT, Bool.or_eq_true, Bool.and_eq_true] at hc
    rcases hc with ⟨hf, hc⟩ | ⟨hf, hl⟩
    · obtain ⟨r0, rfl⟩ := isFrz_cons hf
      simp only [Rp] at hd
      rw [if_neg (fun z => nomatch z), if_pos hf] at hd
      obtain ⟨a, y0, x0, ys, xs, rfl, rfl, ho, hk⟩ := hd
      simp only [Rpk] at hk
      obtain ⟨y, ys', x, xs', f1, f2, e1, e2, e3, _, _, hv⟩ := hk
      obtain ⟨rfl, rfl⟩ := List.cons.inj e2
      obtain ⟨rfl, rfl⟩ := List.cons.inj e1
      cases ru
      obtain ⟨its, rv, ⟨o, n, ho, hcl, _, hdd⟩, _⟩ := I.list (sql_frz ho)
      have e : thaw (.dict ((.bool true, .none) :: r0)) = .list (thawk r0) := by
        simp only [thaw, if_pos hf, thawk, List.tail_cons]
      have sz' := sz
      have hs := ok.show'
      rw [e] at sz' hs dp q rr
      simp only [canTk, Bool.and_eq_true] at hc
      obtain ⟨_, bs, hb, hk⟩ := rpk_shw I r0 _ _ f2 its hv rv hc.2 (by simpa only [PyData.showable] using hs) fun t ht => Nat.le_trans (listText_mem_le ht) (by simpa only [PyData.shown] using sz')
      simp only [PyData.depth] at dp
      refine call_repr_slot (by omega) ⟨o, ho, hcl⟩ F.slot_list_repr.toG ?_
      simp only [PyData.shown] at q sz'
      cases its with
      | nil =>
        have e0 : PyData.shownAll (thawk r0) = [] := by
          have := hk.length_eq
          simpa using this
        rw [e0, listText_nil] at q
        exact call_list_repr_empty ⟨o, ho, hcl⟩ ho hdd ⟨_, _, rfl, .str _, H, I.kept (fun _ _ e => e), ⟨_, rfl⟩, q⟩
      | cons x l => exact call_list_reprK ho hcl hdd (not_mem_of_deeper rr (by simp only [PyData.depth]; omega) hb) (by simpa using hk.length_eq) (fun i y e => hk.item i y (by simpa using e)) hg (fun b _ => Clear.nil b) (by show X.A.units + 1 + (_ + 1) < cLine; omega) (fun _ _ e => e) (fun h' u tk hk => ⟨_, _, rfl, .str _, H, I.kept hk, ⟨_, rfl⟩, q⟩) sz'
    · obtain ⟨r0, rfl⟩ := isFrd_cons hf
      obtain rfl : r0 = [] := by simpa using hl
      simp only [Rp] at hd
      rw [if_neg (fun z => nomatch z), if_neg (fun z => nomatch z), if_pos hf] at hd
      obtain ⟨a, y0, x0, ys, xs, rfl, rfl, ⟨o, u', ho, hu'⟩, hk⟩ := hd
      cases ru
      obtain ⟨e1, e2, ⟨n, e3⟩, e4⟩ := frd_nil I ho hu'
      rw [show thaw (.dict [(.bool false, .none)]) = .dict [] from thaw_frd] at q
      simp only [PyData.shown, PyData.shownKv] at q
      refine call_repr_slot (by omega) ⟨o, e1, e2⟩ F.slot_dict_repr ?_
      exact call_dict_reprK (as := []) (d := 0) (h₀ := s.heap) e1 e2 e3 e4 (fun hb => by cases hb) .nil hg (fun b _ => Clear.nil b) (by show X.A.units + 1 + (_ + 1) < cLine; omega) (fun _ _ e => e) (fun h' u tk hk => ⟨_, _, rfl, .str _, H, I.kept hk, ⟨_, rfl⟩, q⟩) (lim_ok (by decide))
section
variable {K : PySem.W.Frag} {S : Option (Addr × Addr)}
def fReprU : List D → (D → Prop) → Prop := fun ds R => match ds with
  | [d] => OkT 40 10000000 d ∧ R (.str (thaw d).shown)
  | _ => False
theorem cd_reprU : CallD K S (rReprU K) fReprU := .pure fun H xs ds fp r R hf Q q => by
  unfold fReprU at hf
  split at hf
  · rename_i d
    obtain ⟨x, rfl, rx⟩ := rps_one r
    exact ⟨S, x, d, _, rfl, rx, hf.1, q _ _ hf.2 str_rp⟩
  · exact hf.elim
/-! ### x == () -/
end
section
variable {K : PySem.W.Frag} {S : Option (Addr × Addr)}
def fEqE (neg : Bool) : D → D → (D → Prop) → Prop := fun x y R => match x with
  | .tuple xs => y = .tuple [] ∧ R (.bool (if neg then !xs.isEmpty else xs.isEmpty))
  | _ => False
/-! ### {} that never changes -/
def tFrd (te : TE) : TE := fun σ H Q => te σ H fun v H1 => ∃ a, v = .ref a ∧ H1 a = some (.dK []) ∧ ∀ o, Q v (upd H1 a (.frz o (.dK [])))
end
theorem pe_frd {X : Cx} {e : Expr} {te : TE} (h : PE X e te) : PE X e (tFrd te) := ⟨fun pins s σ H Q I w => by
  refine thn (h.run pins s σ H _ I w) fun u s1 ⟨x, H1, I1, r1, a, ex, ha, q⟩ => ?_
  subst ex
  have ok := I1.hok a _ ha
  obtain ⟨z, hs, vs, rel, ob, es, ep, e1, hr⟩ := id ok
  exact ⟨.ref a, _, Inv.write (x := a) (e := a) (o := .frz ob (.dK [])) (h' := s1.heap) (t' := s1.toks) I1 (by rw [ha]; exact True.intro) (.inl rfl) (fun b u _ k => k) ⟨_, e1⟩ ⟨e1, z, hs, vs, rel, ob, es, ep, e1, hr⟩, r1, q _⟩⟩
section
variable {K : PySem.W.Frag} {S : Option (Addr × Addr)}
theorem de_frdNew : DE K S (tFrd tDNewK) (dC (frdD [])) [] := fun G H ρ σ fps E R hm Q q p hp => by
  refine ⟨p, rfl, upd_same, fun o => ?_⟩
  rw [upd_upd]
  exact q _ _ _ [] hm (Ext.new hp) (E.src.new hp) (rp_frd.mpr ⟨p, [], [], rfl, rfl, ⟨o, _, upd_same, .inl ⟨[], rfl, List.nodup_nil, rfl, rfl⟩⟩, by simp [Rpk]⟩) .nil .nil
end
end Z
set_option Elab.async false
set_option linter.all false
set_option maxRecDepth 100000
set_option maxHeartbeats 4000000
/-! Z30: list + list of either kind; two targets at once through tuples, both own. -/
namespace Z
open PySem PySem.Spec PyProof.Rows L2
section
variable {K : PySem.W.Frag} {S : Option (Addr × Addr)}
/-- the items of a list that never changes -/
def dItemsZ (m : DM) : DMs := fun ρ R => m ρ fun d => ∃ xs, d = frzD xs ∧ R xs
/-- how long a list of either kind is -/
def fLenF : List D → (D → Prop) → Prop := fun ds R => match ds with
  | [d] => ∃ xs, IsL d xs ∧ R (.int ((xs.length : Nat) : Int))
  | _ => False
end
end Z
set_option Elab.async false
set_option linter.all false
/-! G1: rows over two marks; reduced bases are told by their span. Plain Lean. -/
namespace Z
def xr (a b : List Bool) : List Bool := List.zipWith (fun x y => x ^^ y) a b
def gt (v : List Bool) (p : Nat) : Bool := v.getD p false
def lead (r : List Bool) : Nat := r.idxOf true
def nul (n : Nat) : List Bool := List.replicate n false
theorem xr_len {a b : List Bool} (h : a.length = b.length) : (xr a b).length = a.length := by simp [xr, h]
theorem gt_xr {a b : List Bool} (h : a.length = b.length) (p : Nat) : gt (xr a b) p = (gt a p ^^ gt b p) := by
  unfold gt xr
  rw [List.getD_eq_getElem?_getD, List.getD_eq_getElem?_getD, List.getD_eq_getElem?_getD, List.getElem?_zipWith]
  by_cases hp : p < a.length
  · rw [List.getElem?_eq_getElem hp, List.getElem?_eq_getElem (h ▸ hp)]
    rfl
  · rw [List.getElem?_eq_none (by omega), List.getElem?_eq_none (by omega)]
    rfl
theorem gt_nul (n p : Nat) : gt (nul n) p = false := by
  unfold gt nul
  rw [List.getD_eq_getElem?_getD, List.getElem?_replicate]
  split <;> rfl
theorem gt_out {a : List Bool} {p : Nat} (h : a.length ≤ p) : gt a p = false := by
  unfold gt
  rw [List.getD_eq_getElem?_getD, List.getElem?_eq_none h]
  rfl
theorem row_ext {a b : List Bool} (h : a.length = b.length) (e : ∀ p, gt a p = gt b p) : a = b := by
  apply List.ext_getElem h
  intro i h1 h2
  have := e i
  unfold gt at this
  rw [List.getD_eq_getElem?_getD, List.getD_eq_getElem?_getD, List.getElem?_eq_getElem h1, List.getElem?_eq_getElem h2] at this
  exact this
theorem nul_len (n : Nat) : (nul n).length = n := List.length_replicate ..
theorem xr_nul {a : List Bool} {n : Nat} (h : a.length = n) : xr a (nul n) = a := row_ext (by rw [xr_len (by rw [nul_len]; exact h)]) fun p => by rw [gt_xr (by rw [nul_len]; exact h), gt_nul, Bool.xor_false]
theorem xr_assoc {a b c : List Bool} (h : a.length = b.length) (k : b.length = c.length) : xr (xr a b) c = xr a (xr b c) :=
  row_ext (by rw [xr_len (by rw [xr_len h, h, k]), xr_len h, xr_len (by rw [xr_len k, h])]) fun p => by
    rw [gt_xr (by rw [xr_len h, h, k]), gt_xr h, gt_xr (by rw [xr_len k, h]), gt_xr k, Bool.xor_assoc]
theorem xr_comm {a b : List Bool} (h : a.length = b.length) : xr a b = xr b a := row_ext (by rw [xr_len h, xr_len h.symm, h]) fun p => by rw [gt_xr h, gt_xr h.symm, Bool.xor_comm]
theorem xr_self {a : List Bool} : xr a a = nul a.length := row_ext (by rw [xr_len rfl, nul_len]) fun p => by rw [gt_xr rfl, gt_nul, Bool.xor_self]
theorem lead_gt {r : List Bool} (h : true ∈ r) : gt r (lead r) = true := by
  unfold gt lead
  have hl := List.idxOf_lt_length_iff.mpr h
  rw [List.getD_eq_getElem?_getD, List.getElem?_eq_getElem hl]
  exact List.getElem_idxOf hl
theorem lead_below {r : List Bool} {q : Nat} (h : q < lead r) : gt r q = false := by
  unfold lead at h
  cases e : gt r q with
  | false => rfl
  | true =>
    exfalso
    unfold gt at e
    rw [List.getD_eq_getElem?_getD] at e
    cases hq : r[q]? with
    | none => rw [hq] at e; cases e
    | some b =>
      rw [hq] at e
      have eb : b = true := e
      subst eb
      induction r generalizing q with
      | nil => simp at hq
      | cons x xs ih =>
        cases q with
        | zero =>
          simp at hq
          subst hq
          simp at h
        | succ q =>
          cases x with
          | true => simp at h
          | false =>
            simp [List.idxOf_cons] at h
            exact ih h (by simpa using hq)
theorem lead_le {r : List Bool} {q : Nat} (h : gt r q = true) : lead r ≤ q := Nat.le_of_not_lt fun z => by rw [lead_below z] at h; cases h
theorem mem_of_gt {r : List Bool} {q : Nat} (h : gt r q = true) : true ∈ r := by
  unfold gt at h
  rw [List.getD_eq_getElem?_getD] at h
  cases hq : r[q]? with
  | none => rw [hq] at h; cases h
  | some b =>
    rw [hq] at h
    have eb : b = true := h
    subst eb
    exact List.mem_of_getElem? hq
theorem not_nul {r : List Bool} {n : Nat} (hl : r.length = n) (h : true ∉ r) : r = nul n := row_ext (by rw [hl, nul_len]) fun p => by
  rw [gt_nul]
  cases e : gt r p with
  | false => rfl
  | true => exact (h (mem_of_gt e)).elim
theorem lead_eq {r : List Bool} {p : Nat} (h : gt r p = true) (h0 : ∀ q, q < p → gt r q = false) : lead r = p :=
  Nat.le_antisymm (lead_le h) (Nat.le_of_not_lt fun z => by have := h0 _ z; rw [lead_gt (mem_of_gt h)] at this; cases this)
/-- the sums of rows of B -/
inductive Sp (n : Nat) (B : List (List Bool)) : List Bool → Prop
  | zero : Sp n B (nul n)
  | add {b v : List Bool} : b ∈ B → Sp n B v → Sp n B (xr b v)
def Len (n : Nat) (B : List (List Bool)) : Prop := ∀ b ∈ B, b.length = n
section
variable {n : Nat} {B C : List (List Bool)}
theorem Sp.len (h : Len n B) {v : List Bool} (s : Sp n B v) : v.length = n := by
  induction s with
  | zero => exact nul_len n
  | add hb _ ih => rw [xr_len (by rw [h _ hb, ih]), h _ hb]
theorem Sp.mem (h : Len n B) {b : List Bool} (hb : b ∈ B) : Sp n B b := by
  have := Sp.add hb (Sp.zero (n := n) (B := B))
  rwa [xr_nul (h b hb)] at this
theorem Sp.xr (h : Len n B) {u v : List Bool} (s : Sp n B u) (t : Sp n B v) : Sp n B (xr u v) := by
  induction s with
  | zero => rw [xr_comm (by rw [nul_len, t.len h]), xr_nul (t.len h)]; exact t
  | @add b w hb hw ih =>
    rw [xr_assoc (by rw [h b hb, hw.len h]) (by rw [hw.len h, t.len h])]
    exact .add hb ih
theorem Sp.sub (hC : Len n C) (h : ∀ b ∈ B, Sp n C b) {v : List Bool} (s : Sp n B v) : Sp n C v := by
  induction s with
  | zero => exact .zero
  | add hb _ ih => exact (h _ hb).xr hC ih
theorem Sp.mono (h : ∀ b ∈ B, b ∈ C) {v : List Bool} (s : Sp n B v) : Sp n C v := by
  induction s with
  | zero => exact .zero
  | add hb _ ih => exact .add (h _ hb) ih
/-- each lead stands in its own row alone -/
structure Red (n : Nat) (B : List (List Bool)) : Prop where
  len : Len n B
  ne : ∀ b ∈ B, true ∈ b
  un : ∀ b ∈ B, ∀ c ∈ B, b ≠ c → gt b (lead c) = false
  nd : B.Nodup
def par (f : List Bool → Bool) : List (List Bool) → Nat → Bool
  | [], _ => false
  | b :: B, p => (f b && gt b p) ^^ par f B p
theorem par_congr {f g : List Bool → Bool} {p : Nat} : ∀ {B : List (List Bool)}, (∀ b ∈ B, f b = g b) → par f B p = par g B p
  | [], _ => rfl
  | b :: B, h => by
    unfold par
    rw [h b (List.mem_cons_self ..), par_congr fun c hc => h c (List.mem_cons_of_mem _ hc)]
theorem par_none {f : List Bool → Bool} {p : Nat} : ∀ {B : List (List Bool)}, (∀ b ∈ B, f b = true → gt b p = false) → par f B p = false
  | [], _ => rfl
  | b :: B, h => by
    unfold par
    rw [par_none fun c hc => h c (List.mem_cons_of_mem _ hc)]
    cases e : f b with
    | false => rfl
    | true => rw [h b (List.mem_cons_self ..) e]; rfl
theorem par_some {f : List Bool → Bool} {p : Nat} (h : par f B p = true) : ∃ b ∈ B, f b = true ∧ gt b p = true := Classical.byContradiction fun z => by
  have := par_none (f := f) (p := p) (B := B) fun b hb hf => by
    cases e : gt b p with
    | false => rfl
    | true => exact (z ⟨b, hb, hf, e⟩).elim
  rw [this] at h
  cases h
theorem par_flip {f g : List Bool → Bool} {p : Nat} {b : List Bool} : ∀ {B : List (List Bool)}, B.Nodup → b ∈ B → (∀ c ∈ B, c ≠ b → f c = g c) → f b = !g b → par f B p = (gt b p ^^ par g B p)
  | [], _, hb, _, _ => by cases hb
  | c :: B, nd, hb, h, hf => by
    unfold par
    have nd' := List.nodup_cons.mp nd
    by_cases e : c = b
    · subst e
      rw [hf, par_congr (g := g) fun d hd => h d (List.mem_cons_of_mem _ hd) fun z => nd'.1 (z ▸ hd)]
      cases g c <;> cases gt c p <;> cases par g B p <;> rfl
    · have hb' : b ∈ B := (List.mem_cons.mp hb).resolve_left (Ne.symm e)
      rw [h c (List.mem_cons_self ..) e, par_flip nd'.2 hb' (fun d hd => h d (List.mem_cons_of_mem _ hd)) hf]
      cases g c <;> cases gt c p <;> cases gt b p <;> cases par g B p <;> rfl
/-- a sum is told by its marks at the leads -/
theorem Red.tell (r : Red n B) {v : List Bool} (s : Sp n B v) (p : Nat) : gt v p = par (fun b => gt v (lead b)) B p := by
  induction s with
  | zero =>
    rw [gt_nul, par_none]
    intro b _ z
    rw [gt_nul] at z
    cases z
  | @add b w hb hw ih =>
    have hl : b.length = w.length := by rw [r.len b hb, hw.len r.len]
    rw [gt_xr hl, ih]
    refine (par_flip (g := fun c => gt w (lead c)) r.nd hb (fun c hc hne => ?_) ?_).symm
    · show gt (Z.xr b w) (lead c) = gt w (lead c)
      rw [gt_xr hl, r.un b hb c hc (Ne.symm hne), Bool.false_xor]
    · show gt (Z.xr b w) (lead b) = !gt w (lead b)
      rw [gt_xr hl, lead_gt (r.ne b hb), Bool.true_xor]
theorem Red.same (r : Red n B) {u v : List Bool} (hu : Sp n B u) (hv : Sp n B v) (h : ∀ b ∈ B, gt u (lead b) = gt v (lead b)) : u = v :=
  row_ext (by rw [hu.len r.len, hv.len r.len]) fun p => by rw [r.tell hu, r.tell hv]; exact par_congr h
theorem Red.leads (r : Red n B) {v : List Bool} (s : Sp n B v) (h : true ∈ v) : ∃ b ∈ B, lead b = lead v := by
  have h1 := lead_gt h
  rw [r.tell s] at h1
  obtain ⟨b, hb, h2, h3⟩ := par_some h1
  exact ⟨b, hb, Nat.le_antisymm (lead_le h3) (lead_le h2)⟩
theorem Red.sub (r : Red n B) (q : Red n C) (h : ∀ v, Sp n B v ↔ Sp n C v) : ∀ b ∈ B, b ∈ C := fun b hb => by
  obtain ⟨c, hc, hl⟩ := q.leads ((h b).mp (Sp.mem r.len hb)) (r.ne b hb)
  have e : b = c := r.same (Sp.mem r.len hb) ((h c).mpr (Sp.mem q.len hc)) fun b' hb' => by
    by_cases e : b = b'
    · subst e
      rw [lead_gt (r.ne b hb), ← hl, lead_gt (q.ne c hc)]
    · rw [r.un b hb b' hb' e]
      obtain ⟨c', hc', hl'⟩ := q.leads ((h b').mp (Sp.mem r.len hb')) (r.ne b' hb')
      have hne : c ≠ c' := fun z => by
        have h1 := r.un b hb b' hb' e
        rw [← hl', ← z, hl, lead_gt (r.ne b hb)] at h1
        cases h1
      rw [← hl', q.un c hc c' hc' hne]
  rw [e]
  exact hc
theorem sorted_same : ∀ {B C : List (List Bool)}, B.Pairwise (fun a b => lead a < lead b) → C.Pairwise (fun a b => lead a < lead b) → (∀ b, b ∈ B ↔ b ∈ C) → B = C
  | [], [], _, _, _ => rfl
  | [], c :: C, _, _, h => by have := (h c).mpr (List.mem_cons_self ..); cases this
  | b :: B, [], _, _, h => by have := (h b).mp (List.mem_cons_self ..); cases this
  | b :: B, c :: C, hB, hC, h => by
    rw [List.pairwise_cons] at hB hC
    have e : b = c := by
      rcases List.mem_cons.mp ((h b).mp (List.mem_cons_self ..)) with z | z
      · exact z
      · rcases List.mem_cons.mp ((h c).mpr (List.mem_cons_self ..)) with y | y
        · exact y.symm
        · have h1 := hB.1 c y
          have h2 := hC.1 b z
          omega
    subst e
    rw [sorted_same hB.2 hC.2 fun d => ⟨fun hd => ?_, fun hd => ?_⟩]
    · rcases List.mem_cons.mp ((h d).mp (List.mem_cons_of_mem _ hd)) with z | z
      · have := hB.1 d hd
        rw [z] at this
        omega
      · exact z
    · rcases List.mem_cons.mp ((h d).mpr (List.mem_cons_of_mem _ hd)) with z | z
      · have := hC.1 d hd
        rw [z] at this
        omega
      · exact z
/-- the reduced base of what rows span, by ascending leads -/
structure Rref (n : Nat) (rows B : List (List Bool)) : Prop where
  red : Red n B
  asc : B.Pairwise (fun a b => lead a < lead b)
  span : ∀ v, Sp n B v ↔ Sp n rows v
theorem Rref.unique {rows : List (List Bool)} (h : Rref n rows B) (k : Rref n rows C) : B = C :=
  sorted_same h.asc k.asc fun b => ⟨h.red.sub k.red (fun v => (h.span v).trans (k.span v).symm) b, k.red.sub h.red (fun v => (k.span v).trans (h.span v).symm) b⟩
end
end Z
set_option Elab.async false
set_option linter.all false
/-! G2: two ways to a reduced base. Plain Lean. -/
namespace Z
section
variable {n : Nat} {B C : List (List Bool)}
theorem pigeon : ∀ (n : Nat) (l : List Nat), l.Nodup → (∀ x ∈ l, x < n) → l.length ≤ n
  | 0, l, _, h => by
    cases l with
    | nil => simp
    | cons x xs => exact absurd (h x (List.mem_cons_self ..)) (Nat.not_lt_zero _)
  | n + 1, l, nd, h => by
    have ih := pigeon n (l.erase n) (nd.erase n) fun x hx => by
      have h1 := h x (List.mem_of_mem_erase hx)
      have h2 : x ≠ n := fun e => by rw [e] at hx; exact (List.Nodup.not_mem_erase nd) hx
      omega
    by_cases hm : n ∈ l
    · have := List.length_erase_of_mem hm
      omega
    · rw [List.erase_of_not_mem hm] at ih
      omega
theorem Red.count (r : Red n B) : B.length ≤ n := by
  have h := pigeon n (B.map lead) (by
    refine List.Pairwise.map _ (fun a b z => z) (List.Pairwise.imp_of_mem (fun {a b} ha hb hne z => ?_) r.nd)
    have := r.un a ha b hb hne
    rw [← z, lead_gt (r.ne a ha)] at this
    cases this) fun x hx => by
      obtain ⟨b, hb, rfl⟩ := List.mem_map.mp hx
      rw [← r.len b hb]
      exact List.idxOf_lt_length_iff.mpr (r.ne b hb)
  rwa [List.length_map] at h
/-! ### row by row -/
def red1 (B : List (List Bool)) (h : List Bool) : List Bool := B.foldl (fun h b => if gt h (lead b) then xr h b else h) h
def stepP (B : List (List Bool)) (h : List Bool) : List (List Bool) := if (red1 B h).contains true then B.map (fun b => if gt b (lead (red1 B h)) then xr b (red1 B h) else b) ++ [red1 B h] else B
def toldP (rows : List (List Bool)) : List (List Bool) := rows.foldl stepP []
theorem red1_go (r : Red n B) : ∀ (D : List (List Bool)) (h : List Bool), h.length = n → (∀ c ∈ D, c ∈ B) → D.Nodup →
    (∀ c ∈ D, gt (red1 D h) (lead c) = false) ∧ (∀ b ∈ B, b ∉ D → gt (red1 D h) (lead b) = gt h (lead b)) ∧ ∃ s, Sp n B s ∧ red1 D h = xr h s
  | [], h, hl, _, _ => ⟨fun c hc => (by cases hc), fun b _ _ => rfl, nul n, .zero, (xr_nul hl).symm⟩
  | d :: D, h, hl, hs, nd => by
    have nd' := List.nodup_cons.mp nd
    have hd := hs d (List.mem_cons_self ..)
    have ld := r.len d hd
    let h1 := if gt h (lead d) then xr h d else h
    have l1 : h1.length = n := by
      show (if gt h (lead d) then xr h d else h).length = n
      split
      · rw [xr_len (by rw [hl, ld]), hl]
      · exact hl
    obtain ⟨a1, a2, s, a3, a4⟩ := red1_go r D h1 l1 (fun c hc => hs c (List.mem_cons_of_mem _ hc)) nd'.2
    have e : red1 (d :: D) h = red1 D h1 := rfl
    have z1 : gt h1 (lead d) = false := by
      show gt (if gt h (lead d) then xr h d else h) (lead d) = false
      cases q : gt h (lead d) with
      | false => simpa using q
      | true =>
        simp only [if_true]
        rw [gt_xr (by rw [hl, ld]), q, lead_gt (r.ne d hd)]
        rfl
    have z2 : ∀ b ∈ B, b ≠ d → gt h1 (lead b) = gt h (lead b) := fun b hb hne => by
      show gt (if gt h (lead d) then xr h d else h) (lead b) = _
      split
      · rw [gt_xr (by rw [hl, ld]), r.un d hd b hb (Ne.symm hne), Bool.xor_false]
      · rfl
    refine ⟨fun c hc => ?_, fun b hb hn => ?_, ?_⟩
    · rw [e]
      rcases List.mem_cons.mp hc with rfl | hc
      · rw [a2 c hd nd'.1]
        exact z1
      · exact a1 c hc
    · rw [e, a2 b hb fun z => hn (List.mem_cons_of_mem _ z)]
      exact z2 b hb fun z => hn (z ▸ List.mem_cons_self ..)
    · rw [e, a4]
      show ∃ t, Sp n B t ∧ xr (if gt h (lead d) then xr h d else h) s = xr h t
      split
      · exact ⟨xr d s, .add hd a3, xr_assoc (by rw [hl, ld]) (by rw [ld, a3.len r.len])⟩
      · exact ⟨s, a3, rfl⟩
theorem red_row (r : Red n B) {h k : List Bool} (hk : k = red1 B h) (hl : h.length = n) : k.length = n ∧ (∀ b ∈ B, gt k (lead b) = false) ∧ Sp n (h :: B) k ∧ Sp n (k :: B) h := by
  obtain ⟨a1, _, s, a3, a4⟩ := red1_go r B h hl (fun _ h => h) r.nd
  have ls := a3.len r.len
  subst hk
  have lk : (red1 B h).length = n := by rw [a4, xr_len (by rw [hl, ls]), hl]
  have L1 : Len n (h :: B) := fun b hb => (List.mem_cons.mp hb).elim (fun e => e ▸ hl) (r.len b)
  refine ⟨lk, a1, ?_, ?_⟩
  · have := Sp.add (n := n) (List.mem_cons_self (a := h) (l := B)) (Sp.mono (C := h :: B) (fun b hb => List.mem_cons_of_mem _ hb) a3)
    rw [← a4] at this
    exact this
  · have e : xr (red1 B h) s = h := by rw [a4, xr_assoc (by rw [hl, ls]) rfl, xr_self, ls, xr_nul hl]
    have := Sp.add (n := n) (List.mem_cons_self (a := red1 B h) (l := B)) (Sp.mono (C := red1 B h :: B) (fun b hb => List.mem_cons_of_mem _ hb) a3)
    rw [e] at this
    exact this
/-- r, freed of head's mark at p -/
def clr (p : Nat) (head r : List Bool) : List Bool := if gt r p then xr r head else r
theorem clr_len {p : Nat} {head r : List Bool} (h : head.length = n) (k : r.length = n) : (clr p head r).length = n := by
  unfold clr
  split
  · rw [xr_len (by rw [h, k]), k]
  · exact k
theorem clr_at {p : Nat} {head r : List Bool} (h : head.length = n) (k : r.length = n) (hp : gt head p = true) : gt (clr p head r) p = false := by
  unfold clr
  split
  · rename_i q
    rw [gt_xr (by rw [h, k]), q, hp]
    rfl
  · rename_i q
    simpa using q
theorem clr_other {p q : Nat} {head r : List Bool} (h : head.length = n) (k : r.length = n) (hq : gt head q = false) : gt (clr p head r) q = gt r q := by
  unfold clr
  split
  · rw [gt_xr (by rw [h, k]), hq, Bool.xor_false]
  · rfl
theorem clr_sp {p : Nat} {head r : List Bool} (hL : Len n C) (h : Sp n C head) (k : Sp n C r) : Sp n C (clr p head r) := by
  unfold clr
  split
  · exact k.xr hL h
  · exact k
theorem sp_clr {p : Nat} {head r : List Bool} (hL : Len n C) (l1 : head.length = n) (l2 : r.length = n) (h : Sp n C head) (k : Sp n C (clr p head r)) : Sp n C r := by
  unfold clr at k
  split at k
  · have := k.xr hL h
    rw [xr_assoc (by rw [l1, l2]) rfl, xr_self, l1, xr_nul l2] at this
    exact this
  · exact k
theorem lead_same {a b : List Bool} (h : true ∈ a) (e : ∀ q, q ≤ lead a → gt b q = gt a q) : lead b = lead a :=
  lead_eq (by rw [e _ (Nat.le_refl _), lead_gt h]) fun q hq => by rw [e q (Nat.le_of_lt hq), lead_below hq]
theorem step_red (r : Red n B) {h : List Bool} (hl : h.length = n) : Red n (stepP B h) ∧ ∀ v, Sp n (stepP B h) v ↔ Sp n (h :: B) v := by
  have L1 : Len n (h :: B) := fun b hb => (List.mem_cons.mp hb).elim (fun e => e ▸ hl) (r.len b)
  obtain ⟨lk, k0, k1, k2⟩ := red_row r rfl hl
  unfold stepP
  generalize hk : red1 B h = k at *
  have Lk : Len n (k :: B) := fun b hb => (List.mem_cons.mp hb).elim (fun e => e ▸ lk) (r.len b)
  cases hc : k.contains true with
  | false =>
    simp only [Bool.false_eq_true, if_false]
    have hn : true ∉ k := fun z => by rw [List.contains_iff_mem.mpr z] at hc; cases hc
    have ek := not_nul lk hn
    refine ⟨r, fun v => ⟨fun s => s.mono fun b hb => List.mem_cons_of_mem _ hb, fun s => s.sub r.len fun b hb => ?_⟩⟩
    rcases List.mem_cons.mp hb with rfl | hb
    · refine k2.sub r.len fun c hc => ?_
      rcases List.mem_cons.mp hc with rfl | hc
      · rw [ek]
        exact .zero
      · exact Sp.mem r.len hc
    · exact Sp.mem r.len hb
  | true =>
    simp only [if_true]
    have hm : true ∈ k := List.contains_iff_mem.mp hc
    have pk := lead_gt hm
    show Red n (B.map (clr (lead k) k) ++ [k]) ∧ ∀ v, Sp n (B.map (clr (lead k) k) ++ [k]) v ↔ _
    have LM : Len n (B.map (clr (lead k) k) ++ [k]) := fun b hb => by
      rcases List.mem_append.mp hb with hb | hb
      · obtain ⟨c, hc, rfl⟩ := List.mem_map.mp hb
        exact clr_len lk (r.len c hc)
      · rw [List.mem_singleton.mp hb]
        exact lk
    -- the leads stay
    have ld : ∀ b ∈ B, lead (clr (lead k) k b) = lead b := fun b hb => by
      unfold clr
      split
      · rename_i q
        have h1 := lead_le q
        have h2 : lead b ≠ lead k := fun z => by
          have := k0 b hb
          rw [z, pk] at this
          cases this
        refine lead_same (r.ne b hb) fun q' hq' => ?_
        rw [gt_xr (by rw [r.len b hb, lk]), lead_below (r := k) (by omega), Bool.xor_false]
      · rfl
    have un : ∀ b ∈ B, ∀ c ∈ B, b ≠ c → gt (clr (lead k) k b) (lead c) = false := fun b hb c hc hne => by rw [clr_other lk (r.len b hb) (k0 c hc), r.un b hb c hc hne]
    refine ⟨⟨LM, fun b hb => ?_, fun b hb c hc hne => ?_, ?_⟩, fun v => ⟨fun s => s.sub L1 fun b hb => ?_, fun s => s.sub LM fun b hb => ?_⟩⟩
    · rcases List.mem_append.mp hb with hb | hb
      · obtain ⟨c, hc, rfl⟩ := List.mem_map.mp hb
        refine mem_of_gt (q := lead c) ?_
        rw [clr_other lk (r.len c hc) (k0 c hc), lead_gt (r.ne c hc)]
      · rw [List.mem_singleton.mp hb]
        exact hm
    · rcases List.mem_append.mp hb with hb | hb <;> rcases List.mem_append.mp hc with hc | hc
      · obtain ⟨b', hb', rfl⟩ := List.mem_map.mp hb
        obtain ⟨c', hc', rfl⟩ := List.mem_map.mp hc
        rw [ld c' hc']
        exact un b' hb' c' hc' fun z => hne (by rw [z])
      · obtain ⟨b', hb', rfl⟩ := List.mem_map.mp hb
        rw [List.mem_singleton.mp hc]
        exact clr_at lk (r.len b' hb') pk
      · obtain ⟨c', hc', rfl⟩ := List.mem_map.mp hc
        rw [List.mem_singleton.mp hb, ld c' hc']
        exact k0 c' hc'
      · exact (hne ((List.mem_singleton.mp hb).trans (List.mem_singleton.mp hc).symm)).elim
    · refine List.nodup_append.mpr ⟨?_, by simp, fun a ha b hb z => ?_⟩
      · refine List.Pairwise.map _ (fun a b z => z) ?_
        refine List.Pairwise.imp_of_mem (fun {a b} ha hb hne z => ?_) r.nd
        have h1 : lead a = lead b := by rw [← ld a ha, ← ld b hb, z]
        have h2 := r.un a ha b hb hne
        rw [← h1, lead_gt (r.ne a ha)] at h2
        cases h2
      · obtain ⟨c, hc, rfl⟩ := List.mem_map.mp ha
        have h1 : gt (clr (lead k) k c) (lead k) = false := clr_at lk (r.len c hc) pk
        rw [z, List.mem_singleton.mp hb, pk] at h1
        cases h1
    · rcases List.mem_append.mp hb with hb | hb
      · obtain ⟨c, hc, rfl⟩ := List.mem_map.mp hb
        exact clr_sp L1 k1 (Sp.mem L1 (List.mem_cons_of_mem _ hc))
      · rw [List.mem_singleton.mp hb]
        exact k1
    · have sk : Sp n (B.map (clr (lead k) k) ++ [k]) k := Sp.mem LM (by simp)
      have sb : ∀ c ∈ B, Sp n (B.map (clr (lead k) k) ++ [k]) c := fun c hc => sp_clr LM lk (r.len c hc) sk (Sp.mem LM (List.mem_append_left _ (List.mem_map.mpr ⟨c, hc, rfl⟩)))
      rcases List.mem_cons.mp hb with rfl | hb
      · exact k2.sub LM fun c hc => (List.mem_cons.mp hc).elim (fun e => e ▸ sk) (sb c)
      · exact sb b hb
theorem told_go : ∀ (rows B : List (List Bool)), Red n B → Len n rows → Red n (rows.foldl stepP B) ∧ ∀ v, Sp n (rows.foldl stepP B) v ↔ Sp n (rows ++ B) v
  | [], B, r, _ => ⟨r, fun v => Iff.rfl⟩
  | h :: rows, B, r, hL => by
    obtain ⟨r1, s1⟩ := step_red r (hL h (List.mem_cons_self ..))
    obtain ⟨r2, s2⟩ := told_go rows (stepP B h) r1 fun b hb => hL b (List.mem_cons_of_mem _ hb)
    have L2 : Len n (rows ++ stepP B h) := fun b hb => (List.mem_append.mp hb).elim (fun z => hL b (List.mem_cons_of_mem _ z)) (r1.len b)
    have L3 : Len n (h :: rows ++ B) := fun b hb => (List.mem_append.mp hb).elim (hL b) (r.len b)
    refine ⟨r2, fun v => (s2 v).trans ⟨fun s => s.sub L3 fun b hb => ?_, fun s => s.sub L2 fun b hb => ?_⟩⟩
    · rcases List.mem_append.mp hb with hb | hb
      · exact Sp.mem L3 (List.mem_append_left _ (List.mem_cons_of_mem _ hb))
      · refine ((s1 b).mp (Sp.mem r1.len hb)).mono fun c hc => ?_
        rcases List.mem_cons.mp hc with rfl | hc
        · exact List.mem_append_left _ (List.mem_cons_self ..)
        · exact List.mem_append_right _ hc
    · have big : ∀ c, c ∈ h :: B → Sp n (rows ++ stepP B h) c := fun c hc => ((s1 c).mpr (Sp.mem (fun b hb => (List.mem_cons.mp hb).elim (fun e => e ▸ hL h (List.mem_cons_self ..)) (r.len b)) hc)).mono fun d hd => List.mem_append_right _ hd
      rcases List.mem_append.mp hb with hb | hb
      · rcases List.mem_cons.mp hb with rfl | hb
        · exact big _ (List.mem_cons_self ..)
        · exact Sp.mem L2 (List.mem_append_left _ hb)
      · exact big _ (List.mem_cons_of_mem _ hb)
theorem red_nil : Red n [] := ⟨fun b hb => (by cases hb), fun b hb => (by cases hb), fun b hb => (by cases hb), List.nodup_nil⟩
theorem told_red {rows : List (List Bool)} (h : Len n rows) : Red n (toldP rows) ∧ ∀ v, Sp n (toldP rows) v ↔ Sp n rows v := by
  have := told_go rows [] red_nil h
  rw [List.append_nil] at this
  exact this
/-- put in a sequence by leads -/
theorem Rref.of_perm {rows S : List (List Bool)} (r : Red n B) (h : ∀ v, Sp n B v ↔ Sp n rows v) (p : S.Perm B) (asc : S.Pairwise fun a b => lead a < lead b) : Rref n rows S := by
  have m : ∀ b, b ∈ S ↔ b ∈ B := fun b => p.mem_iff
  refine ⟨⟨fun b hb => r.len b ((m b).mp hb), fun b hb => r.ne b ((m b).mp hb), fun b hb c hc => r.un b ((m b).mp hb) c ((m c).mp hc), p.nodup_iff.mpr r.nd⟩, asc, fun v => ?_⟩
  exact (show Sp n S v ↔ Sp n B v from ⟨fun s => s.mono fun b => (m b).mp, fun s => s.mono fun b => (m b).mpr⟩).trans (h v)
/-! ### place by place -/
end
end Z
set_option Elab.async false
set_option linter.all false
set_option maxRecDepth 100000
set_option maxHeartbeats 4000000
/-! G3: rows of marks below two as data. -/
namespace Z
open PySem PySem.Spec PyProof.Rows L2
def bI (b : Bool) : Int := if b then 1 else 0
def rowI (r : List Bool) : List Int := r.map bI
abbrev rowD (r : List Bool) : D := tI (rowI r)
abbrev rowsD (B : List (List Bool)) : List D := B.map rowD
theorem solid_rowD (r : List Bool) : solid (rowD r) = true := solid_tI _
theorem solids_rowsD (B : List (List Bool)) : solids (rowsD B) = true := solids_of fun r _ => solid_rowD r
theorem eqvAll_ints : ∀ xs ys : List Int, PyData.eqvAll (xs.map .int) (ys.map .int) = decide (xs = ys)
  | [], [] => by simp [PyData.eqvAll]
  | [], _ :: _ => by simp [PyData.eqvAll]
  | _ :: _, [] => by simp [PyData.eqvAll]
  | x :: xs, y :: ys => by
    simp only [List.map_cons, PyData.eqvAll, PyData.eqv, eqvAll_ints xs ys]
    by_cases h : x = y <;> by_cases k : xs = ys <;> simp [h, k]
theorem plain_ints (xs : List Int) : PyData.plainAll (xs.map .int) = true := plainAll_of fun d hd => by
  obtain ⟨x, _, rfl⟩ := List.mem_map.mp hd
  simp [PyData.plain, PyData.canLay0]
theorem depth_ints0 (xs : List Int) : PyData.depthAll (xs.map .int) = 0 := PySem.W.depth_ints xs
theorem plain_rowD (r : List Bool) : (rowD r).plain = true := by
  show PyData.plain (.tuple _) = true
  simp only [PyData.plain]
  exact plain_ints _
theorem depth_rowD (r : List Bool) : (rowD r).depth = 1 := by
  show PyData.depth (.tuple _) = 1
  simp only [PyData.depth]
  rw [depth_ints0]
theorem plain_rowsD (B : List (List Bool)) : PyData.plainAll (rowsD B) = true := plainAll_of fun d hd => by
  obtain ⟨x, _, rfl⟩ := List.mem_map.mp hd
  exact plain_rowD x
theorem depth_rowsD (B : List (List Bool)) : PyData.depthAll (rowsD B) ≤ 1 := depthAll_of fun d hd => by
  obtain ⟨x, _, rfl⟩ := List.mem_map.mp hd
  exact Nat.le_of_eq (depth_rowD x)
theorem fEq_bI {neg : Bool} {a b : Bool} {R : D → Prop} (h : R (.bool (if neg then !(a == b) else (a == b)))) : fEq neg (.int (bI a)) (.int (bI b)) R := fEq_int (by
  have : (bI a == bI b) = (a == b) := by cases a <;> cases b <;> rfl
  rw [this]
  exact h)
/-- a mark is one -/
theorem fEq_one {neg : Bool} {a : Bool} {R : D → Prop} (h : R (.bool (if neg then !a else a))) : fEq neg (.int (bI a)) (.int 1) R := fEq_int (by
  have : (bI a == 1) = a := by cases a <;> rfl
  rw [this]
  exact h)
theorem fIn_one {r : List Bool} {R : D → Prop} (h : R (.bool (r.contains true))) : fIn false (.int 1) (rowD r) R := by
  refine ⟨by simp [PyData.plain, PyData.canLay0], plain_ints _, by rw [depth_ints0]; simp, ?_⟩
  have e : ((rowI r).map PyData.int).any (fun z => PyData.eqv z (.int 1)) = r.contains true := by
    unfold rowI
    clear h
    induction r with
    | nil => rfl
    | cons b r ih =>
      simp only [List.map_cons, List.any_cons, List.contains_cons]
      rw [ih]
      cases b <;> simp [bI, PyData.eqv]
  simp only [Bool.false_eq_true, if_false]
  rw [e]
  exact h
theorem idx_one (r : List Bool) : (rowI r).idxOf 1 = lead r := by
  unfold rowI lead
  induction r with
  | nil => rfl
  | cons b r ih =>
    rw [List.map_cons, List.idxOf_cons, List.idxOf_cons, ih]
    cases b <;> rfl
theorem one_mem {r : List Bool} (h : true ∈ r) : (1 : Int) ∈ rowI r := List.mem_map.mpr ⟨true, h, rfl⟩
theorem at_rowD {r : List Bool} {p : Nat} (h : p < r.length) : ((rowI r).map PyData.int)[p]? = some (.int (bI (gt r p))) := by
  unfold rowI gt
  rw [List.getElem?_map, List.getElem?_map, List.getD_eq_getElem?_getD, List.getElem?_eq_getElem h]
  rfl
theorem fIx_rowD {r : List Bool} {p : Nat} {R : D → Prop} (h : p < r.length) (k : R (.int (bI (gt r p)))) : fIx (rowD r) (.int p) R := ⟨_, atI_ok (at_rowD h) rfl, k⟩
theorem bI_small (b : Bool) : (bI b).natAbs < 10 ^ 12 := by cases b <;> decide
theorem okI {xs : List Int} {n : Nat} (hn : xs.length ≤ n) (h : ∀ x ∈ xs, x.natAbs < 10 ^ 12) : Ok 1 (n * 15 + 3) (tI xs) :=
  Ok.tuple (fun d hd => by obtain ⟨x, hx, rfl⟩ := List.mem_map.mp hd; exact Ok.int (h x hx)) (by simpa using hn)
theorem ok_rowD {r : List Bool} {n : Nat} (h : r.length ≤ n) : Ok 1 (n * 15 + 3) (rowD r) := okI (by simpa [rowI] using h) fun x hx => by
  obtain ⟨b, _, rfl⟩ := List.mem_map.mp hx
  exact bI_small b
theorem ok_rowsD {B : List (List Bool)} {n m : Nat} (h : ∀ r ∈ B, r.length ≤ n) (k : B.length ≤ m) : Ok 2 (m * (n * 15 + 5) + 3) (.tuple (rowsD B)) :=
  Ok.tuple (fun d hd => by obtain ⟨x, hx, rfl⟩ := List.mem_map.mp hd; exact ok_rowD (h x hx)) (by simpa [rowsD] using k)
/-! ### sorted rows -/
theorem alike_rowD (a b : List Bool) : PySem.W.alike (rowD a) (rowD b) = true := by
  show PySem.W.alike (.tuple _) (.tuple _) = true
  simp only [PySem.W.alike]
  exact PySem.W.alike_ints _ _
theorem sortOk_rowsD {B : List (List Bool)} {n : Nat} (h : Len (n + 1) B) (k : B.length ≤ 10000000) : SortOk (rowsD B) := by
  refine ⟨plain_rowsD B, PySem.W.AllAlike.of alike_rowD, .inl fun d hd => ?_, by simpa [rowsD] using k, Nat.le_trans (depth_rowsD B) (by decide)⟩
  obtain ⟨r, hr, rfl⟩ := List.mem_map.mp hd
  have hl := h r hr
  cases r with
  | nil => simp at hl
  | cons x xs => exact ⟨_, _, rfl⟩
theorem dataLe_up : PySem.W.dataLe (β := List Bool) false rowD = fun a b => decide (rowI a ≤ rowI b) := by
  funext a b
  show (!PySem.W.dataLt (.tuple ((rowI b).map .int)) (.tuple ((rowI a).map .int))) = _
  rw [PySem.W.dataLt_tuple]
  show (!PySem.W.rowLt ((rowI b).map .int) ((rowI a).map .int)) = _
  rw [PySem.W.dataLt_ints]
  by_cases h : rowI b < rowI a
  · have h' : ¬ rowI a ≤ rowI b := fun r => List.not_lt.mpr r h
    simp [h, h']
  · have h' : rowI a ≤ rowI b := List.not_lt.mp h
    simp [h, h']
theorem dataLe_down : PySem.W.dataLe (β := List Bool) true rowD = fun a b => decide (rowI b ≤ rowI a) := by
  funext a b
  have := congrFun (congrFun dataLe_up b) a
  exact this
theorem sortD_map (b : Bool) (B : List (List Bool)) : sortD b (rowsD B) = rowsD (B.mergeSort (PySem.W.dataLe b rowD)) := by
  have := List.map_mergeSort (r := PySem.W.dataLe (β := List Bool) b rowD) (s := PySem.W.dataLe b id) (f := rowD) (l := B) (fun a _ b' _ => rfl)
  exact this.symm
theorem sort_pairs (b : Bool) (B : List (List Bool)) : (B.mergeSort (PySem.W.dataLe b rowD)).Pairwise fun x y => PySem.W.dataLe b rowD x y = true :=
  have t := PySem.W.sortLe_total (PyProof.Rows.listOrd PyProof.Rows.itemOrd) b (fun r : List Bool => PySem.W.keyToks (rowD r))
  List.pairwise_mergeSort t.trans (fun a b => by rw [Bool.or_eq_true]; exact t.total a b) B
theorem lex_lead : ∀ {a b : List Bool}, a.length = b.length → true ∈ b → lead b < lead a → rowI a < rowI b
  | [], [], _, h, _ => by cases h
  | [], _ :: _, h, _, _ => by simp at h
  | _ :: _, [], h, _, _ => by simp at h
  | x :: xs, y :: ys, hl, hm, hlt => by
    unfold lead at hlt
    rw [List.idxOf_cons, List.idxOf_cons] at hlt
    show (bI x :: rowI xs) < (bI y :: rowI ys)
    rw [List.cons_lt_cons_iff]
    cases x with
    | true => simp at hlt
    | false =>
      cases y with
      | true => exact .inl (by decide)
      | false =>
        refine .inr ⟨rfl, lex_lead (by simpa using hl) (by simpa using hm) ?_⟩
        simpa [lead] using hlt
/-- sorted downwards: by ascending leads -/
theorem sort_asc {n : Nat} {B : List (List Bool)} (r : Red n B) : (B.mergeSort (PySem.W.dataLe true rowD)).Perm B ∧ (B.mergeSort (PySem.W.dataLe true rowD)).Pairwise fun a b => lead a < lead b := by
  have p : (B.mergeSort (PySem.W.dataLe true rowD)).Perm B := List.mergeSort_perm _ _
  refine ⟨p, ?_⟩
  have nd := p.nodup_iff.mpr r.nd
  refine List.Pairwise.imp_of_mem (fun {a b} ha hb h => ?_) ((sort_pairs true B).and nd)
  obtain ⟨h1, h2⟩ := h
  have ma := p.mem_iff.mp ha
  have mb := p.mem_iff.mp hb
  rw [dataLe_down] at h1
  have h3 := of_decide_eq_true h1
  rcases Nat.lt_trichotomy (lead a) (lead b) with z | z | z
  · exact z
  · have := r.un a ma b mb h2
    rw [← z, lead_gt (r.ne a ma)] at this
    cases this
  · exact (List.not_lt.mpr h3 (lex_lead (by rw [r.len a ma, r.len b mb]) (r.ne b mb) z)).elim
/-! ### walks over rows -/
theorem row_ints (r : List Bool) : (rowI r).map PyData.int = r.map fun b => .int (bI b) := by simp [rowI, List.map_map, Function.comp_def]
theorem zipD_map {α β : Type} (f : α → D) (g : β → D) : ∀ (xs : List α) (ys : List β), zipD (xs.map f) (ys.map g) = (xs.zip ys).map fun p => .tuple [f p.1, g p.2]
  | [], _ => rfl
  | _ :: _, [] => rfl
  | x :: xs, y :: ys => by
    have := zipD_map f g xs ys
    unfold zipD at this ⊢
    rw [List.map_cons, List.map_cons, List.zipWith_cons_cons, List.zip_cons_cons, List.map_cons, this]
theorem xr_zip : ∀ (a b : List Bool), ((a.zip b).map fun p => (.int (bI (p.1 ^^ p.2)) : D)) = (rowI (xr a b)).map .int
  | [], _ => rfl
  | _ :: _, [] => rfl
  | x :: xs, y :: ys => by
    have := xr_zip xs ys
    rw [List.zip_cons_cons, List.map_cons, this]
    rfl
theorem xr_enum {a b : List Bool} (h : a.length = b.length) : (a.zipIdx.map fun p => (.int (bI (p.1 ^^ gt b p.2)) : D)) = (rowI (xr a b)).map .int := by
  rw [← xr_zip]
  apply List.ext_getElem?
  intro i
  rw [List.getElem?_map, List.getElem?_map, List.getElem?_zipIdx]
  by_cases hi : i < a.length
  · rw [List.getElem?_eq_getElem hi, List.getElem?_eq_getElem (by rw [List.length_zip]; omega)]
    simp [gt, List.getD_eq_getElem?_getD, h ▸ hi]
  · rw [List.getElem?_eq_none (by omega), List.getElem?_eq_none (by rw [List.length_zip]; omega)]
    rfl
theorem solid_mem : ∀ {xs : List D}, solids xs = true → ∀ x ∈ xs, solid x = true
  | y :: ys, h, x, hx => by
    simp only [solids, Bool.and_eq_true] at h
    rcases List.mem_cons.mp hx with rfl | hx
    · exact h.1
    · exact solid_mem h.2 x hx
theorem at_mem {xs : List D} {k : Int} (k0 : 0 ≤ k) (k1 : k < xs.length) : ∃ x, x ∈ xs ∧ atI xs k = some x := by
  obtain ⟨j, rfl⟩ := Int.eq_ofNat_of_zero_le k0
  have hj : j < xs.length := by omega
  exact ⟨xs[j], List.getElem_mem hj, atI_ok (List.getElem?_eq_getElem hj) rfl⟩
theorem perm_map {α β : Type} {f : α → β} {as bs : List β} (p : as.Perm bs) : ∀ {F : List α}, bs = F.map f → ∃ G : List α, G.Perm F ∧ as = G.map f := by
  induction p with
  | nil => exact fun h => ⟨_, List.Perm.refl _, h⟩
  | cons x _ ih =>
    intro F h
    cases F with
    | nil => cases h
    | cons a F =>
      rw [List.map_cons, List.cons.injEq] at h
      obtain ⟨G, g1, g2⟩ := ih h.2
      exact ⟨a :: G, g1.cons a, by rw [List.map_cons, h.1, g2]⟩
  | swap x y l =>
    intro F h
    match F, h with
    | a :: b :: F, h =>
      rw [List.map_cons, List.map_cons, List.cons.injEq, List.cons.injEq] at h
      exact ⟨b :: a :: F, List.Perm.swap a b F, by rw [List.map_cons, List.map_cons, h.1, h.2.1, h.2.2]⟩
  | trans _ _ ih1 ih2 =>
    intro F h
    obtain ⟨G, g1, g2⟩ := ih2 h
    obtain ⟨G', g3, g4⟩ := ih1 g2
    exact ⟨G', g3.trans g1, g4⟩
theorem fEq_eq {x : Str} {R : D → Prop} (h : R (.bool false)) : fEq true (.str x) (.str x) R := fEq_str (by simpa using h)
theorem cutL_take {α : Type} (xs : List α) (k : Nat) : cutL xs none (some (k : Int)) = xs.take k := by
  unfold cutL
  rw [HT.sIx_none, HT.sIx_nat, List.drop_zero, Nat.sub_zero]
  rcases Nat.le_total k xs.length with h | h
  · rw [Nat.min_eq_left h]
  · rw [Nat.min_eq_right h, List.take_of_length_le (Nat.le_refl _), List.take_of_length_le h]
end Z
set_option Elab.async false
set_option linter.all false
/-! G4: rows by numbers. -/
namespace Z
section
variable {n : Nat} {B S : List (List Bool)}
def bN (b : Bool) : Nat := if b then 1 else 0
/-! ### numbers ascend as rows do -/
/-! ### all sums -/
/-! ### independent rows -/
theorem toldP_len (B : List (List Bool)) : (toldP B).length ≤ B.length := by
  have step : ∀ (B : List (List Bool)) (h : List Bool), (stepP B h).length ≤ B.length + 1 := fun B h => by
    unfold stepP
    split <;> simp
  have go : ∀ (rows B : List (List Bool)), (rows.foldl stepP B).length ≤ B.length + rows.length := fun rows => by
    induction rows with
    | nil => intro B; simp
    | cons h rows ih =>
      intro B
      have h1 := ih (stepP B h)
      have h2 := step B h
      simp only [List.foldl_cons, List.length_cons]
      omega
  have := go B []
  unfold toldP
  simpa using this
theorem rref_ex (h : Len n B) : ∃ S, Rref n B S ∧ S.length ≤ B.length := by
  obtain ⟨r, sp⟩ := told_red h
  obtain ⟨p, asc⟩ := sort_asc r
  exact ⟨_, Rref.of_perm r sp p asc, by rw [p.length_eq]; exact toldP_len B⟩
end
end Z
set_option Elab.async false
set_option linter.all false
/-! G5: even rows. -/
namespace Z
section
variable {n : Nat} {B S T : List (List Bool)}
/-- the row with marks at some places -/
def mkRow (n : Nat) (L : List Nat) : List Bool := (List.range n).map fun q => L.contains q
theorem mkRow_len (n : Nat) (L : List Nat) : (mkRow n L).length = n := by simp [mkRow]
/-! ### the free rows -/
/-! ### how many -/
theorem nodup_sub_len {α : Type} [BEq α] [LawfulBEq α] : ∀ (A M : List α), A.Nodup → (∀ a ∈ A, a ∈ M) → A.length ≤ M.length
  | [], M, _, _ => Nat.zero_le _
  | a :: A, M, nd, hs => by
    have nd' := List.nodup_cons.mp nd
    have ha := hs a (List.mem_cons_self ..)
    have ih := nodup_sub_len A (M.erase a) nd'.2 fun b hb => (List.mem_erase_of_ne fun e => nd'.1 (by rw [← e]; exact hb)).mpr (hs b (List.mem_cons_of_mem _ hb))
    have := List.length_erase_of_mem ha
    have := List.length_pos_of_mem ha
    simp only [List.length_cons]
    omega
/-! ### all rows -/
end
/-! ### as data -/
open PySem PySem.Spec PyProof.Rows L2
abbrev natD (k : Nat) : D := .int ((k : Nat) : Int)
theorem rangeD_nats (n : Nat) : rangeD 0 n 1 = (List.range n).map natD := by
  apply List.ext_getElem?
  intro i
  rcases Nat.lt_or_ge i n with z | z
  · rw [List.getElem?_map, List.getElem?_range z]
    cases e : (rangeD 0 n 1)[i]? with
    | none =>
      rw [List.getElem?_eq_none_iff, rangeD_len] at e
      omega
    | some x =>
      rw [(range_at e).2]
      rfl
  · rw [List.getElem?_eq_none (by rw [rangeD_len]; omega), List.getElem?_eq_none (by rw [List.length_map, List.length_range]; exact z)]
theorem any_nats (x : Nat) : ∀ L : List Nat, ((L.map natD).any fun z => PyData.eqv z (natD x)) = L.contains x
  | [] => rfl
  | k :: L => by
    rw [List.map_cons, List.any_cons, any_nats x L, List.contains_cons]
    congr 1
    show PyData.eqv (.int _) (.int _) = _
    simp only [PyData.eqv]
    rw [Bool.eq_iff_iff]
    simp only [beq_iff_eq, decide_eq_true_eq]
    omega
theorem plain_nats (L : List Nat) : PyData.plainAll (L.map natD) = true := plainAll_of fun d hd => by
  obtain ⟨x, _, rfl⟩ := List.mem_map.mp hd
  simp [PyData.plain, PyData.canLay0]
theorem depth_nats (L : List Nat) : PyData.depthAll (L.map natD) = 0 := by
  have := PySem.W.depth_ints (L.map fun k => ((k : Nat) : Int))
  rw [List.map_map] at this
  exact this
theorem fIn_natsL {neg : Bool} {x : Nat} {L : List Nat} {R : D → Prop} (h : R (.bool (if neg then !L.contains x else L.contains x))) : fIn neg (natD x) (.list (L.map natD)) R :=
  ⟨by simp [PyData.plain, PyData.canLay0], plain_nats L, by rw [depth_nats]; simp, by rw [any_nats]; exact h⟩
theorem fIn_natsT {neg : Bool} {x : Nat} {L : List Nat} {R : D → Prop} (h : R (.bool (if neg then !L.contains x else L.contains x))) : fIn neg (natD x) (.tuple (L.map natD)) R :=
  ⟨by simp [PyData.plain, PyData.canLay0], plain_nats L, by rw [depth_nats]; simp, by rw [any_nats]; exact h⟩
theorem solids_nats (L : List Nat) : solids (L.map natD) = true := solids_of fun k _ => solid_int _
theorem mkRow_data (n : Nat) (L : List Nat) : ((List.range n).map fun q => (.int (bI (L.contains q)) : D)) = (rowI (mkRow n L)).map .int := by
  unfold rowI mkRow
  rw [List.map_map, List.map_map]
  rfl
theorem ix0 {x : D} {xs : List D} {P : D → Prop} : (∃ d, atI (x :: xs) 0 = some d ∧ P d) = P x :=
  propext ⟨fun ⟨d, e, h⟩ => by
    have e' : atI (x :: xs) 0 = some x := atI_ok (j := 0) rfl rfl
    rw [e'] at e
    rw [← Option.some.inj e] at h
    exact h, fun h => ⟨x, atI_ok (j := 0) rfl rfl, h⟩⟩
theorem ix1 {x y : D} {xs : List D} {P : D → Prop} : (∃ d, atI (x :: y :: xs) 1 = some d ∧ P d) = P y :=
  propext ⟨fun ⟨d, e, h⟩ => by
    have e' : atI (x :: y :: xs) 1 = some y := atI_ok (j := 1) rfl rfl
    rw [e'] at e
    rw [← Option.some.inj e] at h
    exact h, fun h => ⟨y, atI_ok (j := 1) rfl rfl, h⟩⟩
/-- a list of ones is empty -/
theorem fEq_ones_nil {α : Type} {neg : Bool} {B : List α} {R : D → Prop} (h : R (.bool (if neg then !B.isEmpty else B.isEmpty))) : fEq neg (.list (B.map fun _ => (.int 1 : D))) (.list []) R := by
  refine ⟨?_, by simp [PyData.plain, PyData.plainAll], ?_, ?_⟩
  · simp only [PyData.plain]
    exact plainAll_of fun d hd => by
      obtain ⟨x, _, rfl⟩ := List.mem_map.mp hd
      simp [PyData.plain, PyData.canLay0]
  · simp only [PyData.depth, PyData.depthAll]; omega
  · have e : PyData.eqv (.list (B.map fun _ => (.int 1 : D))) (.list []) = B.isEmpty := by cases B <;> simp [PyData.eqv, PyData.eqvAll]
    rw [e]
    exact h
end Z
set_option Elab.async false
set_option linter.all false
set_option maxRecDepth 100000
set_option maxHeartbeats 4000000
/-! G6: sums and meets of codes. -/
namespace Z
section
variable {n : Nat} {A B C S T U : List (List Bool)}
theorem len_app (h : Len n A) (k : Len n B) : Len n (A ++ B) := fun b hb => (List.mem_append.mp hb).elim (h b) (k b)
theorem sp_left {v : List Bool} (s : Sp n A v) : Sp n (A ++ B) v := s.mono fun b hb => List.mem_append_left _ hb
end
open PySem PySem.Spec PyProof.Rows L2
end Z
set_option Elab.async false
set_option linter.all false
set_option maxRecDepth 100000
set_option maxHeartbeats 4000000
/-! G7: rows seen at places; kernels and images. -/
namespace Z
/-- a map of rows that keeps sums -/
structure Lin (n m : Nat) (f : List Bool → List Bool) : Prop where
  len : ∀ v, v.length = n → (f v).length = m
  add : ∀ u v, u.length = n → v.length = n → f (xr u v) = xr (f u) (f v)
  zer : f (nul n) = nul m
section
variable {n m : Nat} {A B C S T U : List (List Bool)} {f : List Bool → List Bool}
theorem Lin.sp (h : Lin n m f) (hB : Len n B) (w : List Bool) : Sp m (B.map f) w ↔ ∃ u, Sp n B u ∧ w = f u := by
  constructor
  · intro s
    induction s with
    | zero => exact ⟨nul n, .zero, h.zer.symm⟩
    | @add b v hb hv ih =>
      obtain ⟨c, hc, rfl⟩ := List.mem_map.mp hb
      obtain ⟨u, hu, rfl⟩ := ih
      exact ⟨xr c u, .add hc hu, (h.add c u (hB c hc) (hu.len hB)).symm⟩
  · rintro ⟨u, hu, rfl⟩
    induction hu with
    | zero => rw [h.zer]; exact .zero
    | @add b v hb hv ih =>
      rw [h.add b v (hB b hb) (hv.len hB)]
      exact .add (List.mem_map.mpr ⟨b, hb, rfl⟩) ih
/-! ### places -/
def atP (P : List Nat) (v : List Bool) : List Bool := P.map fun p => gt v p
/-- the row with told marks at places, noughts elsewhere -/
def extP (n : Nat) (P : List Nat) (v : List Bool) : List Bool := (List.range n).map fun q => gt v (P.idxOf q) && P.contains q
/-! ### the code left at places -/
structure LeftAt (n : Nat) (B : List (List Bool)) (P : List Nat) (L : List (List Bool)) : Prop where
  red : Red P.length L
  asc : L.Pairwise fun a b => lead a < lead b
  span : ∀ v, Sp P.length L v ↔ v.length = P.length ∧ Sp n B (extP n P v)
theorem LeftAt.unique {P : List Nat} {L M : List (List Bool)} (h : LeftAt n B P L) (k : LeftAt n B P M) : L = M :=
  Rref.unique (rows := L) ⟨h.red, h.asc, fun v => Iff.rfl⟩ ⟨k.red, k.asc, fun v => (k.span v).trans (h.span v).symm⟩
end
open PySem PySem.Spec PyProof.Rows L2
end Z
set_option Elab.async false
set_option linter.all false
set_option maxRecDepth 100000
set_option maxHeartbeats 4000000
/-! G8: rows made of rows, bases changed. -/
namespace Z
section
variable {n k : Nat} {A B C S T : List (List Bool)}
/-- the places of the marks -/
def idxs (c : List Bool) : List Nat := (List.range c.length).filter fun i => gt c i
theorem mem_idxs {c : List Bool} {i : Nat} : i ∈ idxs c ↔ gt c i = true := by
  unfold idxs
  rw [List.mem_filter, List.mem_range]
  refine ⟨fun z => z.2, fun z => ⟨Nat.lt_of_not_le fun h => (by rw [gt_out h] at z; cases z), z⟩⟩
theorem idxs_lt {c : List Bool} {i : Nat} (h : i ∈ idxs c) : i < c.length := by
  unfold idxs at h
  exact List.mem_range.mp (List.mem_filter.mp h).1
/-! ### a base with another row -/
/-! ### rows taken down by others -/
end
open PySem PySem.Spec PyProof.Rows L2
/-! ### as data -/
theorem dataLe_nats : PySem.W.dataLe (β := Nat) false natD = fun a b => decide (a ≤ b) := by
  funext a b
  show (!PySem.W.dataLt (.int ((b : Nat) : Int)) (.int ((a : Nat) : Int))) = _
  rw [PySem.W.dataLt_int]
  by_cases h : b < a
  · have h1 : (b : Int) < (a : Int) := by omega
    have h2 : ¬ a ≤ b := by omega
    simp [h1, h2]
  · have h1 : ¬ (b : Int) < (a : Int) := by omega
    have h2 : a ≤ b := by omega
    simp [h1, h2]
theorem sortOk_nats {L : List Nat} (h : L.length ≤ 10000000) : SortOk (L.map natD) := by
  refine ⟨plain_nats L, PySem.W.AllAlike.of (fun a b => ?_), .inr fun d hd => ?_, by simpa using h, by rw [depth_nats]; omega⟩
  · show PySem.W.alike (.int _) (.int _) = true
    simp only [PySem.W.alike]
  · obtain ⟨x, _, rfl⟩ := List.mem_map.mp hd
    exact ⟨(by intro z; cases z), (by intro xs z; cases z)⟩
theorem cutL_drop {α : Type} (xs : List α) (k : Nat) : cutL xs (some (k : Int)) none = xs.drop k := by
  unfold cutL
  rw [HT.sIx_none, HT.sIx_nat]
  rcases Nat.le_total k xs.length with h | h
  · rw [Nat.min_eq_left h, List.take_of_length_le (by rw [List.length_drop]; omega)]
  · rw [Nat.min_eq_right h, Nat.sub_self, List.take_zero, List.drop_eq_nil_of_le h]
end Z
set_option Elab.async false
set_option linter.all false
set_option maxRecDepth 100000
set_option maxHeartbeats 4000000
/-! G9: rows of any marks. -/
namespace Z
open PySem PySem.Spec PyProof.Rows L2
/-! ### sorted rows -/
theorem sortOk_tI {L : List (List Int)} (h : ∀ r ∈ L, r ≠ []) (k : L.length ≤ 10000000) : SortOk (L.map tI) := by
  have pl : ∀ r : List Int, (tI r).plain = true := fun r => by
    show PyData.plain (.tuple _) = true
    simp only [PyData.plain]
    exact plain_ints _
  have dp : ∀ r : List Int, (tI r).depth = 1 := fun r => by
    show PyData.depth (.tuple _) = 1
    simp only [PyData.depth]
    rw [depth_ints0]
  refine ⟨plainAll_of fun d hd => ?_, PySem.W.AllAlike.of (fun a b => ?_), .inl fun d hd => ?_, by simpa using k, Nat.le_trans (depthAll_of (k := 1) fun d hd => ?_) (by decide)⟩
  · obtain ⟨r, _, rfl⟩ := List.mem_map.mp hd
    exact pl r
  · show PySem.W.alike (.tuple _) (.tuple _) = true
    simp only [PySem.W.alike]
    exact PySem.W.alike_ints _ _
  · obtain ⟨r, hr, rfl⟩ := List.mem_map.mp hd
    cases r with
    | nil => exact (h _ hr rfl).elim
    | cons x xs => exact ⟨_, _, rfl⟩
  · obtain ⟨r, _, rfl⟩ := List.mem_map.mp hd
    exact Nat.le_of_eq (dp r)
/-! ### the greatest mark -/
end Z
set_option Elab.async false
set_option linter.all false
set_option maxRecDepth 100000
set_option maxHeartbeats 4000000
/-! G10: rows as numbers, place k for 2 to the k. -/
namespace Z
open PySem PySem.Spec PyProof.Rows L2
section
variable {n m : Nat} {A B C S T U : List (List Bool)} {f : List Bool → List Bool}
def numB : List Bool → Nat
  | [] => 0
  | b :: bs => bN b + 2 * numB bs
/-- the last place with a mark -/
def top : List Bool → Nat
  | [] => 0
  | b :: bs => if bs.contains true then top bs + 1 else 0
/-! ### numbers solved -/
end
end Z
set_option Elab.async false
set_option linter.all false
set_option maxRecDepth 100000
set_option maxHeartbeats 4000000
/-! G11: ranks at places, widths. -/
set_option Elab.async false
set_option linter.all false
set_option maxRecDepth 100000
set_option maxHeartbeats 4000000
/-! G12: how many rows of a code are noughts on places, or beside them; how many sums they have. -/
set_option Elab.async false
set_option linter.all false
set_option maxRecDepth 100000
set_option maxHeartbeats 4000000
/-! G13: heads with their places, as data. -/
namespace Z
open PySem PySem.Spec PyProof.Rows L2
section
variable {n : Nat} {B S : List (List Bool)}
theorem lead_kept {r k : List Bool} (hr : true ∈ r) (hk : true ∈ k) (l : r.length = k.length) (h : gt k (lead r) = false) : lead (if gt r (lead k) then xr r k else r) = lead r := by
  by_cases c : gt r (lead k) = true
  · rw [if_pos c]
    refine lead_eq (by rw [gt_xr l, lead_gt hr, h]; rfl) fun q hq => ?_
    have := lead_le c
    rw [gt_xr l, lead_below hq, lead_below (by omega)]
    rfl
  · rw [if_neg c]
end
end Z
set_option Elab.async false
set_option linter.all false
set_option maxRecDepth 100000
set_option maxHeartbeats 4000000
/-! G14: values of all kinds: how great they are, how they may be bent; what is a tuple of numbers below a bound, a row. -/
namespace Z
open PySem PySem.Spec PyProof.Rows L2
mutual
/-- an upper bound on how many signs show it -/
def wg : D → Nat
  | .none => 5
  | .bool _ => 6
  | .int _ => 15
  | .str x => (PyData.str x).shown.length
  | .list ds => wgs ds + 4
  | .tuple ds => wgs ds + 4
  | .dict kvs => wgk kvs + 4
def wgs : List D → Nat
  | [] => 0
  | d :: ds => wg d + 2 + wgs ds
def wgk : List (D × D) → Nat
  | [] => 0
  | (_, d) :: r => wg d + 2 + wgk r
end
mutual
/-- what never changes, its ints at most m either way -/
def good (m : Nat) : D → Bool
  | .none => true
  | .bool _ => true
  | .int i => decide (i.natAbs ≤ m)
  | .str _ => true
  | .list _ => false
  | .tuple ds => goods m ds
  | .dict kvs => (isFrz kvs && goodk m kvs) || (isFrd kvs && kvs.length == 1)
def goods (m : Nat) : List D → Bool
  | [] => true
  | d :: ds => good m d && goods m ds
def goodk (m : Nat) : List (D × D) → Bool
  | [] => true
  | (_, d) :: r => good m d && goodk m r
end
theorem goods_all {m : Nat} : ∀ {ds : List D}, goods m ds = true ↔ ∀ d ∈ ds, good m d = true
  | [] => by simp [goods]
  | d :: ds => by simp [goods, goods_all]
mutual
theorem good_can {m : Nat} : ∀ d : D, good m d = true → canT d = true
  | .none, _ => by simp [canT]
  | .bool _, _ => by simp [canT]
  | .int _, _ => by simp [canT]
  | .str _, _ => by simp [canT]
  | .list _, h => by simp [good] at h
  | .tuple ds, h => by
    simp only [canT]
    exact goods_can ds (by simpa only [good] using h)
  | .dict kvs, h => by
    simp only [good, Bool.or_eq_true, Bool.and_eq_true] at h
    simp only [canT, Bool.or_eq_true, Bool.and_eq_true]
    exact h.imp (fun z => ⟨z.1, goodk_can kvs z.2⟩) id
theorem goods_can {m : Nat} : ∀ ds : List D, goods m ds = true → canTs ds = true
  | [], _ => by simp [canTs]
  | d :: ds, h => by
    simp only [goods, Bool.and_eq_true] at h
    simp only [canTs, good_can d h.1, goods_can ds h.2, Bool.and_self]
theorem goodk_can {m : Nat} : ∀ ds : List (D × D), goodk m ds = true → canTk ds = true
  | [], _ => by simp [canTk]
  | (_, d) :: ds, h => by
    simp only [goodk, Bool.and_eq_true] at h
    simp only [canTk, good_can d h.1, goodk_can ds h.2, Bool.and_self]
end
mutual
theorem good_solid {m : Nat} : ∀ d : D, good m d = true → solid d = true
  | .none, _ => by simp [solid]
  | .bool _, _ => by simp [solid]
  | .int _, _ => by simp [solid]
  | .str _, _ => by simp [solid]
  | .list _, h => by simp [good] at h
  | .tuple ds, h => by
    simp only [solid]
    exact goods_solid ds (by simpa only [good] using h)
  | .dict kvs, h => by
    simp only [good, Bool.or_eq_true, Bool.and_eq_true] at h
    rcases h with ⟨z, _⟩ | ⟨z, _⟩
    · obtain ⟨r, rfl⟩ := isFrz_cons z
      simp [solid, isSrc, isFrz]
    · obtain ⟨r, rfl⟩ := isFrd_cons z
      simp [solid, isSrc, isFrd]
theorem goods_solid {m : Nat} : ∀ ds : List D, goods m ds = true → solids ds = true
  | [], _ => by simp [solids]
  | d :: ds, h => by
    simp only [goods, Bool.and_eq_true] at h
    simp only [solids, good_solid d h.1, goods_solid ds h.2, Bool.and_self]
end
mutual
theorem good_mono {m m' : Nat} (hm : m ≤ m') : ∀ d : D, good m d = true → good m' d = true
  | .none, _ => by simp [good]
  | .bool _, _ => by simp [good]
  | .int i, h => by
    simp only [good, decide_eq_true_eq] at h ⊢
    omega
  | .str _, _ => by simp [good]
  | .list _, h => by simp [good] at h
  | .tuple ds, h => by
    simp only [good]
    exact goods_mono hm ds (by simpa only [good] using h)
  | .dict kvs, h => by
    simp only [good, Bool.or_eq_true, Bool.and_eq_true] at h ⊢
    exact h.imp (fun z => ⟨z.1, goodk_mono hm kvs z.2⟩) id
theorem goods_mono {m m' : Nat} (hm : m ≤ m') : ∀ ds : List D, goods m ds = true → goods m' ds = true
  | [], _ => by simp [goods]
  | d :: ds, h => by
    simp only [goods, Bool.and_eq_true] at h ⊢
    exact ⟨good_mono hm d h.1, goods_mono hm ds h.2⟩
theorem goodk_mono {m m' : Nat} (hm : m ≤ m') : ∀ ds : List (D × D), goodk m ds = true → goodk m' ds = true
  | [], _ => by simp [goodk]
  | (_, d) :: ds, h => by
    simp only [goodk, Bool.and_eq_true] at h ⊢
    exact ⟨good_mono hm d h.1, goodk_mono hm ds h.2⟩
end
theorem log_small {i : Int} (h : i.natAbs ≤ 100000000000) : i.natAbs.log2 < 1920 := log2_small (Nat.lt_of_le_of_lt h (by decide))
mutual
theorem good_show {m : Nat} (hm : m ≤ 100000000000) : ∀ d : D, good m d = true → (thaw d).showable = true ∧ (thaw d).shown.length ≤ wg d
  | .none, _ => by
    simp only [thaw, wg]
    exact ⟨by decide, by decide⟩
  | .bool b, _ => by
    simp only [thaw, wg]
    cases b <;> exact ⟨by decide, by decide⟩
  | .int i, h => by
    simp only [good, decide_eq_true_eq] at h
    simp only [thaw, wg, PyData.showable, decide_eq_true_eq]
    exact ⟨log_small (Nat.le_trans h hm), Nat.le_trans (PyData.shown_int_le (show i.natAbs < 10 ^ 12 from Nat.lt_of_le_of_lt (Nat.le_trans h hm) (by decide))) (by decide)⟩
  | .str x, _ => by
    simp only [thaw, wg, PyData.showable]
    exact ⟨trivial, Nat.le_refl _⟩
  | .list _, h => by simp [good] at h
  | .tuple ds, h => by
    obtain ⟨h1, h2⟩ := goods_show hm ds (by simpa only [good] using h)
    simp only [thaw, wg, PyData.showable, PyData.shown]
    refine ⟨h1, Nat.le_trans (tupleText_len_le _) ?_⟩
    omega
  | .dict kvs, h => by
    simp only [good, Bool.or_eq_true, Bool.and_eq_true] at h
    rcases h with ⟨z, hk⟩ | ⟨z, hl⟩
    · obtain ⟨r, rfl⟩ := isFrz_cons z
      simp only [goodk, Bool.and_eq_true] at hk
      obtain ⟨h1, h2⟩ := goodk_show hm r hk.2
      have e : thaw (.dict ((.bool true, .none) :: r)) = .list (thawk r) := by simp only [thaw, if_pos z, thawk, List.tail_cons]
      rw [e]
      simp only [wg, wgk, PyData.showable, PyData.shown]
      refine ⟨h1, Nat.le_trans (listText_len_le _) ?_⟩
      omega
    · obtain ⟨r, rfl⟩ := isFrd_cons z
      obtain rfl : r = [] := by simpa using hl
      rw [show thaw (.dict [(.bool false, .none)]) = .dict [] from thaw_frd]
      simp only [wg, wgk]
      exact ⟨by decide, by decide⟩
theorem goods_show {m : Nat} (hm : m ≤ 100000000000) : ∀ ds : List D, goods m ds = true → PyData.showableAll (thaws ds) = true ∧ ((PyData.shownAll (thaws ds)).map (·.length)).sum + 2 * (PyData.shownAll (thaws ds)).length ≤ wgs ds
  | [], _ => by simp [thaws, PyData.showableAll, PyData.shownAll, wgs]
  | d :: ds, h => by
    simp only [goods, Bool.and_eq_true] at h
    obtain ⟨a1, a2⟩ := good_show hm d h.1
    obtain ⟨b1, b2⟩ := goods_show hm ds h.2
    simp only [thaws, PyData.showableAll, PyData.shownAll, wgs, a1, b1, List.map_cons, List.sum_cons, List.length_cons]
    exact ⟨rfl, by omega⟩
theorem goodk_show {m : Nat} (hm : m ≤ 100000000000) : ∀ ds : List (D × D), goodk m ds = true → PyData.showableAll (thawk ds) = true ∧ ((PyData.shownAll (thawk ds)).map (·.length)).sum + 2 * (PyData.shownAll (thawk ds)).length ≤ wgk ds
  | [], _ => by simp [thawk, PyData.showableAll, PyData.shownAll, wgk]
  | (_, d) :: ds, h => by
    simp only [goodk, Bool.and_eq_true] at h
    obtain ⟨a1, a2⟩ := good_show hm d h.1
    obtain ⟨b1, b2⟩ := goodk_show hm ds h.2
    simp only [thawk, PyData.showableAll, PyData.shownAll, wgk, a1, b1, List.map_cons, List.sum_cons, List.length_cons]
    exact ⟨rfl, by omega⟩
end
/-- a value of any kind that never changes: ints at most m either way, at most k deep, shown by at most L signs -/
structure Vl (m k L : Nat) (d : D) : Prop where
  good : good m d = true
  dep : (thaw d).depth ≤ k
  wt : wg d ≤ L
theorem Vl.ok {m k L : Nat} {d : D} (h : Vl m k L d) (hm : m ≤ 100000000000) (hk : k ≤ 40) (hL : L ≤ 10000000) : OkT 40 10000000 d :=
  ⟨good_can _ h.good, Nat.le_trans h.dep hk, (good_show hm _ h.good).1, Nat.le_trans (good_show hm _ h.good).2 (Nat.le_trans h.wt hL)⟩
theorem Vl.solid {m k L : Nat} {d : D} (h : Vl m k L d) : solid d = true := good_solid _ h.good
theorem Vl.mono {m k L m' k' L' : Nat} {d : D} (h : Vl m k L d) (a : m ≤ m') (b : k ≤ k') (c : L ≤ L') : Vl m' k' L' d := ⟨good_mono a _ h.good, Nat.le_trans h.dep b, Nat.le_trans h.wt c⟩
theorem wgs_len : ∀ ds : List D, 2 * ds.length ≤ wgs ds
  | [] => by simp [wgs]
  | d :: ds => by
    have := wgs_len ds
    simp only [wgs, List.length_cons]
    omega
theorem depthAll_le {k : Nat} : ∀ {ds : List D}, PyData.depthAll (thaws ds) ≤ k ↔ ∀ d ∈ ds, (thaw d).depth ≤ k
  | [] => by simp [thaws, PyData.depthAll]
  | d :: ds => by
    simp only [thaws, PyData.depthAll, List.mem_cons, forall_eq_or_imp, Nat.max_le, depthAll_le]
/-- a tuple of such -/
theorem Vl.tuple {m k L : Nat} {ds : List D} (h : ∀ d ∈ ds, ∃ l, Vl m k l d) (w : wgs ds + 4 ≤ L) : Vl m (k + 1) L (.tuple ds) := by
  refine ⟨?_, ?_, ?_⟩
  · simp only [Z.good]
    exact goods_all.mpr fun d hd => let ⟨l, hl⟩ := h d hd; hl.good
  · simp only [thaw, PyData.depth]
    have : PyData.depthAll (thaws ds) ≤ k := depthAll_le.mpr fun d hd => let ⟨l, hl⟩ := h d hd; hl.dep
    omega
  · simp only [wg]
    exact w
theorem Vl.frz {m k L : Nat} {ds : List D} (h : ∀ d ∈ ds, ∃ l, Vl m k l d) (w : wgs ds + 15 ≤ L) : Vl m (k + 1) L (frzD ds) := by
  have gk : ∀ es : List D, (∀ d ∈ es, ∃ l, Vl m k l d) → goodk m (es.map fun d => (.bool true, d)) = true := fun es => by
    induction es with
    | nil => intro _; simp [goodk]
    | cons e es ih =>
      intro h
      simp only [List.map_cons, goodk, Bool.and_eq_true]
      exact ⟨let ⟨l, hl⟩ := h e (List.mem_cons_self ..); hl.good, ih fun d hd => h d (List.mem_cons_of_mem _ hd)⟩
  have wk : ∀ es : List D, wgk (es.map fun d => ((.bool true : D), d)) = wgs es := fun es => by
    induction es with
    | nil => simp [wgk, wgs]
    | cons e es ih => simp only [List.map_cons, wgk, wgs, ih]
  refine ⟨?_, ?_, ?_⟩
  · unfold frzD frzK
    simp only [Z.good, goodk, gk ds h]
    rfl
  · rw [thaw_frz]
    simp only [PyData.depth]
    have : PyData.depthAll (thaws ds) ≤ k := depthAll_le.mpr fun d hd => let ⟨l, hl⟩ := h d hd; hl.dep
    rw [thaws_map] at this
    omega
  · unfold frzD frzK
    simp only [wg, wgk, wk]
    omega
theorem Vl.parts {m k L : Nat} {ds : List D} (h : Vl m k L (.tuple ds)) : 1 ≤ k ∧ wgs ds + 4 ≤ L ∧ ∀ d ∈ ds, Vl m (k - 1) (wg d) d := by
  have h1 := h.good
  have h2 := h.dep
  have h3 := h.wt
  simp only [Z.good] at h1
  simp only [thaw, PyData.depth] at h2
  simp only [wg] at h3
  have h4 := goods_all.mp h1
  have h5 : PyData.depthAll (thaws ds) ≤ k - 1 := by omega
  exact ⟨by omega, h3, fun d hd => ⟨h4 d hd, depthAll_le.mp h5 d hd, Nat.le_refl _⟩⟩
theorem Vl.isi {m k L : Nat} {d : D} (h : Vl m k L d) : noFrz d := by
  cases d with
  | dict kvs =>
    have := h.good
    simp only [Z.good, Bool.or_eq_true, Bool.and_eq_true] at this
    rcases this with ⟨z, _⟩ | ⟨z, hl⟩
    · exact .inl z
    · obtain ⟨r, rfl⟩ := isFrd_cons z
      obtain rfl : r = [] := by simpa using hl
      exact .inr rfl
  | _ => trivial
theorem Vl.none {m k : Nat} : Vl m k 5 .none := ⟨by simp [Z.good], by simp [thaw, PyData.depth], by simp [wg]⟩
theorem Vl.bool {m k : Nat} {b : Bool} : Vl m k 6 (.bool b) := ⟨by simp [Z.good], by simp [thaw, PyData.depth], by simp [wg]⟩
theorem Vl.int {m k : Nat} {i : Int} (h : i.natAbs ≤ m) : Vl m k 15 (.int i) := ⟨by simp [Z.good, h], by simp [thaw, PyData.depth], by simp [wg]⟩
theorem Vl.str {m k : Nat} {x : Str} {L : Nat} (h : (PyData.str x).shown.length ≤ L) : Vl m k L (.str x) := ⟨by simp [Z.good], by simp [thaw, PyData.depth], by simpa [wg] using h⟩
theorem Vl.inner {m k L : Nat} {d : D} (h : Vl m k L d) (hL : L ≤ 10000000) : noFrz d ∧ ∀ xs, d = .tuple xs → xs.length ≤ 10000000 ∧ ∀ x ∈ xs, noFrz x := ⟨h.isi, fun xs e => by
  subst e
  obtain ⟨_, a, b⟩ := h.parts
  have := wgs_len xs
  exact ⟨by omega, fun x hx => (b x hx).isi⟩⟩
/-- a value and what lies in it has a type that is known, and is not too long -/
def inner (d : D) : Prop := noFrz d ∧ ∀ xs, d = .tuple xs → xs.length ≤ 10000000 ∧ ∀ x ∈ xs, noFrz x
theorem solids_iff : ∀ {xs : List D}, solids xs = true ↔ ∀ x ∈ xs, Z.solid x = true
  | [] => by simp [solids]
  | x :: xs => by simp [solids, solids_iff]
mutual
theorem thaw_plain : ∀ d : D, d.plain = true → canT d = true ∧ thaw d = d
  | .none, _ => by simp [canT, thaw]
  | .bool _, _ => by simp [canT, thaw]
  | .int _, _ => by simp [canT, thaw]
  | .str _, _ => by simp [canT, thaw]
  | .list ds, h => by
    obtain ⟨a, b⟩ := thaws_plain ds (by simpa only [PyData.plain] using h)
    simp only [canT, thaw, a, b, and_self]
  | .tuple ds, h => by
    obtain ⟨a, b⟩ := thaws_plain ds (by simpa only [PyData.plain] using h)
    simp only [canT, thaw, a, b, and_self]
  | .dict _, h => by simp [PyData.plain] at h
theorem thaws_plain : ∀ ds : List D, PyData.plainAll ds = true → canTs ds = true ∧ thaws ds = ds
  | [], _ => by simp [canTs, thaws]
  | d :: ds, h => by
    simp only [PyData.plainAll, Bool.and_eq_true] at h
    obtain ⟨a, b⟩ := thaw_plain d h.1
    obtain ⟨a', b'⟩ := thaws_plain ds h.2
    simp only [canTs, thaws, a, b, a', b', Bool.and_self, and_self]
end
theorem Ok.thaw {k w : Nat} {d : D} (h : Ok k w d) : Z.thaw d = d := (thaw_plain d h.plain).2
theorem Ok.okT {k w : Nat} {d : D} (h : Ok k w d) : OkT k w d := ⟨(thaw_plain d h.plain).1, by rw [h.thaw]; exact h.depth, by rw [h.thaw]; exact h.show', by rw [h.thaw]; exact h.len⟩
/-! ### tuples of numbers below a bound; rows -/
end Z
set_option Elab.async false
set_option linter.all false
set_option maxRecDepth 100000
set_option maxHeartbeats 4000000
/-! G15: told faults; sums of rows with some numbers; what is short. -/
set_option Elab.async false
set_option linter.all false
set_option maxHeartbeats 1000000
/-! G16: rows led place by place (stepped), ranks by columns, numbers of lots. Plain Lean. -/
namespace Z
open PySem
section
variable {n m : Nat} {B X : List (List Bool)}
theorem sp_perm {P Q : List (List Bool)} (p : P.Perm Q) {v : List Bool} : Sp n P v ↔ Sp n Q v := ⟨fun s => s.mono fun b hb => p.mem_iff.mp hb, fun s => s.mono fun b hb => p.mem_iff.mpr hb⟩
theorem sp_clear {p : Nat} {r : List Bool} (hr : r.length = n) (hX : Len n X) {v : List Bool} : Sp n (r :: X.map (clr p r)) v ↔ Sp n (r :: X) v := by
  have l1 : Len n (r :: X) := fun b hb => by
    rcases List.mem_cons.mp hb with rfl | hb
    · exact hr
    · exact hX b hb
  have l2 : Len n (r :: X.map (clr p r)) := fun b hb => by
    rcases List.mem_cons.mp hb with rfl | hb
    · exact hr
    · obtain ⟨c, hc, rfl⟩ := List.mem_map.mp hb
      exact clr_len hr (hX c hc)
  have h1 : Sp n (r :: X) r := Sp.mem l1 (List.mem_cons_self ..)
  have h2 : Sp n (r :: X.map (clr p r)) r := Sp.mem l2 (List.mem_cons_self ..)
  constructor
  · refine fun s => s.sub l1 fun b hb => ?_
    rcases List.mem_cons.mp hb with rfl | hb
    · exact h1
    · obtain ⟨c, hc, rfl⟩ := List.mem_map.mp hb
      exact clr_sp l1 h1 (Sp.mem l1 (List.mem_cons_of_mem _ hc))
  · refine fun s => s.sub l2 fun b hb => ?_
    rcases List.mem_cons.mp hb with rfl | hb
    · exact h2
    · exact sp_clr l2 hr (hX b hb) h2 (Sp.mem l2 (List.mem_cons_of_mem _ (List.mem_map.mpr ⟨b, hb, rfl⟩)))
/-- one place -/
def stepHL (st : List (Nat × List Bool) × List (List Bool)) (p : Nat) : List (Nat × List Bool) × List (List Bool) :=
  match st.2.zipIdx.filter fun q => gt q.1 p with
  | [] => st
  | q :: _ => ((st.1.map fun a => (a.1, clr p q.1 a.2)) ++ [(p, q.1)], (st.2.eraseIdx q.2).map (clr p q.1))
structure HL (n : Nat) (B : List (List Bool)) (Q : List Nat) (H : List (Nat × List Bool)) (L : List (List Bool)) : Prop where
  lenH : Len n (H.map (·.2))
  lenL : Len n L
  sp : ∀ v, Sp n (H.map (·.2) ++ L) v ↔ Sp n B v
  zer : ∀ q ∈ Q, ∀ r ∈ L, gt r q = false
  one : ∀ a ∈ H, a.1 ∈ Q ∧ gt a.2 a.1 = true
  apart : H.Pairwise fun a b => gt a.2 b.1 = false ∧ gt b.2 a.1 = false
  many : H.length + L.length = B.length
  up : (H.map (·.1)).Sublist Q
theorem HL.start (hB : Len n B) : HL n B [] [] B := ⟨fun b hb => (by cases hb), hB, fun v => Iff.rfl, fun q hq => (by cases hq), fun a ha => (by cases ha), .nil, by simp, by simp⟩
theorem zipIdx_get {α : Type} {L : List α} {q : α × Nat} (h : q ∈ L.zipIdx) : ∃ hq : q.2 < L.length, L[q.2] = q.1 := by
  obtain ⟨x, j⟩ := q
  have := List.mem_zipIdx h
  refine ⟨by omega, ?_⟩
  have := this.2.2
  simp only [Nat.sub_zero] at this
  exact this.symm
theorem perm_at {α : Type} : ∀ (L : List α) (j : Nat) (h : j < L.length), L.Perm (L[j] :: L.eraseIdx j)
  | a :: L, 0, _ => List.Perm.refl _
  | a :: L, j + 1, h => by
    have ih := perm_at L j (by simpa using h)
    exact (ih.cons a).trans (List.Perm.swap ..)
theorem HL.step {Q : List Nat} {H : List (Nat × List Bool)} {L : List (List Bool)} (h : HL n B Q H L) (p : Nat) : HL n B (Q ++ [p]) (stepHL (H, L) p).1 (stepHL (H, L) p).2 := by
  unfold stepHL
  simp only
  cases e : L.zipIdx.filter fun q => gt q.1 p with
  | nil =>
    refine ⟨h.lenH, h.lenL, h.sp, fun q hq r hr => ?_, fun a ha => ⟨List.mem_append_left _ (h.one a ha).1, (h.one a ha).2⟩, h.apart, h.many, h.up.trans (List.sublist_append_left ..)⟩
    rcases List.mem_append.mp hq with hq | hq
    · exact h.zer q hq r hr
    · rw [List.mem_singleton.mp hq]
      obtain ⟨j, hj, rfl⟩ := List.mem_iff_getElem.mp hr
      have := List.filter_eq_nil_iff.mp e (L[j], j) (List.mem_zipIdx_iff_getElem?.mpr (List.getElem?_eq_getElem hj))
      simpa using this
  | cons q more =>
    have hm : q ∈ L.zipIdx.filter fun q => gt q.1 p := by rw [e]; exact List.mem_cons_self ..
    obtain ⟨hz, hg⟩ := List.mem_filter.mp hm
    obtain ⟨hj, ej⟩ := zipIdx_get hz
    obtain ⟨r, j⟩ := q
    simp only at hz hg hj ej ⊢
    have hr : r ∈ L := by rw [← ej]; exact List.getElem_mem hj
    have lr := h.lenL r hr
    have pe : L.Perm (r :: L.eraseIdx j) := by have := perm_at L j hj; rw [ej] at this; exact this
    have le : Len n (L.eraseIdx j) := fun b hb => h.lenL b (List.mem_of_mem_eraseIdx hb)
    have lH : ∀ a ∈ H, a.2.length = n := fun a ha => h.lenH _ (List.mem_map.mpr ⟨a, ha, rfl⟩)
    have er : ∀ a ∈ H, gt (clr p r a.2) a.1 = gt a.2 a.1 := fun a ha => clr_other lr (lH a ha) (h.zer _ (h.one a ha).1 r hr)
    refine ⟨fun b hb => ?_, fun b hb => ?_, fun v => ?_, fun q hq b hb => ?_, fun a ha => ?_, ?_, ?_, ?_⟩
    · rw [List.map_append, List.map_map] at hb
      rcases List.mem_append.mp hb with hb | hb
      · obtain ⟨a, ha, rfl⟩ := List.mem_map.mp hb
        exact clr_len lr (lH a ha)
      · simp only [List.map_cons, List.map_nil, List.mem_singleton] at hb
        rw [hb]
        exact lr
    · obtain ⟨c, hc, rfl⟩ := List.mem_map.mp hb
      exact clr_len lr (le c hc)
    · rw [← h.sp v]
      have lX : Len n (H.map (·.2) ++ L.eraseIdx j) := len_app h.lenH le
      have p1 : (H.map (·.2) ++ L).Perm (r :: (H.map (·.2) ++ L.eraseIdx j)) := (List.Perm.append_left _ pe).trans List.perm_middle
      have p2 : (((H.map fun a => (a.1, clr p r a.2)) ++ [(p, r)]).map (·.2) ++ (L.eraseIdx j).map (clr p r)).Perm (r :: (H.map (·.2) ++ L.eraseIdx j).map (clr p r)) := by
        have e : ((H.map fun a => (a.1, clr p r a.2)) ++ [(p, r)]).map (·.2) ++ (L.eraseIdx j).map (clr p r) = (H.map (·.2)).map (clr p r) ++ r :: (L.eraseIdx j).map (clr p r) := by
          simp [List.map_map, Function.comp_def]
        rw [e, List.map_append]
        exact List.perm_middle
      rw [sp_perm p2, sp_clear lr lX, sp_perm p1]
    · obtain ⟨c, hc, rfl⟩ := List.mem_map.mp hb
      have hcL := List.mem_of_mem_eraseIdx hc
      rcases List.mem_append.mp hq with hq | hq
      · rw [clr_other lr (h.lenL c hcL) (h.zer q hq r hr)]
        exact h.zer q hq c hcL
      · rw [List.mem_singleton.mp hq]
        exact clr_at lr (h.lenL c hcL) hg
    · rcases List.mem_append.mp ha with ha | ha
      · obtain ⟨b, hb, rfl⟩ := List.mem_map.mp ha
        exact ⟨List.mem_append_left _ (h.one b hb).1, by rw [er b hb]; exact (h.one b hb).2⟩
      · rw [List.mem_singleton.mp ha]
        exact ⟨List.mem_append_right _ (List.mem_singleton.mpr rfl), hg⟩
    · refine List.pairwise_append.mpr ⟨List.pairwise_map.mpr (h.apart.imp_of_mem fun {a b} ha hb z => ?_), List.pairwise_singleton _ _, fun a ha b hb => ?_⟩
      · simp only
        rw [clr_other lr (lH a ha) (h.zer _ (h.one b hb).1 r hr), clr_other lr (lH b hb) (h.zer _ (h.one a ha).1 r hr)]
        exact z
      · rw [List.mem_singleton.mp hb]
        obtain ⟨c, hc, rfl⟩ := List.mem_map.mp ha
        exact ⟨clr_at lr (lH c hc) hg, h.zer _ (h.one c hc).1 r hr⟩
    · have := h.many
      have := pe.length_eq
      simp only [List.length_append, List.length_map, List.length_cons, List.length_nil] at *
      omega
    · rw [List.map_append, List.map_map]
      exact h.up.append (List.Sublist.refl _)
end
end Z
set_option Elab.async false
set_option linter.all false
set_option maxHeartbeats 1000000
/-! G17: columns taken one by one; lots of places by numbers. Plain Lean. -/
namespace Z
open PySem
section
variable {n m : Nat} {B X : List (List Bool)}
def redT (H : List (Nat × List Bool)) (v : List Bool) : List Bool := H.foldl (fun l a => clr a.1 a.2 l) v
def addT (H : List (Nat × List Bool)) (v : List Bool) : List (Nat × List Bool) := match idxs (redT H v) with
  | [] => H
  | k :: _ => H ++ [(k, redT H v)]
structure TT (m : Nat) (X : List (List Bool)) (H : List (Nat × List Bool)) : Prop where
  len : Len m (H.map (·.2))
  one : ∀ a ∈ H, gt a.2 a.1 = true
  low : H.Pairwise fun a b => gt b.2 a.1 = false
  sp : ∀ v, Sp m (H.map (·.2)) v ↔ Sp m X v
  lt : ∀ a ∈ H, a.1 < m
theorem TT.nil : TT m [] [] := ⟨fun b hb => (by cases hb), fun a ha => (by cases ha), .nil, fun v => Iff.rfl, fun a ha => (by cases ha)⟩
theorem redT_ok : ∀ (H : List (Nat × List Bool)), Len m (H.map (·.2)) → (∀ a ∈ H, gt a.2 a.1 = true) → H.Pairwise (fun a b => gt b.2 a.1 = false) → ∀ v : List Bool, v.length = m →
    (redT H v).length = m ∧ (∀ a ∈ H, gt (redT H v) a.1 = false) ∧ (∀ p, (∀ a ∈ H, gt a.2 p = false) → gt (redT H v) p = gt v p) ∧ (∀ C, Len m C → (∀ a ∈ H, Sp m C a.2) → (Sp m C (redT H v) ↔ Sp m C v))
  | [], _, _, _, v, lv => ⟨lv, fun a ha => (by cases ha), fun p _ => rfl, fun C _ _ => Iff.rfl⟩
  | a :: H, l, one, low, v, lv => by
    have low := List.pairwise_cons.mp low
    have la : a.2.length = m := l _ (List.mem_cons_self ..)
    obtain ⟨h1, h2, h3, h4⟩ := redT_ok H (fun b hb => l b (List.mem_cons_of_mem _ hb)) (fun b hb => one b (List.mem_cons_of_mem _ hb)) low.2 (clr a.1 a.2 v) (clr_len la lv)
    refine ⟨h1, fun b hb => ?_, fun p hp => ?_, fun C lC hC => ?_⟩
    · rcases List.mem_cons.mp hb with rfl | hb
      · show gt (redT H (clr b.1 b.2 v)) b.1 = false
        rw [h3 b.1 low.1, clr_at la lv (one _ (List.mem_cons_self ..))]
      · exact h2 b hb
    · show gt (redT H (clr a.1 a.2 v)) p = gt v p
      rw [h3 p fun b hb => hp b (List.mem_cons_of_mem _ hb), clr_other la lv (hp a (List.mem_cons_self ..))]
    · have ha := hC a (List.mem_cons_self ..)
      refine (h4 C lC fun b hb => hC b (List.mem_cons_of_mem _ hb)).trans ⟨fun s => sp_clr lC la lv ha s, fun s => clr_sp lC ha s⟩
theorem TT.add {H : List (Nat × List Bool)} (h : TT m X H) (hX : Len m X) {v : List Bool} (hv : v.length = m) : TT m (X ++ [v]) (addT H v) := by
  obtain ⟨h1, h2, h3, h4⟩ := redT_ok H h.len h.one h.low v hv
  have lXv : Len m (X ++ [v]) := len_app hX fun b hb => by rw [List.mem_singleton.mp hb]; exact hv
  have inX : ∀ a ∈ H, Sp m (X ++ [v]) a.2 := fun a ha => sp_left ((h.sp _).mp (Sp.mem h.len (List.mem_map.mpr ⟨a, ha, rfl⟩)))
  have sv : Sp m (X ++ [v]) (redT H v) := (h4 _ lXv inX).mpr (Sp.mem lXv (by simp))
  unfold addT
  cases e : idxs (redT H v) with
  | nil =>
    have z : redT H v = nul m := row_ext (by rw [h1, nul_len]) fun p => by
      rw [gt_nul]
      cases g : gt (redT H v) p with
      | false => rfl
      | true => have := mem_idxs.mpr g; rw [e] at this; cases this
    have sH : Sp m (H.map (·.2)) v := (h4 _ h.len fun a ha => Sp.mem h.len (List.mem_map.mpr ⟨a, ha, rfl⟩)).mp (by rw [z]; exact .zero)
    refine ⟨h.len, h.one, h.low, fun w => (h.sp w).trans ⟨sp_left, fun s => s.sub hX fun b hb => ?_⟩, h.lt⟩
    rcases List.mem_append.mp hb with hb | hb
    · exact Sp.mem hX hb
    · rw [List.mem_singleton.mp hb]
      exact (h.sp v).mp sH
  | cons k more =>
    have g : gt (redT H v) k = true := mem_idxs.mp (by rw [e]; exact List.mem_cons_self ..)
    have lA : Len m ((H ++ [(k, redT H v)]).map (·.2)) := fun b hb => by
      rw [List.map_append] at hb
      rcases List.mem_append.mp hb with hb | hb
      · exact h.len b hb
      · simp only [List.map_cons, List.map_nil, List.mem_singleton] at hb
        rw [hb]
        exact h1
    refine ⟨lA, fun a ha => ?_, List.pairwise_append.mpr ⟨h.low, List.pairwise_singleton _ _, fun a ha b hb => ?_⟩, fun w => ⟨fun s => s.sub lXv fun b hb => ?_, fun s => s.sub lA fun b hb => ?_⟩, fun a ha => ?_⟩
    · rcases List.mem_append.mp ha with ha | ha
      · exact h.one a ha
      · rw [List.mem_singleton.mp ha]
        exact g
    · rw [List.mem_singleton.mp hb]
      exact h2 a ha
    · rw [List.map_append] at hb
      rcases List.mem_append.mp hb with hb | hb
      · obtain ⟨a, ha, rfl⟩ := List.mem_map.mp hb
        exact inX a ha
      · simp only [List.map_cons, List.map_nil, List.mem_singleton] at hb
        rw [hb]
        exact sv
    · have inA : ∀ a ∈ H, Sp m ((H ++ [(k, redT H v)]).map (·.2)) a.2 := fun a ha => Sp.mem lA (List.mem_map.mpr ⟨a, List.mem_append_left _ ha, rfl⟩)
      rcases List.mem_append.mp hb with hb | hb
      · refine ((h.sp b).mpr (Sp.mem hX hb)).sub lA fun c hc => ?_
        obtain ⟨a, ha, rfl⟩ := List.mem_map.mp hc
        exact inA a ha
      · rw [List.mem_singleton.mp hb]
        exact (h4 _ lA inA).mp (Sp.mem lA (by simp))
    · rcases List.mem_append.mp ha with ha | ha
      · exact h.lt a ha
      · rw [List.mem_singleton.mp ha]
        have := idxs_lt (mem_idxs.mpr g)
        rw [h1] at this
        exact this
end
end Z
set_option Elab.async false
set_option linter.all false
set_option maxHeartbeats 1000000
/-! G18: steps as data. -/
set_option Elab.async false
set_option linter.all false
set_option maxHeartbeats 1000000
/-! G19: lists of numbers compared; tables of ranks. -/
namespace Z
open PySem PySem.Spec PyProof.Rows L2
theorem eqvAll_nats (L M : List Nat) : PyData.eqvAll (L.map natD) (M.map natD) = decide (L = M) := by
  have e : ∀ L : List Nat, L.map natD = (L.map fun n => ((n : Nat) : Int)).map PyData.int := fun L => by rw [List.map_map]; rfl
  rw [e L, e M, eqvAll_ints]
  by_cases h : L = M
  · rw [h]; simp
  · have : ¬ (L.map fun n => ((n : Nat) : Int)) = M.map fun n => ((n : Nat) : Int) := fun z => h (List.map_inj_right (fun a b => by omega) |>.mp z)
    rw [decide_eq_false this, decide_eq_false h]
theorem fEq_natsL {neg : Bool} {L M : List Nat} {R : D → Prop} (h : R (.bool (if neg then !decide (L = M) else decide (L = M)))) : fEq neg (.list (L.map natD)) (.list (M.map natD)) R := by
  refine ⟨?_, ?_, ?_, ?_⟩
  · simp only [PyData.plain]; exact plain_nats L
  · simp only [PyData.plain]; exact plain_nats M
  · simp only [PyData.depth, depth_nats]; omega
  · have e : PyData.eqv (.list (L.map natD)) (.list (M.map natD)) = decide (L = M) := by
      simp only [PyData.eqv]
      exact eqvAll_nats L M
    rw [e]
    exact h
end Z
set_option Elab.async false
set_option linter.all false
set_option maxHeartbeats 1000000
/-! G20: rows below a row, sums over them there and back; rows told by ranks. Plain Lean. -/
set_option Elab.async false
set_option linter.all false
set_option maxHeartbeats 1000000
/-! G21: rows told by ranks. Plain Lean. -/
set_option Elab.async false
set_option linter.all false
set_option maxRecDepth 100000
set_option maxHeartbeats 4000000
/-! Z31: three cells at once. -/
set_option Elab.async false
set_option linter.all false
set_option maxRecDepth 100000
set_option maxHeartbeats 4000000
/-! Z32: xs += ys (an own list grows by a new one). -/
namespace Z
open PySem PySem.Spec PyProof.Rows L2
section
variable {K : PySem.W.Frag} {S : Option (Addr × Addr)}
def sAugL (i : Nat) (m : DM) : DMS := fun ρ R => ownL ρ[i]? fun ds => m ρ fun y => asL y fun es => solids es = true ∧ ds.length + es.length ≤ 10000000 ∧ R.nx (ρ.set i (.own (.list (ds ++ es))))
/-- tuple(list), of either kind -/
def fTupleF : List D → (D → Prop) → Prop := fun ds R => match ds with
  | [d] => ∃ es, IsL d es ∧ solids es = true ∧ R (.tuple es)
  | _ => False
end
end Z
set_option Elab.async false
set_option linter.all false
set_option maxHeartbeats 1000000
/-! G22: what places tell a place. Plain Lean. -/
set_option Elab.async false
set_option linter.all false
set_option maxRecDepth 100000
set_option maxHeartbeats 4000000
/-! Z33: xs == [], xs != [] for lists of any data. -/
namespace Z
open PySem PySem.Spec PyProof.Rows L2
section
variable {K : PySem.W.Frag} {S : Option (Addr × Addr)}
def fEqLE (neg : Bool) : D → D → (D → Prop) → Prop := fun x y R => ∃ xs, IsL x xs ∧ y = .list [] ∧ R (.bool (if neg then !xs.isEmpty else xs.isEmpty))
end
end Z
set_option Elab.async false
set_option linter.all false
set_option maxHeartbeats 1000000
/-! G23: the first fault of anything as what tells a place. Plain Lean. -/
set_option Elab.async false
set_option linter.all false
set_option maxRecDepth 100000
set_option maxHeartbeats 4000000
/-! G24: values of all kinds, the ints wide (printed by mkG24.py from G14). -/
namespace Z
namespace Wd
open PySem PySem.Spec PyProof.Rows L2
theorem shown_int32 {i : Int} (h : i.natAbs < 10 ^ 32) : (PyData.shown (.int i)).length ≤ 33 := by
  have e := int_text_length_le10 (k := 32) (by decide) h
  show (Str.ofString (toString i)).length ≤ 33
  rw [PySem.ofString_length]; exact e
mutual
/-- an upper bound on how many signs show it -/
def wg : D → Nat
  | .none => 5
  | .bool _ => 6
  | .int _ => 36
  | .str x => (PyData.str x).shown.length
  | .list ds => wgs ds + 4
  | .tuple ds => wgs ds + 4
  | .dict kvs => wgk kvs + 4
def wgs : List D → Nat
  | [] => 0
  | d :: ds => wg d + 2 + wgs ds
def wgk : List (D × D) → Nat
  | [] => 0
  | (_, d) :: r => wg d + 2 + wgk r
end
mutual
/-- what never changes, its ints at most m either way -/
def good (m : Nat) : D → Bool
  | .none => true
  | .bool _ => true
  | .int i => decide (i.natAbs ≤ m)
  | .str _ => true
  | .list _ => false
  | .tuple ds => goods m ds
  | .dict kvs => (isFrz kvs && goodk m kvs) || (isFrd kvs && kvs.length == 1)
def goods (m : Nat) : List D → Bool
  | [] => true
  | d :: ds => good m d && goods m ds
def goodk (m : Nat) : List (D × D) → Bool
  | [] => true
  | (_, d) :: r => good m d && goodk m r
end
theorem goods_all {m : Nat} : ∀ {ds : List D}, goods m ds = true ↔ ∀ d ∈ ds, good m d = true
  | [] => by simp [goods]
  | d :: ds => by simp [goods, goods_all]
mutual
theorem good_can {m : Nat} : ∀ d : D, good m d = true → canT d = true
  | .none, _ => by simp [canT]
  | .bool _, _ => by simp [canT]
  | .int _, _ => by simp [canT]
  | .str _, _ => by simp [canT]
  | .list _, h => by simp [good] at h
  | .tuple ds, h => by
    simp only [canT]
    exact goods_can ds (by simpa only [good] using h)
  | .dict kvs, h => by
    simp only [good, Bool.or_eq_true, Bool.and_eq_true] at h
    simp only [canT, Bool.or_eq_true, Bool.and_eq_true]
    exact h.imp (fun z => ⟨z.1, goodk_can kvs z.2⟩) id
theorem goods_can {m : Nat} : ∀ ds : List D, goods m ds = true → canTs ds = true
  | [], _ => by simp [canTs]
  | d :: ds, h => by
    simp only [goods, Bool.and_eq_true] at h
    simp only [canTs, good_can d h.1, goods_can ds h.2, Bool.and_self]
theorem goodk_can {m : Nat} : ∀ ds : List (D × D), goodk m ds = true → canTk ds = true
  | [], _ => by simp [canTk]
  | (_, d) :: ds, h => by
    simp only [goodk, Bool.and_eq_true] at h
    simp only [canTk, good_can d h.1, goodk_can ds h.2, Bool.and_self]
end
mutual
theorem good_solid {m : Nat} : ∀ d : D, good m d = true → solid d = true
  | .none, _ => by simp [solid]
  | .bool _, _ => by simp [solid]
  | .int _, _ => by simp [solid]
  | .str _, _ => by simp [solid]
  | .list _, h => by simp [good] at h
  | .tuple ds, h => by
    simp only [solid]
    exact goods_solid ds (by simpa only [good] using h)
  | .dict kvs, h => by
    simp only [good, Bool.or_eq_true, Bool.and_eq_true] at h
    rcases h with ⟨z, _⟩ | ⟨z, _⟩
    · obtain ⟨r, rfl⟩ := isFrz_cons z
      simp [solid, isSrc, isFrz]
    · obtain ⟨r, rfl⟩ := isFrd_cons z
      simp [solid, isSrc, isFrd]
theorem goods_solid {m : Nat} : ∀ ds : List D, goods m ds = true → solids ds = true
  | [], _ => by simp [solids]
  | d :: ds, h => by
    simp only [goods, Bool.and_eq_true] at h
    simp only [solids, good_solid d h.1, goods_solid ds h.2, Bool.and_self]
end
mutual
theorem good_mono {m m' : Nat} (hm : m ≤ m') : ∀ d : D, good m d = true → good m' d = true
  | .none, _ => by simp [good]
  | .bool _, _ => by simp [good]
  | .int i, h => by
    simp only [good, decide_eq_true_eq] at h ⊢
    omega
  | .str _, _ => by simp [good]
  | .list _, h => by simp [good] at h
  | .tuple ds, h => by
    simp only [good]
    exact goods_mono hm ds (by simpa only [good] using h)
  | .dict kvs, h => by
    simp only [good, Bool.or_eq_true, Bool.and_eq_true] at h ⊢
    exact h.imp (fun z => ⟨z.1, goodk_mono hm kvs z.2⟩) id
theorem goods_mono {m m' : Nat} (hm : m ≤ m') : ∀ ds : List D, goods m ds = true → goods m' ds = true
  | [], _ => by simp [goods]
  | d :: ds, h => by
    simp only [goods, Bool.and_eq_true] at h ⊢
    exact ⟨good_mono hm d h.1, goods_mono hm ds h.2⟩
theorem goodk_mono {m m' : Nat} (hm : m ≤ m') : ∀ ds : List (D × D), goodk m ds = true → goodk m' ds = true
  | [], _ => by simp [goodk]
  | (_, d) :: ds, h => by
    simp only [goodk, Bool.and_eq_true] at h ⊢
    exact ⟨good_mono hm d h.1, goodk_mono hm ds h.2⟩
end
theorem log_small {i : Int} (h : i.natAbs ≤ (10 ^ 31)) : i.natAbs.log2 < 1920 := log2_small (Nat.lt_of_le_of_lt h (by decide))
mutual
theorem good_show {m : Nat} (hm : m ≤ (10 ^ 31)) : ∀ d : D, good m d = true → (thaw d).showable = true ∧ (thaw d).shown.length ≤ wg d
  | .none, _ => by
    simp only [thaw, wg]
    exact ⟨by decide, by decide⟩
  | .bool b, _ => by
    simp only [thaw, wg]
    cases b <;> exact ⟨by decide, by decide⟩
  | .int i, h => by
    simp only [good, decide_eq_true_eq] at h
    simp only [thaw, wg, PyData.showable, decide_eq_true_eq]
    exact ⟨log_small (Nat.le_trans h hm), Nat.le_trans (shown_int32 (show i.natAbs < 10 ^ 32 from Nat.lt_of_le_of_lt (Nat.le_trans h hm) (by decide))) (by decide)⟩
  | .str x, _ => by
    simp only [thaw, wg, PyData.showable]
    exact ⟨trivial, Nat.le_refl _⟩
  | .list _, h => by simp [good] at h
  | .tuple ds, h => by
    obtain ⟨h1, h2⟩ := goods_show hm ds (by simpa only [good] using h)
    simp only [thaw, wg, PyData.showable, PyData.shown]
    refine ⟨h1, Nat.le_trans (tupleText_len_le _) ?_⟩
    omega
  | .dict kvs, h => by
    simp only [good, Bool.or_eq_true, Bool.and_eq_true] at h
    rcases h with ⟨z, hk⟩ | ⟨z, hl⟩
    · obtain ⟨r, rfl⟩ := isFrz_cons z
      simp only [goodk, Bool.and_eq_true] at hk
      obtain ⟨h1, h2⟩ := goodk_show hm r hk.2
      have e : thaw (.dict ((.bool true, .none) :: r)) = .list (thawk r) := by simp only [thaw, if_pos z, thawk, List.tail_cons]
      rw [e]
      simp only [wg, wgk, PyData.showable, PyData.shown]
      refine ⟨h1, Nat.le_trans (listText_len_le _) ?_⟩
      omega
    · obtain ⟨r, rfl⟩ := isFrd_cons z
      obtain rfl : r = [] := by simpa using hl
      rw [show thaw (.dict [(.bool false, .none)]) = .dict [] from thaw_frd]
      simp only [wg, wgk]
      exact ⟨by decide, by decide⟩
theorem goods_show {m : Nat} (hm : m ≤ (10 ^ 31)) : ∀ ds : List D, goods m ds = true → PyData.showableAll (thaws ds) = true ∧ ((PyData.shownAll (thaws ds)).map (·.length)).sum + 2 * (PyData.shownAll (thaws ds)).length ≤ wgs ds
  | [], _ => by simp [thaws, PyData.showableAll, PyData.shownAll, wgs]
  | d :: ds, h => by
    simp only [goods, Bool.and_eq_true] at h
    obtain ⟨a1, a2⟩ := good_show hm d h.1
    obtain ⟨b1, b2⟩ := goods_show hm ds h.2
    simp only [thaws, PyData.showableAll, PyData.shownAll, wgs, a1, b1, List.map_cons, List.sum_cons, List.length_cons]
    exact ⟨rfl, by omega⟩
theorem goodk_show {m : Nat} (hm : m ≤ (10 ^ 31)) : ∀ ds : List (D × D), goodk m ds = true → PyData.showableAll (thawk ds) = true ∧ ((PyData.shownAll (thawk ds)).map (·.length)).sum + 2 * (PyData.shownAll (thawk ds)).length ≤ wgk ds
  | [], _ => by simp [thawk, PyData.showableAll, PyData.shownAll, wgk]
  | (_, d) :: ds, h => by
    simp only [goodk, Bool.and_eq_true] at h
    obtain ⟨a1, a2⟩ := good_show hm d h.1
    obtain ⟨b1, b2⟩ := goodk_show hm ds h.2
    simp only [thawk, PyData.showableAll, PyData.shownAll, wgk, a1, b1, List.map_cons, List.sum_cons, List.length_cons]
    exact ⟨rfl, by omega⟩
end
/-- a value of any kind that never changes: ints at most m either way, at most k deep, shown by at most L signs -/
structure Vl (m k L : Nat) (d : D) : Prop where
  good : good m d = true
  dep : (thaw d).depth ≤ k
  wt : wg d ≤ L
theorem Vl.ok {m k L : Nat} {d : D} (h : Vl m k L d) (hm : m ≤ (10 ^ 31)) (hk : k ≤ 40) (hL : L ≤ 10000000) : OkT 40 10000000 d :=
  ⟨good_can _ h.good, Nat.le_trans h.dep hk, (good_show hm _ h.good).1, Nat.le_trans (good_show hm _ h.good).2 (Nat.le_trans h.wt hL)⟩
theorem Vl.solid {m k L : Nat} {d : D} (h : Vl m k L d) : solid d = true := good_solid _ h.good
theorem Vl.mono {m k L m' k' L' : Nat} {d : D} (h : Vl m k L d) (a : m ≤ m') (b : k ≤ k') (c : L ≤ L') : Vl m' k' L' d := ⟨good_mono a _ h.good, Nat.le_trans h.dep b, Nat.le_trans h.wt c⟩
theorem wgs_len : ∀ ds : List D, 2 * ds.length ≤ wgs ds
  | [] => by simp [wgs]
  | d :: ds => by
    have := wgs_len ds
    simp only [wgs, List.length_cons]
    omega
theorem depthAll_le {k : Nat} : ∀ {ds : List D}, PyData.depthAll (thaws ds) ≤ k ↔ ∀ d ∈ ds, (thaw d).depth ≤ k
  | [] => by simp [thaws, PyData.depthAll]
  | d :: ds => by
    simp only [thaws, PyData.depthAll, List.mem_cons, forall_eq_or_imp, Nat.max_le, depthAll_le]
/-- a tuple of such -/
theorem Vl.tuple {m k L : Nat} {ds : List D} (h : ∀ d ∈ ds, ∃ l, Vl m k l d) (w : wgs ds + 4 ≤ L) : Vl m (k + 1) L (.tuple ds) := by
  refine ⟨?_, ?_, ?_⟩
  · simp only [Z.Wd.good]
    exact goods_all.mpr fun d hd => let ⟨l, hl⟩ := h d hd; hl.good
  · simp only [thaw, PyData.depth]
    have : PyData.depthAll (thaws ds) ≤ k := depthAll_le.mpr fun d hd => let ⟨l, hl⟩ := h d hd; hl.dep
    omega
  · simp only [wg]
    exact w
theorem Vl.frz {m k L : Nat} {ds : List D} (h : ∀ d ∈ ds, ∃ l, Vl m k l d) (w : wgs ds + 15 ≤ L) : Vl m (k + 1) L (frzD ds) := by
  have gk : ∀ es : List D, (∀ d ∈ es, ∃ l, Vl m k l d) → goodk m (es.map fun d => (.bool true, d)) = true := fun es => by
    induction es with
    | nil => intro _; simp [goodk]
    | cons e es ih =>
      intro h
      simp only [List.map_cons, goodk, Bool.and_eq_true]
      exact ⟨let ⟨l, hl⟩ := h e (List.mem_cons_self ..); hl.good, ih fun d hd => h d (List.mem_cons_of_mem _ hd)⟩
  have wk : ∀ es : List D, wgk (es.map fun d => ((.bool true : D), d)) = wgs es := fun es => by
    induction es with
    | nil => simp [wgk, wgs]
    | cons e es ih => simp only [List.map_cons, wgk, wgs, ih]
  refine ⟨?_, ?_, ?_⟩
  · unfold frzD frzK
    simp only [Z.Wd.good, goodk, gk ds h]
    rfl
  · rw [thaw_frz]
    simp only [PyData.depth]
    have : PyData.depthAll (thaws ds) ≤ k := depthAll_le.mpr fun d hd => let ⟨l, hl⟩ := h d hd; hl.dep
    rw [thaws_map] at this
    omega
  · unfold frzD frzK
    simp only [wg, wgk, wk]
    omega
theorem Vl.parts {m k L : Nat} {ds : List D} (h : Vl m k L (.tuple ds)) : 1 ≤ k ∧ wgs ds + 4 ≤ L ∧ ∀ d ∈ ds, Vl m (k - 1) (wg d) d := by
  have h1 := h.good
  have h2 := h.dep
  have h3 := h.wt
  simp only [Z.Wd.good] at h1
  simp only [thaw, PyData.depth] at h2
  simp only [wg] at h3
  have h4 := goods_all.mp h1
  have h5 : PyData.depthAll (thaws ds) ≤ k - 1 := by omega
  exact ⟨by omega, h3, fun d hd => ⟨h4 d hd, depthAll_le.mp h5 d hd, Nat.le_refl _⟩⟩
theorem Vl.isi {m k L : Nat} {d : D} (h : Vl m k L d) : noFrz d := by
  cases d with
  | dict kvs =>
    have := h.good
    simp only [Z.Wd.good, Bool.or_eq_true, Bool.and_eq_true] at this
    rcases this with ⟨z, _⟩ | ⟨z, hl⟩
    · exact .inl z
    · obtain ⟨r, rfl⟩ := isFrd_cons z
      obtain rfl : r = [] := by simpa using hl
      exact .inr rfl
  | _ => trivial
theorem Vl.none {m k : Nat} : Vl m k 5 .none := ⟨by simp [Z.Wd.good], by simp [thaw, PyData.depth], by simp [wg]⟩
theorem Vl.bool {m k : Nat} {b : Bool} : Vl m k 6 (.bool b) := ⟨by simp [Z.Wd.good], by simp [thaw, PyData.depth], by simp [wg]⟩
theorem Vl.int {m k : Nat} {i : Int} (h : i.natAbs ≤ m) : Vl m k 36 (.int i) := ⟨by simp [Z.Wd.good, h], by simp [thaw, PyData.depth], by simp [wg]⟩
theorem Vl.str {m k : Nat} {x : Str} {L : Nat} (h : (PyData.str x).shown.length ≤ L) : Vl m k L (.str x) := ⟨by simp [Z.Wd.good], by simp [thaw, PyData.depth], by simpa [wg] using h⟩
theorem Vl.inner {m k L : Nat} {d : D} (h : Vl m k L d) (hL : L ≤ 10000000) : noFrz d ∧ ∀ xs, d = .tuple xs → xs.length ≤ 10000000 ∧ ∀ x ∈ xs, noFrz x := ⟨h.isi, fun xs e => by
  subst e
  obtain ⟨_, a, b⟩ := h.parts
  have := wgs_len xs
  exact ⟨by omega, fun x hx => (b x hx).isi⟩⟩
end Wd
end Z
set_option Elab.async false
set_option linter.all false
set_option maxHeartbeats 1000000
/-! G25: a place is told by others just if the rank stays. Plain Lean. -/
set_option Elab.async false
set_option linter.all false
set_option maxRecDepth 100000
set_option maxHeartbeats 4000000
/-! Z34: dicts of any keys at the layer: what is held at a key, what is stored. -/
namespace Z
open PySem PySem.Spec PyProof.Rows L2
def rowAt (rows : List Row) (k : NestedKey) : Option V := (rows.find? fun r => decide (r.1 = k)).map (·.2.2)
def rowPut (rows : List Row) (k : NestedKey) (y : Addr) (v : V) : List Row :=
  if (rowAt rows k).isSome then rows.map (fun r => if r.1 = k then (r.1, r.2.1, v) else r) else rows ++ [(k, y, v)]
theorem rowAt_none {rows : List Row} {k : NestedKey} (h : (rowAt rows k).isSome ≠ true) : k ∉ rows.map (·.1) := fun hm => by
  obtain ⟨r, hr, rfl⟩ := List.mem_map.mp hm
  apply h
  unfold rowAt
  rw [Option.isSome_map, List.find?_isSome]
  exact ⟨r, hr, by simp⟩
theorem rowPut_keys (rows : List Row) (k : NestedKey) (y : Addr) (v : V) : (rowPut rows k y v).map (·.1) = if (rowAt rows k).isSome then rows.map (·.1) else rows.map (·.1) ++ [k] := by
  unfold rowPut
  split
  · rw [List.map_map]
    refine List.map_congr_left fun r _ => ?_
    simp only [Function.comp]
    split <;> rfl
  · rw [List.map_append]; rfl
/-- rows as they stand -/
abbrev XRel : List Row → List (NestedKey × Addr × Value) → Prop := Paired fun r x => x.1 = r.1 ∧ x.2.1 = r.2.1 ∧ RelV r.2.2 x.2.2
theorem XRel.val {rows : List Row} {xs : List (NestedKey × Addr × Value)} (r : XRel rows xs) (k : NestedKey) : RelO (rowAt rows k) ((atKey xs k).map (·.2)) := by
  induction r with
  | nil => exact True.intro
  | @cons p q ps qs h t ih =>
    obtain ⟨h1, _, h2⟩ := h
    by_cases e : p.1 = k
    · have e' : q.1 = k := h1.trans e
      have b : atKey (q :: qs) k = some q.2 := by simp [atKey, List.find?_cons, e']
      have c : rowAt (p :: ps) k = some p.2.2 := by simp [rowAt, List.find?_cons, e]
      rw [c, b]; exact h2
    · have e' : ¬ q.1 = k := fun z => e (h1.symm.trans z)
      have b : atKey (q :: qs) k = atKey qs k := by simp [atKey, List.find?_cons, e']
      have c : rowAt (p :: ps) k = rowAt ps k := by simp [rowAt, List.find?_cons, e]
      rw [c, b]; exact ih
theorem XRel.put {rows : List Row} {xs : List (NestedKey × Addr × Value)} (r : XRel rows xs) (k : NestedKey) {b : Addr} {y : V} {u : Value} (ry : RelV y u) : XRel (rowPut rows k b y) (storedH xs k b u) := by
  have e : (rowAt rows k).isSome = (atKey xs k).isSome := by rw [(r.val k).isSome_eq, Option.isSome_map]
  unfold rowPut storedH
  rw [e]
  by_cases q : (atKey xs k).isSome = true
  · rw [if_pos q, if_pos q]
    clear e q
    induction r with
    | nil => exact .nil
    | @cons p q ps qs h t ih =>
      rw [List.map_cons, List.map_cons]
      refine .cons ?_ ih
      obtain ⟨h1, h2, h3⟩ := h
      unfold putAt
      by_cases e : p.1 = k
      · rw [if_pos e, if_pos (h1.trans e)]; exact ⟨h1, h2, ry⟩
      · rw [if_neg e, if_neg (fun z => e (h1.symm.trans z))]; exact ⟨h1, h2, h3⟩
  · rw [if_neg q, if_neg q]; exact Paired.snoc r ⟨rfl, rfl, ry⟩
theorem XRel.len {rows : List Row} {xs : List (NestedKey × Addr × Value)} (r : XRel rows xs) : rows.length = xs.length := Paired.length r
/-! ### readings and rules -/
end Z
set_option Elab.async false
set_option linter.all false
set_option maxRecDepth 100000
set_option maxHeartbeats 4000000
/-! Z35: dicts of any keys over data. -/
namespace Z
open PySem PySem.Spec PyProof.Rows L2
open Classical in
noncomputable def kFind (kvs : List (D × D)) (k : D) : Option D := (kvs.find? fun p => decide (p.1 = k)).map (·.2)
open Classical in
noncomputable def kRepl (kvs : List (D × D)) (k v : D) : List (D × D) := kvs.map fun p => if p.1 = k then (p.1, v) else p
noncomputable def kPut (kvs : List (D × D)) (k v : D) : List (D × D) := if (kFind kvs k).isSome then kRepl kvs k v else kvs ++ [(k, v)]
open Classical in
noncomputable def kSel (kvs : List (D × D)) (k : D) : List Bool := kvs.map fun p => decide (p.1 = k)
theorem kFind_pos {p : D × D} {kvs : List (D × D)} {k : D} (h : p.1 = k) : kFind (p :: kvs) k = some p.2 := by simp [kFind, List.find?_cons, h]
theorem kFind_neg {p : D × D} {kvs : List (D × D)} {k : D} (h : p.1 ≠ k) : kFind (p :: kvs) k = kFind kvs k := by simp [kFind, List.find?_cons, h]
theorem kRepl_keys (kvs : List (D × D)) (k v : D) : (kRepl kvs k v).map (·.1) = kvs.map (·.1) := by
  unfold kRepl
  rw [List.map_map]
  refine List.map_congr_left fun p _ => ?_
  simp only [Function.comp]
  split <;> rfl
theorem kPut_keys (kvs : List (D × D)) (k v : D) : (kPut kvs k v).map (·.1) = if (kFind kvs k).isSome then kvs.map (·.1) else kvs.map (·.1) ++ [k] := by
  unfold kPut
  split
  · exact kRepl_keys ..
  · rw [List.map_append]; rfl
/-! ### keys -/
mutual
theorem nkey_inj : ∀ (a b : D) (k : NestedKey), nkey a = some k → nkey b = some k → a = b
  | .none, b, k, h1, h2 => by
    simp only [nkey] at h1
    cases h1
    cases b <;> simp [nkey] at h2
    rfl
  | .int i, b, k, h1, h2 => by
    simp only [nkey] at h1
    cases h1
    cases b <;> simp [nkey] at h2
    rw [h2]
  | .tuple xs, b, k, h1, h2 => by
    simp only [nkey] at h1
    obtain ⟨ks, e, rfl⟩ := Option.map_eq_some_iff.mp h1
    cases b <;> simp [nkey] at h2
    rw [nkeys_inj xs _ ks e h2]
  | .bool _, _, _, h1, _ => by simp [nkey] at h1
  | .str _, _, _, h1, _ => by simp [nkey] at h1
  | .list _, _, _, h1, _ => by simp [nkey] at h1
  | .dict _, _, _, h1, _ => by simp [nkey] at h1
theorem nkeys_inj : ∀ (a b : List D) (ks : List NestedKey), nkeys a = some ks → nkeys b = some ks → a = b
  | [], b, ks, h1, h2 => by
    simp only [nkeys] at h1
    cases h1
    cases b with
    | nil => rfl
    | cons y ys =>
      simp only [nkeys] at h2
      split at h2
      · cases h2
      · cases h2
  | x :: xs, b, ks, h1, h2 => by
    simp only [nkeys] at h1
    split at h1
    · rename_i k ks' e1 e2
      cases h1
      cases b with
      | nil => simp [nkeys] at h2
      | cons y ys =>
        simp only [nkeys] at h2
        split at h2
        · rename_i k2 ks2 e3 e4
          cases h2
          rw [nkey_inj x y _ e1 e3, nkeys_inj xs ys _ e2 e4]
        · cases h2
    · cases h1
end
/-- a key: an int, a text, a tuple of ints, Nones and such -/
def KeyOk (d : D) : Prop := (∃ k : Key, d = keyD k) ∨ ∃ (nk : NestedKey) (l : List NestedKey), nkey d = some nk ∧ nk = .tup l ∧ nk.depth ≤ 8
theorem isTuple_nkey {d : D} {l : List NestedKey} (h : nkey d = some (.tup l)) : isTuple d = true := by
  cases d <;> simp [nkey] at h
  rfl
/-! ### what a dict's object holds -/
def selX (bs : List Bool) (x : V) (xs : List V) : List V := List.zipWith (fun b x0 => cond b x x0) bs xs
section
variable {c : Zc} {H : Hp}
/-- the dict's entry at k -/
def Held (c : Zc) (H : Hp) (kvs : List (D × D)) (ys xs : List V) (gp : List Addr) (k d : D) (x : V) (fp : List Addr) : Prop :=
  ∃ A B ys1 y ys2 xs1 xs2 f1 f2, kvs = A ++ (k, d) :: B ∧ ys = ys1 ++ y :: ys2 ∧ xs = xs1 ++ x :: xs2 ∧ gp = f1 ++ (fp ++ f2) ∧ Rpk c H A ys1 xs1 f1 ∧ Rp c H k y [] ∧ Rp c H d x fp ∧ Rpk c H B ys2 xs2 f2
theorem Held.cons {k' d' k d : D} {y0 x0 x : V} {kvs : List (D × D)} {ys xs : List V} {f gp fp : List Addr} (rk : Rp c H k' y0 []) (rd : Rp c H d' x0 f) (h : Held c H kvs ys xs gp k d x fp) : Held c H ((k', d') :: kvs) (y0 :: ys) (x0 :: xs) (f ++ gp) k d x fp := by
  obtain ⟨A, B, ys1, y, ys2, xs1, xs2, f1, f2, rfl, rfl, rfl, rfl, h1, h2, h3, h4⟩ := h
  refine ⟨(k', d') :: A, B, y0 :: ys1, y, ys2, x0 :: xs1, xs2, f ++ f1, f2, rfl, rfl, rfl, by rw [List.append_assoc], ?_, h2, h3, h4⟩
  simp only [Rpk]
  exact ⟨y0, ys1, x0, xs1, f, f1, rfl, rfl, rfl, rk, rd, h1⟩
/-- what is found -/
def GetIs (c : Zc) (H : Hp) (kvs : List (D × D)) (ys xs : List V) (gp : List Addr) (k : D) (o : Option D) (r : Option V) : Prop := match o with
  | none => r = none
  | some d => ∃ x fp, r = some x ∧ Held c H kvs ys xs gp k d x fp
theorem GetIs.grow {c : Zc} {H : Hp} {kvs : List (D × D)} {ys xs : List V} {gp f : List Addr} {k k' d' : D} {y0 x0 : V} {o : Option D} {r : Option V} (h : GetIs c H kvs ys xs gp k o r) (rk : Rp c H k' y0 []) (rd : Rp c H d' x0 f) : GetIs c H ((k', d') :: kvs) (y0 :: ys) (x0 :: xs) (f ++ gp) k o r := by
  cases o with
  | none => exact h
  | some d =>
    obtain ⟨x, fp, h1, h2⟩ := h
    exact ⟨x, fp, h1, h2.cons rk rd⟩
theorem Held.head {k d : D} {y x : V} {kvs : List (D × D)} {ys xs : List V} {f gp : List Addr} (rk : Rp c H k y []) (rd : Rp c H d x f) (r : Rpk c H kvs ys xs gp) : Held c H ((k, d) :: kvs) (y :: ys) (x :: xs) (f ++ gp) k d x f :=
  ⟨[], kvs, [], y, ys, [], xs, [], gp, rfl, rfl, rfl, rfl, by simp [Rpk], rk, rd, r⟩
theorem find_dX {k : D} {nk : NestedKey} (hk : nkey k = some nk) : ∀ {kvs : List (D × D)} {rows : List Row} {ys xs : List V} {gp : List Addr}, (kvs.map (·.1)).map nkey = rows.map (fun r => some r.1) → xs = rows.map (fun r => r.2.2) → Rpk c H kvs ys xs gp → GetIs c H kvs ys xs gp k (kFind kvs k) (rowAt rows nk)
  | [], rows, ys, xs, gp, e, ex, r => by
    cases rows with
    | nil => rfl
    | cons j kk => cases e
  | p :: kvs, [], ys, xs, gp, e, ex, r => by cases e
  | (k', d) :: kvs, j :: rows, ys, xs, gp, e, ex, r => by
    simp only [List.map_cons] at e
    obtain ⟨e1, e2⟩ := List.cons.inj e
    simp only [Rpk] at r
    obtain ⟨y, ys', x, xs', f1, f2, rfl, rfl, rfl, h0, h1, h2⟩ := r
    rw [List.map_cons] at ex
    obtain ⟨e3, e4⟩ := List.cons.inj ex
    by_cases hj : j.1 = nk
    · have : k' = k := nkey_inj _ _ nk (by rw [e1, hj]) hk
      subst this
      rw [kFind_pos rfl]
      have : rowAt (j :: rows) nk = some j.2.2 := by simp [rowAt, List.find?_cons, hj]
      rw [this, ← e3]
      exact ⟨x, f1, rfl, .head h0 h1 h2⟩
    · have : (k', d).1 ≠ k := fun z => hj (Option.some.inj (e1.symm.trans ((congrArg nkey z).trans hk)))
      rw [kFind_neg this]
      have : rowAt (j :: rows) nk = rowAt rows nk := by simp [rowAt, List.find?_cons, hj]
      rw [this]
      exact (find_dX hk e2 e4 h2).grow h0 h1
theorem rpk_sel {k v : D} {x : V} {fpv : List Addr} (rv : Rp c H v x fpv) (nv : fpv.Nodup) : ∀ {kvs : List (D × D)} {ys xs : List V} {gp : List Addr}, (kvs.map (·.1)).Nodup → Rpk c H kvs ys xs gp → gp.Nodup → (∀ b ∈ gp, b ∉ fpv) →
    ∃ gp', Rpk c H (kRepl kvs k v) ys (selX (kSel kvs k) x xs) gp' ∧ (∀ b ∈ gp', b ∈ gp ∨ b ∈ fpv) ∧ gp'.Nodup ∧ (k ∉ kvs.map (·.1) → gp' = gp ∧ selX (kSel kvs k) x xs = xs)
  | [], ys, xs, gp, _, r, ng, _ => by
    simp only [Rpk] at r
    obtain ⟨rfl, rfl, rfl⟩ := r
    exact ⟨[], by simp [kRepl, kSel, selX, Rpk], (fun b hb => by cases hb), List.nodup_nil, fun _ => ⟨rfl, rfl⟩⟩
  | (k', d) :: kvs, ys, xs, gp, nk, r, ng, dj => by
    simp only [Rpk] at r
    obtain ⟨y, ys', x0, xs', f1, f2, rfl, rfl, rfl, h0, h1, h2⟩ := r
    rw [List.map_cons] at nk
    obtain ⟨nk1, nk2⟩ := List.nodup_cons.mp nk
    obtain ⟨ng1, ng2, ng3⟩ := List.nodup_append.mp ng
    obtain ⟨g', a1, a2, a3, a4⟩ := rpk_sel (k := k) rv nv nk2 h2 ng2 fun b hb => dj b (List.mem_append_right _ hb)
    by_cases e : k' = k
    · subst e
      obtain ⟨rfl, a5⟩ := a4 nk1
      refine ⟨fpv ++ g', ?_, fun b hb => ?_, ?_, fun z => (z (by simp)).elim⟩
      · have : kRepl ((k', d) :: kvs) k' v = (k', v) :: kRepl kvs k' v := by simp [kRepl]
        rw [this]
        have : selX (kSel ((k', d) :: kvs) k') x (x0 :: xs') = x :: selX (kSel kvs k') x xs' := by simp [selX, kSel]
        rw [this]
        simp only [Rpk]
        exact ⟨y, ys', x, _, fpv, g', rfl, rfl, rfl, h0, rv, a1⟩
      · rcases List.mem_append.mp hb with z | z
        · exact .inr z
        · exact .inl (List.mem_append_right _ z)
      · exact List.nodup_append.mpr ⟨nv, a3, fun b hb b' hb' z => dj b' (List.mem_append_right _ hb') (z ▸ hb)⟩
    · refine ⟨f1 ++ g', ?_, fun b hb => ?_, ?_, fun z => ?_⟩
      · have : kRepl ((k', d) :: kvs) k v = (k', d) :: kRepl kvs k v := by simp [kRepl, e]
        rw [this]
        have : selX (kSel ((k', d) :: kvs) k) x (x0 :: xs') = x0 :: selX (kSel kvs k) x xs' := by simp [selX, kSel, e]
        rw [this]
        simp only [Rpk]
        exact ⟨y, ys', x0, _, f1, g', rfl, rfl, rfl, h0, h1, a1⟩
      · rcases List.mem_append.mp hb with z | z
        · exact .inl (List.mem_append_left _ z)
        · exact (a2 b z).imp (List.mem_append_right _) id
      · refine List.nodup_append.mpr ⟨ng1, a3, fun b hb b' hb' z => ?_⟩
        rcases a2 b' hb' with q | q
        · exact ng3 b hb b' q z
        · exact dj b (List.mem_append_left _ hb) (z ▸ q)
      · rw [List.map_cons] at z
        obtain ⟨rfl, a5⟩ := a4 fun h => z (List.mem_cons_of_mem _ h)
        refine ⟨rfl, ?_⟩
        have : selX (kSel ((k', d) :: kvs) k) x (x0 :: xs') = x0 :: selX (kSel kvs k) x xs' := by simp [selX, kSel, e]
        rw [this, a5]
theorem rpk_snoc {k v : D} {y x : V} {fpv : List Addr} (rk : Rp c H k y []) (rv : Rp c H v x fpv) : ∀ {kvs : List (D × D)} {ys xs : List V} {gp : List Addr}, Rpk c H kvs ys xs gp → Rpk c H (kvs ++ [(k, v)]) (ys ++ [y]) (xs ++ [x]) (gp ++ fpv)
  | [], ys, xs, gp, r => by
    simp only [Rpk] at r
    obtain ⟨rfl, rfl, rfl⟩ := r
    simp only [List.nil_append, Rpk]
    exact ⟨y, [], x, [], fpv, [], rfl, rfl, by simp, rk, rv, rfl, rfl, rfl⟩
  | (k', d) :: kvs, ys, xs, gp, r => by
    simp only [Rpk] at r
    obtain ⟨y0, ys', x0, xs', f1, f2, rfl, rfl, rfl, h0, h1, h2⟩ := r
    simp only [List.cons_append, List.append_assoc, Rpk]
    exact ⟨y0, _, x0, _, f1, f2 ++ fpv, rfl, rfl, rfl, h0, h1, rpk_snoc rk rv h2⟩
/-- all keys are of the kind of k -/
def Homog (kvs : List (D × D)) (k : D) : Prop := ∀ p ∈ kvs, isTuple p.1 = isTuple k
theorem sel_rows {k : D} {nk : NestedKey} (hk : nkey k = some nk) : ∀ {kvs : List (D × D)} {rows : List Row}, (kvs.map (·.1)).map nkey = rows.map (fun r => some r.1) → kSel kvs k = rows.map fun r => decide (r.1 = nk)
  | [], [], _ => rfl
  | [], _ :: _, e => by cases e
  | _ :: _, [], e => by cases e
  | p :: kvs, j :: rows, e => by
    simp only [List.map_cons] at e
    obtain ⟨e1, e2⟩ := List.cons.inj e
    have ih := sel_rows hk e2
    unfold kSel at ih ⊢
    rw [List.map_cons, List.map_cons, ih]
    congr 1
    by_cases h : j.1 = nk
    · have : p.1 = k := nkey_inj _ _ nk (by rw [e1, h]) hk
      simp [h, this]
    · have : p.1 ≠ k := fun z => h (Option.some.inj (e1.symm.trans ((congrArg nkey z).trans hk)))
      simp [h, this]
theorem sel_vals {nk : NestedKey} {x : V} : ∀ rows : List Row, (rows.map fun r => if r.1 = nk then (r.1, r.2.1, x) else r).map (fun r => r.2.2) = selX (rows.map fun r => decide (r.1 = nk)) x (rows.map fun r => r.2.2)
  | [] => rfl
  | r :: rows => by
    rw [List.map_cons, List.map_cons, sel_vals rows]
    by_cases h : r.1 = nk
    · simp [selX, h]
    · simp [selX, h]
theorem GetIs.isSome {kvs : List (D × D)} {ys xs : List V} {gp : List Addr} {k : D} {o : Option D} {r : Option V} (h : GetIs c H kvs ys xs gp k o r) : r.isSome = o.isSome := by
  cases o with
  | none => rw [show r = none from h]; rfl
  | some d =>
    obtain ⟨x, fp, h1, _⟩ := h
    rw [h1]
    rfl
end
end Z
set_option Elab.async false
set_option linter.all false
set_option maxRecDepth 100000
set_option maxHeartbeats 4000000
/-! Z36: dicts over data: d[k], d.get(k), in, d[k] = v, setdefault, len; walks of dicts that never change any more. -/
namespace Z
open PySem PySem.Spec PyProof.Rows L2
def plainK (kvs : List (D × D)) : Prop := isSrc kvs = false ∧ isFrz kvs = false ∧ isFrd kvs = false
/-- a dict, of either kind -/
def IsDc (d : D) (kvs : List (D × D)) : Prop := (d = .dict kvs ∧ plainK kvs) ∨ d = frdD kvs
section
variable {c : Zc} {H : Hp}
theorem rp_dict {kvs : List (D × D)} (hp : plainK kvs) {v : V} {fp : List Addr} : Rp c H (.dict kvs) v fp ↔ ∃ a ys xs gp, v = .ref a ∧ fp = a :: gp ∧ Rpk c H kvs ys xs gp ∧ ∃ u, H a = some u ∧ DictU a (kvs.map (·.1)) ys xs u := by
  simp only [Rp]
  rw [if_neg (by rw [hp.1]; simp), if_neg (by rw [hp.2.1]; simp), if_neg (by rw [hp.2.2]; simp)]
theorem IsDc.rp {d : D} {kvs : List (D × D)} (l : IsDc d kvs) {v : V} {fp : List Addr} (r : Rp c H d v fp) :
    ∃ a ys xs gp u, v = .ref a ∧ Rd H a u ∧ DictU a (kvs.map (·.1)) ys xs u ∧ Rpk c H kvs ys xs gp ∧ (∀ b ∈ gp, b ∈ fp) ∧ (fp.Nodup → gp.Nodup) := by
  rcases l with ⟨rfl, hp⟩ | rfl
  · obtain ⟨a, ys, xs, gp, rfl, rfl, h1, u, h2, h3⟩ := (rp_dict hp).mp r
    exact ⟨a, ys, xs, gp, u, rfl, .inl h2, h3, h1, fun b hb => List.mem_cons_of_mem _ hb, fun n => (List.nodup_cons.mp n).2⟩
  · obtain ⟨a, ys, xs, rfl, rfl, ⟨o, u, h2, h3⟩, h1⟩ := rp_frd.mp r
    exact ⟨a, ys, xs, [], u, rfl, .inr ⟨o, h2⟩, h3, h1, fun b hb => hb, fun n => n⟩
end
section
variable {K : PySem.W.Frag} {S : Option (Addr × Addr)}
/-! ### reads -/
def dKGet (m mk : DM) : DM := fun ρ R => m ρ fun d => ∃ kvs, IsDc d kvs ∧ mk ρ fun k => KeyOk k ∧ Homog kvs k ∧ ∃ v, kFind kvs k = some v ∧ R v
def dKGet1 (m mk : DM) : DM := fun ρ R => m ρ fun d => ∃ kvs, IsDc d kvs ∧ mk ρ fun k => KeyOk k ∧ Homog kvs k ∧ R ((kFind kvs k).getD .none)
def dKGet2 (m mk mx : DM) : DM := fun ρ R => m ρ fun d => ∃ kvs, IsDc d kvs ∧ mk ρ fun k => KeyOk k ∧ Homog kvs k ∧ mx ρ fun x => R ((kFind kvs k).getD x)
def dKIn (neg : Bool) (mk m : DM) : DM := fun ρ R => mk ρ fun k => KeyOk k ∧ m ρ fun d => ∃ kvs, IsDc d kvs ∧ Homog kvs k ∧ R (.bool (xor neg (kFind kvs k).isSome))
/-! ### stores -/
/-- the slot holds a dict of its own -/
def ownK (s : Option Sl) (k : List (D × D) → Prop) : Prop := ∃ kvs, s = some (.own (.dict kvs)) ∧ plainK kvs ∧ k kvs
theorem DictU.notFix {a : Addr} {ks : List D} {ys xs : List V} {u : HO} (h : DictU a ks ys xs u) : ¬ Fix u := fun hf => by
  obtain ⟨_, n1, n2⟩ := h.not_fix
  cases u with
  | tup zs => exact n1 zs rfl
  | frz o z => exact n2 o z rfl
  | _ => exact hf
def sKPut (i : Nat) (mk mv : DM) : DMS := fun ρ R => mv ρ fun v => ownK ρ[i]? fun kvs => mk ρ fun k => KeyOk k ∧ Homog kvs k ∧ kvs.length < 10000000 ∧ R.nx (ρ.set i (.own (.dict (kPut kvs k v))))
/-- x = d.setdefault(k, e), e without lists of its own -/
def sKSetd (j i : Nat) (mk mx : DM) : DMS := fun ρ R => ownK ρ[i]? fun kvs => mk ρ fun k => KeyOk k ∧ Homog kvs k ∧ kvs.length < 10000000 ∧ mx ρ fun x => solid x = true ∧
  match kFind kvs k with
  | some v => solid v = true ∧ R.nx (ρ.set j (.own v))
  | none => R.nx ((ρ.set i (.own (.dict (kPut kvs k x)))).set j (.own x))
/-! ### d.setdefault(k, []).append(e) -/
theorem Held.keys {c : Zc} {H : Hp} {kvs : List (D × D)} {ys xs : List V} {gp : List Addr} {k d v : D} {x : V} {fp : List Addr} (h : Held c H kvs ys xs gp k d x fp) (nd : (kvs.map (·.1)).Nodup) : (kRepl kvs k v).map (·.1) = kvs.map (·.1) := kRepl_keys ..
def sKSetApp (i : Nat) (mk me : DM) : DMS := fun ρ R => ownK ρ[i]? fun kvs => mk ρ fun k => KeyOk k ∧ Homog kvs k ∧ kvs.length < 10000000 ∧
  match kFind kvs k with
  | some d => ∃ ds, d = .list ds ∧ ds.length < 10000000 ∧ me ρ fun e => solid e = true ∧ R.nx (ρ.set i (.own (.dict (kPut kvs k (.list (ds ++ [e]))))))
  | none => me (ρ.set i (.own (.dict (kPut kvs k (.list []))))) fun e => solid e = true ∧ R.nx (ρ.set i (.own (.dict (kPut kvs k (.list [e])))))
end
end Z
set_option Elab.async false
set_option linter.all false
set_option maxRecDepth 100000
set_option maxHeartbeats 4000000
/-! Z37: what is made and then never changed: the ghost of freezing; walks of dicts that never change any more. -/
namespace Z
open PySem PySem.Spec PyProof.Rows L2
/-! ### freezing -/
def Chg (u : HO) : Prop := (∃ xs, u = .lst xs) ∨ (∃ kvs, u = .dK kvs) ∨ ∃ φ, u = .ext φ
theorem Chg.notFix {u : HO} (h : Chg u) : ¬ Fix u := by
  rcases h with ⟨xs, rfl⟩ | ⟨kvs, rfl⟩ | ⟨φ, rfl⟩ <;> exact id
def FrzBy (L : List Addr) (H H' : Hp) : Prop := ∀ b, (b ∉ L → H' b = H b) ∧ (b ∈ L → ∃ o u, H b = some u ∧ Chg u ∧ H' b = some (.frz o u))
theorem FrzBy.tk {L : List Addr} {H H' : Hp} (h : FrzBy L H H') : Tk H H' := fun b o hb hf => by
  by_cases z : b ∈ L
  · obtain ⟨ob, u, h1, h2, _⟩ := (h b).2 z
    rw [h1] at hb
    cases hb
    exact (h2.notFix hf).elim
  · rw [(h b).1 z]
    exact hb
mutual
/-- nothing in it changes any more -/
def fz : D → D
  | .none => .none
  | .bool b => .bool b
  | .int i => .int i
  | .str x => .str x
  | .list ds => frzD (fzs ds)
  | .tuple ds => .tuple (fzs ds)
  | .dict kvs => if isSrc kvs = true then .dict kvs else if isFrz kvs = true then .dict kvs else if isFrd kvs = true then .dict kvs else frdD (fzk kvs)
def fzs : List D → List D
  | [] => []
  | d :: ds => fz d :: fzs ds
def fzk : List (D × D) → List (D × D)
  | [] => []
  | (k, d) :: ds => (k, fz d) :: fzk ds
end
section
variable {K : PySem.W.Frag} {S : Option (Addr × Addr)}
def sFz (i : Nat) (m : DMS) : DMS := fun ρ R => ∃ d, ρ[i]? = some (.own d) ∧ m (ρ.set i (.val (fz d))) R
end
/-! ### walks -/
section
variable {K : PySem.W.Frag} {S : Option (Addr × Addr)}
def dXKeys (m : DM) : DMs := fun ρ R => m ρ fun d => ∃ kvs, d = frdD kvs ∧ R (kvs.map (·.1))
def dXVals (m : DM) : DMs := fun ρ R => m ρ fun d => ∃ kvs, d = frdD kvs ∧ R (kvs.map (·.2))
def dXItems (m : DM) : DMs := fun ρ R => m ρ fun d => ∃ kvs, d = frdD kvs ∧ R (kvs.map fun p => .tuple [p.1, p.2])
end
end Z
set_option Elab.async false
set_option linter.all false
set_option maxRecDepth 100000
set_option maxHeartbeats 4000000
/-! Z38: {} and len of dicts of any keys; dicts as lists of typed pairs. -/
namespace Z
open PySem PySem.Spec PyProof.Rows L2
section
variable {K : PySem.W.Frag} {S : Option (Addr × Addr)}
def dLenX (m : DM) : DM := fun ρ R => m ρ fun d => ∃ kvs, IsDc d kvs ∧ R (.int ((kvs.length : Nat) : Int))
def dNewX : DM := fun _ R => R (.dict [])
end
/-! ### typed pairs -/
section
variable {α β : Type} [DecidableEq α] {f : α → D} {g : β → D}
def aFind (xs : List (α × β)) (a : α) : Option β := (xs.find? fun p => decide (p.1 = a)).map (·.2)
def aPut (xs : List (α × β)) (a : α) (b : β) : List (α × β) := if (aFind xs a).isSome then xs.map (fun p => if p.1 = a then (p.1, b) else p) else xs ++ [(a, b)]
theorem aFind_mem {xs : List (α × β)} {a : α} : (aFind xs a).isSome = true ↔ a ∈ xs.map (·.1) := by
  unfold aFind
  rw [Option.isSome_map, List.find?_isSome]
  constructor
  · rintro ⟨p, hp, e⟩
    exact List.mem_map.mpr ⟨p, hp, by simpa using e⟩
  · intro h
    obtain ⟨p, hp, e⟩ := List.mem_map.mp h
    exact ⟨p, hp, by simpa using e⟩
theorem aFind_of_mem {xs : List (α × β)} (nd : (xs.map (·.1)).Nodup) {a : α} {b : β} (h : (a, b) ∈ xs) : aFind xs a = some b := by
  induction xs with
  | nil => cases h
  | cons p xs ih =>
    rw [List.map_cons] at nd
    obtain ⟨n1, n2⟩ := List.nodup_cons.mp nd
    rcases List.mem_cons.mp h with rfl | h
    · simp [aFind]
    · have : p.1 ≠ a := fun z => n1 (z ▸ List.mem_map.mpr ⟨_, h, rfl⟩)
      have := ih n2 h
      unfold aFind at this ⊢
      rw [List.find?_cons]
      simp [*]
theorem aPut_keys (xs : List (α × β)) (a : α) (b : β) : (aPut xs a b).map (·.1) = if a ∈ xs.map (·.1) then xs.map (·.1) else xs.map (·.1) ++ [a] := by
  unfold aPut
  by_cases h : a ∈ xs.map (·.1)
  · rw [if_pos (aFind_mem.mpr h), if_pos h, List.map_map]
    refine List.map_congr_left fun p _ => ?_
    simp only [Function.comp]
    split <;> rfl
  · rw [if_neg fun z => h (aFind_mem.mp z), if_neg h, List.map_append]
    rfl
theorem aPut_nodup {xs : List (α × β)} (nd : (xs.map (·.1)).Nodup) (a : α) (b : β) : ((aPut xs a b).map (·.1)).Nodup := by
  rw [aPut_keys]
  split
  · exact nd
  · rename_i h
    exact List.nodup_append.mpr ⟨nd, List.pairwise_singleton _ _, fun x hx y hy z => h (by rw [List.mem_singleton.mp hy] at z; exact z ▸ hx)⟩
theorem aFind_put (xs : List (α × β)) (a c : α) (b : β) : aFind (aPut xs a b) c = if c = a then some b else aFind xs c := by
  unfold aPut
  by_cases h : (aFind xs a).isSome = true
  · rw [if_pos h]
    by_cases hc : c = a
    · subst hc
      rw [if_pos rfl]
      induction xs with
      | nil => cases h
      | cons p xs ih =>
        by_cases e : p.1 = c
        · simp [aFind, e]
        · have : (aFind xs c).isSome = true := by
            have h' := h
            unfold aFind at h' ⊢
            rw [List.find?_cons] at h'
            simpa [e] using h'
          have := ih this
          unfold aFind at this ⊢
          rw [List.map_cons, List.find?_cons]
          simpa [e] using this
    · rw [if_neg hc]
      clear h
      induction xs with
      | nil => rfl
      | cons p xs ih =>
        unfold aFind at ih ⊢
        rw [List.map_cons, List.find?_cons, List.find?_cons]
        by_cases e : p.1 = a
        · have : ¬ p.1 = c := fun z => hc (z.symm.trans e)
          have a' : ¬ a = c := fun z => hc z.symm
          simp only [e, if_true, a', decide_false]
          exact ih
        · by_cases e2 : p.1 = c
          · have h3 : (if p.1 = a then (p.1, b) else p) = p := if_neg e
            rw [h3]
            simp [e2]
          · simp only [e, if_false, e2, decide_false]
            exact ih
  · rw [if_neg h]
    by_cases hc : c = a
    · subst hc
      rw [if_pos rfl]
      have : aFind xs c = none := by
        cases hh : aFind xs c with
        | none => rfl
        | some b => rw [hh] at h; exact (h rfl).elim
      unfold aFind at this ⊢
      rw [Option.map_eq_none_iff] at this
      rw [List.find?_append, this]
      simp
    · rw [if_neg hc]
      unfold aFind
      rw [List.find?_append]
      have : ¬ a = c := fun z => hc z.symm
      cases hh : xs.find? (fun p => decide (p.1 = c)) with
      | none => simp [this]
      | some p => simp
end
end Z
set_option Elab.async false
set_option linter.all false
set_option maxRecDepth 100000
set_option maxHeartbeats 4000000
/-! Z39: len(dict(pairs)), the keys ints. -/
namespace Z
open PySem PySem.Spec PyProof.Rows L2
section
variable {K : PySem.W.Frag} {S : Option (Addr × Addr)}
def dLenDict0 (m : DM) : DM := fun ρ R => m ρ fun d => ∃ ns : List Int, d = pairs0 ns ∧ ∀ ks : List Int, ks.Nodup → (∀ x, x ∈ ks ↔ x ∈ ns) → R (.int ((ks.length : Nat) : Int))
end
end Z
set_option Elab.async false
set_option linter.all false
set_option maxHeartbeats 1000000
/-! G26: rows put together by what is seen at places; what a lot tells. Plain Lean. -/
namespace Z
open PySem PySem.Spec PyProof.Rows L2
def grpS (P : List Nat) (xs : List (List Bool × List (List Bool))) (v : List Bool) : List (List Bool × List (List Bool)) := aPut xs (atP P v) ((aFind xs (atP P v)).getD [] ++ [v])
def alike (P : List Nat) (V : List (List Bool)) (k : List Bool) : List (List Bool) := V.filter fun v => atP P v == k
def optL (l : List (List Bool)) : Option (List (List Bool)) := if l = [] then none else some l
structure Grp (P : List Nat) (V : List (List Bool)) (xs : List (List Bool × List (List Bool))) : Prop where
  nd : (xs.map (·.1)).Nodup
  at' : ∀ k, aFind xs k = optL (alike P V k)
theorem optL_getD (l : List (List Bool)) : (optL l).getD [] = l := by
  unfold optL
  split
  · rename_i h
    rw [h]
    rfl
  · rfl
theorem Grp.step {P : List Nat} {V : List (List Bool)} {xs : List (List Bool × List (List Bool))} (h : Grp P V xs) (v : List Bool) : Grp P (V ++ [v]) (grpS P xs v) := by
  refine ⟨aPut_nodup h.nd _ _, fun k => ?_⟩
  unfold grpS
  rw [aFind_put, h.at', optL_getD]
  unfold alike
  rw [List.filter_append]
  by_cases e : k = atP P v
  · subst e
    rw [if_pos rfl]
    have : [v].filter (fun w => atP P w == atP P v) = [v] := by simp
    rw [this]
    unfold optL
    rw [if_neg (by simp)]
  · rw [if_neg e, h.at']
    have : [v].filter (fun w => atP P w == k) = [] := by
      rw [List.filter_eq_nil_iff]
      intro a ha
      rw [List.mem_singleton.mp ha]
      simpa using fun z => e z.symm
    rw [this, List.append_nil]
    rfl
section
variable {P : List Nat} {V : List (List Bool)} {xs : List (List Bool × List (List Bool))}
theorem Grp.val (h : Grp P V xs) {p : List Bool × List (List Bool)} (hp : p ∈ xs) : p.2 = alike P V p.1 := by
  have := aFind_of_mem h.nd (a := p.1) (b := p.2) hp
  rw [h.at'] at this
  unfold optL at this
  split at this
  · cases this
  · exact (Option.some.inj this).symm
theorem Grp.keys (h : Grp P V xs) (k : List Bool) : k ∈ xs.map (·.1) ↔ ∃ v ∈ V, atP P v = k := by
  rw [← aFind_mem, h.at']
  unfold optL alike
  constructor
  · intro z
    split at z
    · cases z
    · rename_i hne
      obtain ⟨v, hv⟩ := List.exists_mem_of_ne_nil _ hne
      obtain ⟨h1, h2⟩ := List.mem_filter.mp hv
      exact ⟨v, h1, by simpa using h2⟩
  · rintro ⟨v, hv, e⟩
    rw [if_neg]
    · rfl
    · intro z
      have : v ∈ V.filter fun w => atP P w == k := List.mem_filter.mpr ⟨hv, by simpa using e⟩
      rw [z] at this
      cases this
theorem Grp.has (h : Grp P V xs) {v : List Bool} (hv : v ∈ V) : (atP P v, alike P V (atP P v)) ∈ xs := by
  obtain ⟨p, hp, e⟩ := List.mem_map.mp ((h.keys (atP P v)).mpr ⟨v, hv, rfl⟩)
  have := h.val hp
  rw [← e, ← this]
  exact hp
end
/-! ### what a lot tells -/
end Z
set_option Elab.async false
set_option linter.all false
set_option maxRecDepth 100000
set_option maxHeartbeats 4000000
/-! Z40: dict(list of pairs) whose keys are tuples of any depth. -/
namespace Z
open PySem PySem.Spec PyProof.Rows L2
/-! ### over data -/
noncomputable def kMerge (kvs : List (D × D)) : List (D × D) := kvs.foldl (fun acc p => kPut acc p.1 p.2) []
def KeyT (d : D) : Prop := ∃ (nk : NestedKey) (l : List NestedKey), nkey d = some nk ∧ nk = .tup l ∧ nk.depth ≤ 8
theorem KeyT.ok {d : D} (h : KeyT d) : KeyOk d := .inr h
theorem KeyT.tup {d : D} (h : KeyT d) : isTuple d = true := by
  obtain ⟨nk, l, h1, h2, _⟩ := h
  exact isTuple_nkey (by rw [h1, h2])
section
variable {c : Zc} {H : Hp}
/-- the rows that stand for pairs -/
structure RowsAs (c : Zc) (H : Hp) (kvs : List (D × D)) (rows : List Row) : Prop where
  ks : (kvs.map (·.1)).map nkey = rows.map (fun r => some r.1)
  rp : Rpk c H kvs (rows.map fun r => .ref r.2.1) (rows.map fun r => r.2.2) []
  nd : (rows.map (·.1)).Nodup
  tp : ∀ r ∈ rows, r.1.depth ≤ 8 ∧ ∃ l, r.1 = .tup l
theorem RowsAs.keys {kvs : List (D × D)} {rows : List Row} (h : RowsAs c H kvs rows) : (kvs.map (·.1)).Nodup := by
  have : ((kvs.map (·.1)).map nkey).Nodup := by
    rw [h.ks, show (fun r : Row => some r.1) = some ∘ (fun r : Row => r.1) from rfl, ← List.map_map]
    exact List.Pairwise.map _ (fun a b hne z => hne (Option.some.inj z)) h.nd
  exact List.Pairwise.of_map _ (fun a b hne z => hne (congrArg nkey z)) this
theorem RowsAs.put {kvs : List (D × D)} {rows : List Row} (h : RowsAs c H kvs rows) {k v : D} {nk : NestedKey} {l : List NestedKey} (hk : nkey k = some nk) (hl : nk = .tup l) (hd : nk.depth ≤ 8) {b : Addr} {x : V} (rk : Rp c H k (.ref b) []) (rv : Rp c H v x []) : RowsAs c H (kPut kvs k v) (rowPut rows nk b x) := by
  have gi := find_dX (c := c) (H := H) hk h.ks rfl h.rp
  have eS := gi.isSome
  have tp : ∀ q ∈ rowPut rows nk b x, q.1.depth ≤ 8 ∧ ∃ l, q.1 = .tup l := fun q hq => by
    have : q.1 ∈ (rowPut rows nk b x).map (·.1) := List.mem_map.mpr ⟨q, hq, rfl⟩
    rw [rowPut_keys] at this
    have old : q.1 ∈ rows.map (·.1) → q.1.depth ≤ 8 ∧ ∃ l, q.1 = .tup l := fun z => by
      obtain ⟨q', hq', e'⟩ := List.mem_map.mp z
      rw [← e']
      exact h.tp q' hq'
    split at this
    · exact old this
    · rcases List.mem_append.mp this with z | z
      · exact old z
      · rw [List.mem_singleton.mp z]
        exact ⟨hd, l, hl⟩
  have nds : ((rowPut rows nk b x).map (·.1)).Nodup := by
    rw [rowPut_keys]
    split
    · exact h.nd
    · rename_i hn
      refine List.nodup_append.mpr ⟨h.nd, List.pairwise_singleton _ _, fun b hb b' hb' z => ?_⟩
      rw [List.mem_singleton.mp hb'] at z
      exact rowAt_none hn (z ▸ hb)
  have hks := h.ks
  have hrp := h.rp
  cases hf : (kFind kvs k).isSome with
  | true =>
    rw [hf] at eS
    obtain ⟨gp', a1, a2, a3, _⟩ := rpk_sel (k := k) rv List.nodup_nil h.keys h.rp List.nodup_nil fun b hb => by cases hb
    have eg : gp' = [] := List.eq_nil_iff_forall_not_mem.mpr fun b hb => by
      rcases a2 b hb with z | z <;> cases z
    subst eg
    refine ⟨?_, ?_, nds, tp⟩
    · rw [kPut_keys, if_pos hf, hks]
      rw [show (fun r : Row => some r.1) = some ∘ (fun r : Row => r.1) from rfl, ← List.map_map, ← List.map_map, rowPut_keys, if_pos eS]
    · unfold kPut
      rw [if_pos hf]
      have e1 : (rowPut rows nk b x).map (fun r => V.ref r.2.1) = rows.map (fun r => V.ref r.2.1) := by
        unfold rowPut
        rw [if_pos eS, List.map_map]
        refine List.map_congr_left fun q _ => ?_
        simp only [Function.comp]
        split <;> rfl
      have e2 : (rowPut rows nk b x).map (fun r => r.2.2) = selX (kSel kvs k) x (rows.map fun r => r.2.2) := by
        unfold rowPut
        rw [if_pos eS, sel_vals, sel_rows hk hks]
      rw [e1, e2]
      exact a1
  | false =>
    rw [hf] at eS
    refine ⟨?_, ?_, nds, tp⟩
    · rw [kPut_keys, if_neg (by rw [hf]; simp), List.map_append, hks]
      rw [show (fun r : Row => some r.1) = some ∘ (fun r : Row => r.1) from rfl, ← List.map_map, ← List.map_map, rowPut_keys, if_neg (by rw [eS]; simp), List.map_append]
      rw [List.map_cons, hk]
      rfl
    · unfold kPut
      rw [if_neg (by rw [hf]; simp)]
      have e1 : (rowPut rows nk b x).map (fun r => V.ref r.2.1) = rows.map (fun r => V.ref r.2.1) ++ [.ref b] := by
        unfold rowPut
        rw [if_neg (by rw [eS]; simp), List.map_append]
        rfl
      have e2 : (rowPut rows nk b x).map (fun r => r.2.2) = rows.map (fun r => r.2.2) ++ [x] := by
        unfold rowPut
        rw [if_neg (by rw [eS]; simp), List.map_append]
        rfl
      rw [e1, e2]
      have := rpk_snoc rk rv hrp
      rwa [List.append_nil] at this
end
section
variable {K : PySem.W.Frag} {S : Option (Addr × Addr)}
def dDictX (m : DM) : DM := fun ρ R => m ρ fun d => ∃ kvs : List (D × D), d = .list (kvs.map fun p => .tuple [p.1, p.2]) ∧ kvs ≠ [] ∧ (∀ p ∈ kvs, KeyT p.1 ∧ solid p.2 = true) ∧ kvs.length ≤ 10000000 ∧ R (.dict (kMerge kvs))
end
/-! ### merged typed pairs -/
section
variable {α β : Type} [DecidableEq α] {f : α → D} {g : β → D}
def aMerge (xs : List (α × β)) : List (α × β) := xs.foldl (fun acc p => aPut acc p.1 p.2) []
theorem aMerge_keys (xs : List (α × β)) : ((aMerge xs).map (·.1)).Nodup ∧ ∀ a, a ∈ (aMerge xs).map (·.1) ↔ a ∈ xs.map (·.1) := by
  have : ∀ (xs acc : List (α × β)), (acc.map (·.1)).Nodup → ((xs.foldl (fun acc p => aPut acc p.1 p.2) acc).map (·.1)).Nodup ∧ ∀ a, a ∈ (xs.foldl (fun acc p => aPut acc p.1 p.2) acc).map (·.1) ↔ a ∈ acc.map (·.1) ∨ a ∈ xs.map (·.1) := fun xs => by
    induction xs with
    | nil => exact fun acc h => ⟨h, fun a => by simp⟩
    | cons p xs ih =>
      intro acc h
      obtain ⟨h1, h2⟩ := ih (aPut acc p.1 p.2) (aPut_nodup h _ _)
      refine ⟨h1, fun a => ?_⟩
      rw [List.foldl_cons, h2 a, aPut_keys, List.map_cons, List.mem_cons]
      split
      · rename_i hm
        constructor
        · rintro (z | z)
          · exact .inl z
          · exact .inr (.inr z)
        · rintro (z | rfl | z)
          · exact .inl z
          · exact .inl hm
          · exact .inr z
      · rw [List.mem_append, List.mem_singleton, or_assoc]
  have h := this xs [] List.nodup_nil
  exact ⟨h.1, fun a => by
    have := h.2 a
    exact this.trans (by simp)⟩
end
end Z
set_option Elab.async false
set_option linter.all false
set_option maxRecDepth 100000
set_option maxHeartbeats 4000000
/-! Z41: sorted of lists that never change. -/
namespace Z
open PySem PySem.Spec PyProof.Rows L2
section
variable {K : PySem.W.Frag} {S : Option (Addr × Addr)}
def fSortedF (b : Bool) : List D → (D → Prop) → Prop := fun ds R => match ds with
  | [d] => ∃ xs, IsL d xs ∧ solids xs = true ∧ SortOk xs ∧ R (.list (sortD b xs))
  | _ => False
end
end Z
set_option Elab.async false
set_option linter.all false
set_option maxHeartbeats 1000000
/-! G27: how many unlike lots of ends there are. Plain Lean. -/
set_option Elab.async false
set_option linter.all false
set_option maxHeartbeats 1000000
/-! G28: lots of ends, sorted. Plain Lean. -/
set_option Elab.async false
set_option linter.all false
set_option maxRecDepth 100000
set_option maxHeartbeats 4000000
/-! Z42: sorted of lists of one item at most, whatever it is. -/
namespace Z
open PySem PySem.Spec PyProof.Rows L2
section
variable {K : PySem.W.Frag} {S : Option (Addr × Addr)}
/-- sorted of a list of either kind; of one item at most: whatever it is -/
def fSortedW : List D → (D → Prop) → Prop := fun ds R => match ds with
  | [d] => ∃ xs, IsL d xs ∧ solids xs = true ∧ ((SortOk xs ∧ R (.list (sortD false xs))) ∨ (xs.length ≤ 1 ∧ R (.list xs)))
  | _ => False
end
end Z
set_option Elab.async false
set_option linter.all false
set_option maxRecDepth 100000
set_option maxHeartbeats 4000000
/-! Z43: itertools.combinations(xs, r), at the library's level. -/
set_option Elab.async false
set_option linter.all false
set_option maxRecDepth 100000
set_option maxHeartbeats 4000000
/-! Z44: itertools.combinations(xs, r) over the layer. -/
namespace Z
open PySem PySem.Spec PyProof.Rows L2
/-! ### the lots in order -/
/-- the ways to pick r of them, in order -/
def picks {α : Type} : List α → Nat → List (List α)
  | _, 0 => [[]]
  | [], _ + 1 => []
  | x :: xs, r + 1 => (picks xs r).map (x :: ·) ++ picks xs (r + 1)
section
variable {K : PySem.W.Frag} {S : Option (Addr × Addr)}
/-- combinations -/
def combD (ds : List D) (r : Nat) : List D := (picks ds r).map .tuple
def dCmbR (m1 m2 : DM) : DMs := fun ρ R => m1 ρ fun d => asI d fun n => (0 ≤ n ∧ n ≤ 100000) ∧ m2 ρ fun e => asI e fun r => (0 ≤ r ∧ r ≤ 100000) ∧ R (combD (rangeD 0 n.toNat 1) r.toNat)
def dCmbL (ms : DMs) : DMs := fun ρ R => ms ρ fun ds => match ds with
  | [.list xs, .int r] => (0 ≤ r ∧ r ≤ 100000) ∧ R (combD xs r.toNat)
  | [.tuple xs, .int r] => (0 ≤ r ∧ r ≤ 100000) ∧ R (combD xs r.toNat)
  | _ => False
end
end Z
set_option Elab.async false
set_option linter.all false
set_option maxRecDepth 100000
set_option maxHeartbeats 4000000
/-! G29: base lots, their changes. -/
set_option Elab.async false
set_option linter.all false
set_option maxRecDepth 100000
set_option maxHeartbeats 4000000
/-! G30: loops. -/
set_option Elab.async false
set_option linter.all false
set_option maxRecDepth 100000
set_option maxHeartbeats 4000000
/-! G31: rows of numbers below p; spans. Plain Lean. -/
namespace Z
open PySem L2
/-- entry -/
def en (v : List Int) (i : Nat) : Int := v.getD i 0
/-- a row of m numbers below p -/
def Vec (p : Int) (m : Nat) (v : List Int) : Prop := v.length = m ∧ ∀ x ∈ v, 0 ≤ x ∧ x < p
/-- c times b and v -/
def axp (p c : Int) (b v : List Int) : List Int := (b.zip v).map fun q => (c * q.1 + q.2) % p
theorem axp_len {p c : Int} {b v : List Int} {m : Nat} (h : b.length = m) (k : v.length = m) : (axp p c b v).length = m := by
  unfold axp
  rw [List.length_map, List.length_zip, h, k]
  omega
theorem en_axp {p c : Int} {b v : List Int} {m i : Nat} (h : b.length = m) (k : v.length = m) (hi : i < m) : en (axp p c b v) i = (c * en b i + en v i) % p := by
  unfold en axp
  have h1 : i < b.length := by omega
  have h2 : i < v.length := by omega
  rw [List.getD_eq_getElem?_getD, List.getD_eq_getElem?_getD, List.getD_eq_getElem?_getD, List.getElem?_map, List.getElem?_eq_getElem h1, List.getElem?_eq_getElem h2, List.getElem?_eq_getElem (by rw [List.length_zip]; omega)]
  simp
theorem vec_ext {p : Int} {m : Nat} {a b : List Int} (ha : Vec p m a) (hb : Vec p m b) (h : ∀ i, i < m → en a i % p = en b i % p) : a = b := by
  refine List.ext_getElem (by rw [ha.1, hb.1]) fun i h1 h2 => ?_
  have e := h i (by rw [← ha.1]; exact h1)
  unfold en at e
  rw [List.getD_eq_getElem?_getD, List.getD_eq_getElem?_getD, List.getElem?_eq_getElem h1, List.getElem?_eq_getElem h2] at e
  have x := ha.2 _ (List.getElem_mem h1)
  have y := hb.2 _ (List.getElem_mem h2)
  simp only [Option.getD_some] at e
  rwa [Int.emod_eq_of_lt x.1 x.2, Int.emod_eq_of_lt y.1 y.2] at e
theorem vec_axp {p c : Int} {m : Nat} {b v : List Int} (hp : 0 < p) (hb : b.length = m) (hv : v.length = m) : Vec p m (axp p c b v) := by
  refine ⟨axp_len hb hv, fun x hx => ?_⟩
  unfold axp at hx
  obtain ⟨q, _, rfl⟩ := List.mem_map.mp hx
  exact ⟨Int.emod_nonneg _ (by omega), Int.emod_lt_of_pos _ hp⟩
def zer (m : Nat) : List Int := List.replicate m 0
theorem zer_len (m : Nat) : (zer m).length = m := List.length_replicate ..
theorem en_zer (m i : Nat) : en (zer m) i = 0 := by
  unfold en zer
  rw [List.getD_eq_getElem?_getD, List.getElem?_replicate]
  by_cases h : i < m <;> simp [h]
theorem vec_zer {p : Int} (hp : 0 < p) (m : Nat) : Vec p m (zer m) := ⟨zer_len m, fun x hx => by rw [List.eq_of_mem_replicate hx]; exact ⟨Int.le_refl _, hp⟩⟩
/-- what S spans -/
inductive Spn (p : Int) (m : Nat) (S : List (List Int)) : List Int → Prop
  | zero : Spn p m S (zer m)
  | add {b v : List Int} (c : Int) : b ∈ S → Spn p m S v → Spn p m S (axp p c b v)
def VecS (p : Int) (m : Nat) (S : List (List Int)) : Prop := ∀ b ∈ S, Vec p m b
section
variable {p : Int} {m : Nat} {S T : List (List Int)}
theorem Spn.vec (hp : 0 < p) (hS : VecS p m S) {v : List Int} (s : Spn p m S v) : Vec p m v := by
  induction s with
  | zero => exact vec_zer hp m
  | add c hb _ ih => exact vec_axp hp (hS _ hb).1 ih.1
theorem axp_zero (hp : 0 < p) {v : List Int} (hv : Vec p m v) {b : List Int} (hb : b.length = m) {c : Int} (hc : c % p = 0) : axp p c b v = v := vec_ext (vec_axp hp hb hv.1) hv fun i hi => by
  rw [en_axp hb hv.1 hi, Int.emod_emod_of_dvd _ (Int.dvd_refl _), Int.add_emod, Int.mul_emod, hc]
  simp
theorem Spn.mono (h : ∀ b ∈ S, b ∈ T) {v : List Int} (s : Spn p m S v) : Spn p m T v := by
  induction s with
  | zero => exact .zero
  | add c hb _ ih => exact .add c (h _ hb) ih
theorem Spn.comb (hp : 0 < p) (hS : VecS p m S) (c : Int) {u v : List Int} (su : Spn p m S u) (sv : Spn p m S v) : Spn p m S (axp p c u v) := by
  induction su with
  | zero =>
    have e : axp p c (zer m) v = v := vec_ext (vec_axp hp (zer_len m) (sv.vec hp hS).1) (sv.vec hp hS) fun i hi => by
      rw [en_axp (zer_len m) (sv.vec hp hS).1 hi, en_zer, Int.mul_zero, Int.zero_add, Int.emod_emod_of_dvd _ (Int.dvd_refl _)]
    rw [e]
    exact sv
  | @add b w d hb sw ih =>
    have lb := (hS b hb).1
    have lw := (sw.vec hp hS).1
    have lv := (sv.vec hp hS).1
    have e : axp p c (axp p d b w) v = axp p (c * d) b (axp p c w v) := by
      refine vec_ext (vec_axp hp (axp_len lb lw) lv) (vec_axp hp lb (axp_len lw lv)) fun i hi => ?_
      rw [en_axp (axp_len lb lw) lv hi, en_axp lb lw hi, en_axp lb (axp_len lw lv) hi, en_axp lw lv hi]
      simp only [Int.emod_emod_of_dvd _ (Int.dvd_refl _)]
      rw [Int.add_emod, Int.mul_emod, Int.emod_emod_of_dvd _ (Int.dvd_refl _), ← Int.mul_emod, ← Int.add_emod, Int.add_emod (c * d * en b i), Int.emod_emod_of_dvd _ (Int.dvd_refl _), ← Int.add_emod]
      congr 1
      rw [Int.mul_add, Int.mul_assoc, Int.add_assoc]
    rw [e]
    exact .add _ hb ih
theorem Spn.self (hp : 0 < p) (hS : VecS p m S) {b : List Int} (hb : b ∈ S) : Spn p m S b := by
  have e : axp p 1 b (zer m) = b := vec_ext (vec_axp hp (hS b hb).1 (zer_len m)) (hS b hb) fun i hi => by
    rw [en_axp (hS b hb).1 (zer_len m) hi, en_zer, Int.one_mul, Int.add_zero, Int.emod_emod_of_dvd _ (Int.dvd_refl _)]
  have := Spn.add (m := m) (p := p) 1 hb .zero
  rwa [e] at this
theorem Spn.trans (hp : 0 < p) (hT : VecS p m T) (h : ∀ b ∈ S, Spn p m T b) {v : List Int} (s : Spn p m S v) : Spn p m T v := by
  induction s with
  | zero => exact .zero
  | add c hb _ ih => exact Spn.comb hp hT c (h _ hb) ih
/-- a row more: what it spans is a row of the old and a multiple of the new one -/
theorem Spn.split (hp : 0 < p) (hS : VecS p m S) {u : List Int} (hu : Vec p m u) {v : List Int} (s : Spn p m (u :: S) v) : ∃ (c : Int) (w : List Int), Spn p m S w ∧ v = axp p c u w := by
  have hU : VecS p m (u :: S) := fun b hb => by
    rcases List.mem_cons.mp hb with rfl | hb
    · exact hu
    · exact hS b hb
  induction s with
  | zero => exact ⟨0, zer m, .zero, (axp_zero hp (vec_zer hp m) hu.1 (Int.zero_emod _)).symm⟩
  | @add b v d hb sv ih =>
    obtain ⟨c, w, sw, rfl⟩ := ih
    have lw := (sw.vec hp hS)
    rcases List.mem_cons.mp hb with rfl | hb
    · refine ⟨d + c, w, sw, vec_ext (vec_axp hp hu.1 (axp_len hu.1 lw.1)) (vec_axp hp hu.1 lw.1) fun i hi => ?_⟩
      rw [en_axp hu.1 (axp_len hu.1 lw.1) hi, en_axp hu.1 lw.1 hi, en_axp hu.1 lw.1 hi]
      simp only [Int.emod_emod_of_dvd _ (Int.dvd_refl _)]
      rw [Int.add_emod (d * en b i), Int.emod_emod_of_dvd _ (Int.dvd_refl _), ← Int.add_emod, Int.add_mul, Int.add_assoc]
    · have lb := (hS b hb)
      refine ⟨c, axp p d b w, .add d hb sw, vec_ext (vec_axp hp lb.1 (axp_len hu.1 lw.1)) (vec_axp hp hu.1 (axp_len lb.1 lw.1)) fun i hi => ?_⟩
      rw [en_axp lb.1 (axp_len hu.1 lw.1) hi, en_axp hu.1 lw.1 hi, en_axp hu.1 (axp_len lb.1 lw.1) hi, en_axp lb.1 lw.1 hi]
      simp only [Int.emod_emod_of_dvd _ (Int.dvd_refl _)]
      rw [Int.add_emod (d * en b i), Int.emod_emod_of_dvd _ (Int.dvd_refl _), ← Int.add_emod, Int.add_emod (c * en u i), Int.emod_emod_of_dvd _ (Int.dvd_refl _), ← Int.add_emod]
      congr 1
      omega
/-- every number but 0 has one that makes 1 -/
def Inv1 (p : Int) : Prop := ∀ c : Int, c % p ≠ 0 → ∃ d : Int, (d * c) % p = 1
end
/-! ### ranks: how many rows are not spanned by those before them -/
section
variable {p : Int} {m : Nat} {S T : List (List Int)}
open Classical in
noncomputable def rkS (p : Int) (m : Nat) : List (List Int) → Nat
  | [] => 0
  | u :: S => rkS p m S + if Spn p m S u then 0 else 1
end
end Z
set_option Elab.async false
set_option linter.all false
set_option maxRecDepth 100000
set_option maxHeartbeats 4000000
/-! G32: heads of rows of numbers below p. Plain Lean. -/
namespace Z
open PySem L2
def stpM (p : Int) (l : List Int) (a : Nat × List Int) : List Int := (l.zip a.2).map fun q => (q.1 - en l a.1 * q.2) % p
def redM (p : Int) (H : List (Nat × List Int)) (v : List Int) : List Int := H.foldl (stpM p) v
def idxM (v : List Int) : List Nat := (v.zipIdx.filter fun q => q.1 != 0).map (·.2)
def turnM (p : Nat) (c : Int) : List Nat := (List.range p).filter fun x => ((x : Int) * c) % (p : Int) == 1
def addM (p : Nat) (H : List (Nat × List Int)) (v : List Int) : List (Nat × List Int) := match idxM (redM p H v) with
  | [] => H
  | k :: _ => H ++ [(k, (redM p H v).map fun x => (((turnM p (en (redM p H v) k)).getD 0 0 : Nat) * x) % (p : Int))]
section
variable {p : Int} {m : Nat} {X : List (List Int)}
theorem stpM_axp {l : List Int} {a : Nat × List Int} (hp : 0 < p) (hl : l.length = m) (ha : a.2.length = m) : stpM p l a = axp p (-(en l a.1)) a.2 l := by
  unfold stpM axp
  refine List.ext_getElem (by rw [List.length_map, List.length_map, List.length_zip, List.length_zip, hl, ha]) fun i h1 h2 => ?_
  rw [List.getElem_map, List.getElem_map, List.getElem_zip, List.getElem_zip]
  show (_ - _) % p = (_ + _) % p
  congr 1
  simp only []
  rw [Int.neg_mul]
  omega
structure TP (p : Int) (m : Nat) (X : List (List Int)) (H : List (Nat × List Int)) : Prop where
  vec : VecS p m (H.map (·.2))
  one : ∀ a ∈ H, en a.2 a.1 = 1
  low : H.Pairwise fun a b => en b.2 a.1 = 0
  lt : ∀ a ∈ H, a.1 < m
  sp : ∀ v, Spn p m (H.map (·.2)) v ↔ Spn p m X v
  cnt : H.length = rkS p m X
theorem TP.nil (p : Int) (m : Nat) : TP p m [] [] := ⟨fun b hb => (by cases hb), fun a ha => (by cases ha), .nil, fun a ha => (by cases ha), fun v => Iff.rfl, rfl⟩
theorem en_lt {v : List Int} (hv : Vec p m v) (hp : 0 < p) (i : Nat) : 0 ≤ en v i ∧ en v i < p := by
  unfold en
  rw [List.getD_eq_getElem?_getD]
  rcases Nat.lt_or_ge i v.length with h | h
  · rw [List.getElem?_eq_getElem h]
    exact hv.2 _ (List.getElem_mem h)
  · rw [List.getElem?_eq_none h]
    exact ⟨Int.le_refl _, hp⟩
theorem redM_ok (hp : 0 < p) : ∀ (H : List (Nat × List Int)), VecS p m (H.map (·.2)) → (∀ a ∈ H, en a.2 a.1 = 1) → H.Pairwise (fun a b => en b.2 a.1 = 0) → (∀ a ∈ H, a.1 < m) → ∀ v : List Int, Vec p m v →
    Vec p m (redM p H v) ∧ (∀ a ∈ H, en (redM p H v) a.1 = 0) ∧ (∀ i, i < m → (∀ a ∈ H, en a.2 i = 0) → en (redM p H v) i = en v i) ∧ (∀ C, VecS p m C → (∀ a ∈ H, Spn p m C a.2) → (Spn p m C (redM p H v) ↔ Spn p m C v))
  | [], _, _, _, _, v, hv => ⟨hv, fun a ha => (by cases ha), fun i _ _ => rfl, fun C _ _ => Iff.rfl⟩
  | a :: H, l, one, low, lt, v, hv => by
    have low := List.pairwise_cons.mp low
    have va : Vec p m a.2 := l _ (List.mem_cons_self ..)
    have es := stpM_axp (p := p) (l := v) (a := a) hp hv.1 va.1
    have vs : Vec p m (stpM p v a) := by rw [es]; exact vec_axp hp va.1 hv.1
    obtain ⟨h1, h2, h3, h4⟩ := redM_ok hp H (fun b hb => l b (List.mem_cons_of_mem _ hb)) (fun b hb => one b (List.mem_cons_of_mem _ hb)) low.2 (fun b hb => lt b (List.mem_cons_of_mem _ hb)) (stpM p v a) vs
    have e0 : redM p (a :: H) v = redM p H (stpM p v a) := rfl
    rw [e0]
    refine ⟨h1, fun b hb => ?_, fun i hi hz => ?_, fun C hC hH => ?_⟩
    · rcases List.mem_cons.mp hb with rfl | hb
      · rw [h3 b.1 (lt b (List.mem_cons_self ..)) low.1, es, en_axp va.1 hv.1 (lt b (List.mem_cons_self ..)), one b (List.mem_cons_self ..), Int.mul_one, Int.add_comm, Int.add_right_neg]
        exact Int.zero_emod _
      · exact h2 b hb
    · rw [h3 i hi fun b hb => hz b (List.mem_cons_of_mem _ hb), es, en_axp va.1 hv.1 hi, hz a (List.mem_cons_self ..), Int.mul_zero, Int.zero_add]
      have := en_lt hv hp i
      exact Int.emod_eq_of_lt this.1 this.2
    · refine (h4 C hC fun b hb => hH b (List.mem_cons_of_mem _ hb)).trans ?_
      have ha := hH a (List.mem_cons_self ..)
      rw [es]
      constructor
      · intro s
        -- v = (en v a.1) a + that
        have e : v = axp p (en v a.1) a.2 (axp p (-(en v a.1)) a.2 v) := vec_ext hv (vec_axp hp va.1 (axp_len va.1 hv.1)) fun i hi => by
          rw [en_axp va.1 (axp_len va.1 hv.1) hi, en_axp va.1 hv.1 hi, Int.emod_emod_of_dvd _ (Int.dvd_refl _), Int.add_emod (en v a.1 * en a.2 i), Int.emod_emod_of_dvd _ (Int.dvd_refl _), ← Int.add_emod, Int.neg_mul]
          congr 1
          omega
        rw [e]
        exact Spn.comb hp hC _ ha s
      · exact fun s => Spn.comb hp hC _ ha s
theorem zero_low (hp : 1 < p) : ∀ (H : List (Nat × List Int)), VecS p m (H.map (·.2)) → (∀ a ∈ H, en a.2 a.1 = 1) → H.Pairwise (fun a b => en b.2 a.1 = 0) → (∀ a ∈ H, a.1 < m) → ∀ w : List Int, Spn p m (H.map (·.2)) w → (∀ a ∈ H, en w a.1 = 0) → w = zer m
  | [], _, _, _, _, w, s, _ => by
    cases s with
    | zero => rfl
    | add c hb _ => cases hb
  | a :: H, l, one, low, lt, w, s, z => by
    have hp0 : 0 < p := by omega
    have low := List.pairwise_cons.mp low
    have va : Vec p m a.2 := l _ (List.mem_cons_self ..)
    have lH : VecS p m (H.map (·.2)) := fun b hb => l b (List.mem_cons_of_mem _ hb)
    obtain ⟨c, u, su, e⟩ := s.split hp0 lH va
    have vu := su.vec hp0 lH
    have zl : ∀ (T : List (Nat × List Int)) (q : Nat), q < m → VecS p m (T.map (·.2)) → (∀ b ∈ T, en b.2 q = 0) → ∀ x, Spn p m (T.map (·.2)) x → en x q = 0 := fun T q hq vT hT x sx => by
      induction sx with
      | zero => exact en_zer m q
      | @add b v d hb sv ih =>
        obtain ⟨t, ht, rfl⟩ := List.mem_map.mp hb
        rw [en_axp (vT _ hb).1 (sv.vec hp0 vT).1 hq, hT t ht, ih, Int.mul_zero, Int.add_zero]
        exact Int.zero_emod _
    have la := lt a (List.mem_cons_self ..)
    have u0 := zl H a.1 la lH low.1 u su
    have z0 := z a (List.mem_cons_self ..)
    rw [e, en_axp va.1 vu.1 la, one a (List.mem_cons_self ..), u0, Int.mul_one, Int.add_zero] at z0
    have ew : w = u := by rw [e, axp_zero hp0 vu va.1 z0]
    rw [ew]
    rw [ew] at z
    exact zero_low hp H lH (fun b hb => one b (List.mem_cons_of_mem _ hb)) low.2 (fun b hb => lt b (List.mem_cons_of_mem _ hb)) u su fun b hb => z b (List.mem_cons_of_mem _ hb)
theorem mem_idxM {v : List Int} {k : Nat} : k ∈ idxM v ↔ k < v.length ∧ en v k ≠ 0 := by
  unfold idxM
  rw [List.mem_map]
  constructor
  · rintro ⟨⟨x, j⟩, h, rfl⟩
    obtain ⟨h1, h2⟩ := List.mem_filter.mp h
    have := List.mem_zipIdx h1
    simp only [Nat.zero_le, Nat.zero_add, true_and, Nat.sub_zero] at this
    obtain ⟨hj, hx⟩ := this
    refine ⟨hj, ?_⟩
    unfold en
    rw [List.getD_eq_getElem?_getD, List.getElem?_eq_getElem hj]
    simp only [Option.getD_some]
    rw [← hx]
    simpa using h2
  · rintro ⟨h1, h2⟩
    refine ⟨(v[k], k), List.mem_filter.mpr ⟨?_, ?_⟩, rfl⟩
    · rw [List.mem_iff_getElem]
      exact ⟨k, by rw [List.length_zipIdx]; exact h1, by rw [List.getElem_zipIdx]; simp⟩
    · unfold en at h2
      rw [List.getD_eq_getElem?_getD, List.getElem?_eq_getElem h1] at h2
      simpa using h2
theorem vec_cons {v : List Int} (hX : VecS p m X) (hv : Vec p m v) : VecS p m (v :: X) := fun b hb => by
  rcases List.mem_cons.mp hb with rfl | hb
  · exact hv
  · exact hX b hb
theorem rkS_in {v : List Int} (h : Spn p m X v) : rkS p m (v :: X) = rkS p m X := by
  unfold rkS
  rw [if_pos h]
  cases X <;> rfl
theorem rkS_out {v : List Int} (h : ¬ Spn p m X v) : rkS p m (v :: X) = rkS p m X + 1 := by
  conv => lhs; unfold rkS
  rw [if_neg h]
/-- a row of numbers, times one -/
theorem scale_axp {l : List Int} {t : Int} (hp : 0 < p) (hl : l.length = m) : (l.map fun x => (t * x) % p) = axp p t l (zer m) := by
  unfold axp
  refine List.ext_getElem (by rw [List.length_map, List.length_map, List.length_zip, zer_len, hl]; omega) fun i h1 h2 => ?_
  rw [List.getElem_map, List.getElem_map, List.getElem_zip]
  show _ = (_ + (zer m)[i]'_) % p
  have : (zer m)[i]'(by rw [zer_len, ← hl]; simpa using h1) = 0 := by simp [zer]
  simp only [this, Int.add_zero]
/-- turnM finds one -/
theorem turn_ok {q : Nat} (ip : Inv1 q) (hq : 1 < q) {c : Int} (h : c % (q : Int) ≠ 0) : ∃ t : Nat, (turnM q c).getD 0 0 = t ∧ t < q ∧ ((t : Int) * c) % (q : Int) = 1 ∧ turnM q c ≠ [] := by
  obtain ⟨d, hd⟩ := ip c h
  have d0 := Int.emod_nonneg d (show (q : Int) ≠ 0 by omega)
  have d1 := Int.emod_lt_of_pos d (show (0 : Int) < q by omega)
  have mem : (d % (q : Int)).toNat ∈ turnM q c := List.mem_filter.mpr ⟨List.mem_range.mpr (by omega), by
    rw [beq_iff_eq, Int.toNat_of_nonneg d0, Int.mul_emod, Int.emod_emod_of_dvd _ (Int.dvd_refl _), ← Int.mul_emod]
    exact hd⟩
  match hm : turnM q c, mem with
  | t :: r, _ =>
    have ht : t ∈ turnM q c := by rw [hm]; exact List.mem_cons_self ..
    obtain ⟨h1, h2⟩ := List.mem_filter.mp ht
    exact ⟨t, rfl, List.mem_range.mp h1, beq_iff_eq.mp h2, fun z => by cases z⟩
theorem TP.add {q : Nat} (hq : 1 < q) (ip : Inv1 q) {H : List (Nat × List Int)} (h : TP q m X H) (hX : VecS q m X) {v : List Int} (hv : Vec q m v) : TP q m (v :: X) (addM q H v) := by
  have hp0 : (0 : Int) < q := by omega
  have hp1 : (1 : Int) < q := by omega
  obtain ⟨h1, h2, h3, h4⟩ := redM_ok hp0 H h.vec h.one h.low h.lt v hv
  have hvX := vec_cons hX hv
  have inX : ∀ a ∈ H, Spn q m (v :: X) a.2 := fun a ha => ((h.sp _).mp (Spn.self hp0 h.vec (List.mem_map.mpr ⟨a, ha, rfl⟩))).mono fun b hb => List.mem_cons_of_mem _ hb
  have sv : Spn q m (v :: X) (redM q H v) := (h4 _ hvX inX).mpr (Spn.self hp0 hvX (List.mem_cons_self ..))
  have inH : ∀ a ∈ H, Spn q m (H.map (·.2)) a.2 := fun a ha => Spn.self hp0 h.vec (List.mem_map.mpr ⟨a, ha, rfl⟩)
  have iff0 : Spn q m X v ↔ redM q H v = zer m := by
    rw [← h.sp, ← h4 _ h.vec inH]
    exact ⟨fun s => zero_low hp1 H h.vec h.one h.low h.lt _ s h2, fun e => by rw [e]; exact .zero⟩
  unfold addM
  cases e : idxM (redM q H v) with
  | nil =>
    have z : redM q H v = zer m := vec_ext h1 (vec_zer hp0 m) fun i hi => by
      rw [en_zer]
      have : ¬ en (redM q H v) i ≠ 0 := fun c => by
        have := mem_idxM.mpr ⟨by rw [h1.1]; exact hi, c⟩
        rw [e] at this
        cases this
      rw [Classical.not_not.mp this]
    have sX := iff0.mpr z
    refine ⟨h.vec, h.one, h.low, h.lt, fun w => (h.sp w).trans ⟨fun s => s.mono fun b hb => List.mem_cons_of_mem _ hb, fun s => s.trans hp0 hX fun b hb => ?_⟩, by rw [rkS_in sX]; exact h.cnt⟩
    rcases List.mem_cons.mp hb with rfl | hb
    · exact sX
    · exact .self hp0 hX hb
  | cons k more =>
    obtain ⟨hk, nk⟩ := mem_idxM.mp (by rw [e]; exact List.mem_cons_self .. : k ∈ idxM (redM q H v))
    have hkm : k < m := by rw [← h1.1]; exact hk
    have rng := en_lt h1 hp0 k
    obtain ⟨t, et, lt, ht, _⟩ := turn_ok ip hq (c := en (redM q H v) k) (by rw [Int.emod_eq_of_lt rng.1 rng.2]; exact nk)
    show TP (q : Int) m (v :: X) (H ++ [(k, (redM q H v).map fun x => (((turnM q (en (redM q H v) k)).getD 0 0 : Nat) * x) % (q : Int))])
    rw [et, scale_axp hp0 h1.1]
    have vn : Vec q m (axp q t (redM q H v) (zer m)) := vec_axp hp0 h1.1 (zer_len m)
    have en1 : ∀ i, i < m → en (axp q t (redM q H v) (zer m)) i = (t * en (redM q H v) i) % q := fun i hi => by rw [en_axp h1.1 (zer_len m) hi, en_zer, Int.add_zero]
    have nsp : ¬ Spn q m X v := fun s => by
      rw [iff0.mp s, en_zer] at nk
      exact nk rfl
    have vA : VecS q m ((H ++ [(k, axp q t (redM q H v) (zer m))]).map (·.2)) := fun b hb => by
      rw [List.map_append] at hb
      rcases List.mem_append.mp hb with hb | hb
      · exact h.vec b hb
      · rw [List.mem_singleton.mp hb]; exact vn
    have subA : ∀ b ∈ H.map (·.2), b ∈ (H ++ [(k, axp q t (redM q H v) (zer m))]).map (·.2) := fun b hb => by rw [List.map_append]; exact List.mem_append_left _ hb
    have sn : Spn q m ((H ++ [(k, axp q t (redM q H v) (zer m))]).map (·.2)) (axp q t (redM q H v) (zer m)) := .self hp0 vA (by simp)
    -- the reduced row is spanned by the scaled one
    have back : redM q H v = axp q (en (redM q H v) k) (axp q t (redM q H v) (zer m)) (zer m) := vec_ext h1 (vec_axp hp0 vn.1 (zer_len m)) fun i hi => by
      rw [en_axp vn.1 (zer_len m) hi, en1 i hi, en_zer, Int.add_zero, Int.emod_emod_of_dvd _ (Int.dvd_refl _), Int.mul_emod, Int.emod_emod_of_dvd _ (Int.dvd_refl _), ← Int.mul_emod, ← Int.mul_assoc, Int.mul_comm (en (redM q H v) k), Int.mul_emod, ht, Int.one_mul, Int.emod_emod_of_dvd _ (Int.dvd_refl _)]
    have sA : Spn q m ((H ++ [(k, axp q t (redM q H v) (zer m))]).map (·.2)) (redM q H v) := by
      have c := Spn.comb hp0 vA (en (redM q H v) k) sn .zero
      rw [← back] at c
      exact c
    have sv2 : Spn q m ((H ++ [(k, axp q t (redM q H v) (zer m))]).map (·.2)) v := (h4 _ vA fun a ha => (inH a ha).mono subA).mp sA
    refine ⟨vA, fun a ha => ?_, List.pairwise_append.mpr ⟨h.low, List.pairwise_singleton _ _, fun a ha b hb => ?_⟩, fun a ha => ?_, fun w => ⟨fun s => s.trans hp0 hvX fun b hb => ?_, fun s => s.trans hp0 vA fun b hb => ?_⟩, by rw [rkS_out nsp, List.length_append, List.length_singleton, h.cnt]⟩
    · rcases List.mem_append.mp ha with ha | ha
      · exact h.one a ha
      · rw [List.mem_singleton.mp ha]
        show en (axp q t (redM q H v) (zer m)) k = 1
        rw [en1 k hkm]
        exact ht
    · rw [List.mem_singleton.mp hb]
      show en (axp q t (redM q H v) (zer m)) a.1 = 0
      rw [en1 _ (h.lt a ha), h2 a ha, Int.mul_zero]
      exact Int.zero_emod _
    · rcases List.mem_append.mp ha with ha | ha
      · exact h.lt a ha
      · rw [List.mem_singleton.mp ha]; exact hkm
    · rw [List.map_append] at hb
      rcases List.mem_append.mp hb with hb | hb
      · obtain ⟨a, ha, rfl⟩ := List.mem_map.mp hb
        exact inX a ha
      · rw [List.mem_singleton.mp hb]
        exact Spn.comb hp0 hvX _ sv .zero
    · rcases List.mem_cons.mp hb with rfl | hb
      · exact sv2
      · exact ((h.sp b).mpr (.self hp0 hX hb)).mono subA
/-! ### the ranks of lots of columns -/
end
end Z
set_option Elab.async false
set_option linter.all false
set_option maxRecDepth 100000
set_option maxHeartbeats 4000000
/-! Z45: a loop that looks for the first thing of a kind and returns it. -/
namespace Z
open PySem PySem.Spec PyProof.Rows L2
section
variable {K : PySem.W.Frag} {S : Option (Addr × Addr)}
/-- a starred list or tuple of things without lists -/
def dStarS (m : DM) (ms : DMs) : DMs := fun ρ R => m ρ fun d => asSeq d fun xs => solids xs = true ∧ ms ρ fun ds => R (xs ++ ds)
end
/-- each turn returns, or goes on with what holds -/
theorem forD_find {α : Type} {mg : DMg} {mb : DMS} {F : List Nat} {R : DEnds} (enc : α → D) (f : α → Option D) (I : En → Prop) : ∀ (ys : List α) (ρ : En), I ρ →
    (∀ y ∈ ys, ∀ (ρ : En) (E : DEnds), I ρ → (∀ d, f y = some d → E.rt d) → (f y = none → ∀ ρ', I (hide F ρ') → E.nx ρ') → mg (enc y) ρ fun ρ1 => mb ρ1 E) →
    (∀ d, ys.findSome? f = some d → R.rt d) → (ys.findSome? f = none → ∀ ρ, I ρ → R.nx ρ) → forD mg mb F R (ys.map enc) ρ
  | [], ρ, h0, _, _, hn => hn rfl ρ h0
  | y :: ys, ρ, h0, hs, hr, hn => hs y (List.mem_cons_self ..) ρ _ h0 (fun d e => hr d (by rw [List.findSome?_cons, e])) (fun e ρ' h' =>
      forD_find enc f I ys (hide F ρ') h' (fun z hz => hs z (List.mem_cons_of_mem _ hz)) (fun d e2 => hr d (by rw [List.findSome?_cons, e]; exact e2)) (fun e2 => hn (by rw [List.findSome?_cons, e]; exact e2)))
end Z
set_option Elab.async false
set_option linter.all false
set_option maxRecDepth 100000
set_option maxHeartbeats 4000000
/-! Z46: x.bit_length(), x ^= e, a copy of a dict with keys that are ints or texts. -/
namespace Z
open PySem PySem.Spec PyProof.Rows L2
section
variable {K : PySem.W.Frag} {S : Option (Addr × Addr)}
def dBits (m : DM) : DM := fun ρ R => m ρ fun d => asI d fun i => R (.int ((Builtin.Int.intBits i : Nat) : Int))
/-- dict(d), its keys ints or texts, its values without lists of their own -/
def fDictCp : List D → (D → Prop) → Prop := fun ds R => match ds with
  | [d] => ∃ kvs, IsDc d kvs ∧ (∃ kk : List Key, kvs.map (·.1) = kk.map keyD) ∧ (∀ p ∈ kvs, solid p.2 = true) ∧ R (.dict kvs)
  | _ => False
end
end Z
set_option Elab.async false
set_option linter.all false
set_option maxRecDepth 100000
set_option maxHeartbeats 4000000
/-! Z47: dict displays whose keys are unlike ints or texts, whose values hold no lists of their own. -/
namespace Z
open PySem PySem.Spec PyProof.Rows L2
section
variable {K : PySem.W.Frag} {S : Option (Addr × Addr)}
def dPairs (ρ : En) : List (DM × DM) → (List (D × D) → Prop) → Prop
  | [], R => R []
  | (mk, mv) :: ms, R => mk ρ fun k => (∃ kk : Key, k = keyD kk) ∧ mv ρ fun v => solid v = true ∧ dPairs ρ ms fun ps => R ((k, v) :: ps)
/-- a dict display -/
def dDisp (ms : List (DM × DM)) : DM := fun ρ R => dPairs ρ ms fun ps => ∃ kk : List Key, ps.map (·.1) = kk.map keyD ∧ kk.Nodup ∧ ps.length ≤ 15 ∧ R (.dict ps)
/-- x = y, y an own list or dict that is not asked for again: what y held is x's own now -/
def sMove (i j : Nat) : DMS := fun ρ R => ∃ d, ρ[j]? = some (.own d) ∧ R.nx ((hide [j] ρ).set i (.own d))
end
end Z
set_option Elab.async false
set_option linter.all false
set_option maxRecDepth 100000
set_option maxHeartbeats 4000000
/-! Z48: min of a list of any data that can be compared. -/
namespace Z
open PySem PySem.Spec PyProof.Rows L2 PySem.W
section
variable {K : PySem.W.Frag} {S : Option (Addr × Addr)}
def fMinD : List D → (D → Prop) → Prop := fun ds R => match ds with
  | [.list (x :: r)] => solids (x :: r) = true ∧ PyData.plainAll (x :: r) = true ∧ AlikeAll (x :: r) ∧ PyData.depthAll (x :: r) ≤ 50 ∧ R (minD x r)
  | _ => False
end
end Z
set_option Elab.async false
set_option linter.all false
set_option maxRecDepth 100000
set_option maxHeartbeats 4000000
/-! G33: anything as a rank table: its first fault. -/
set_option Elab.async false
set_option linter.all false
set_option maxRecDepth 100000
set_option maxHeartbeats 4000000
/-! G34: code papers of a table: the told base, the first four, a paper. -/
set_option Elab.async false
set_option linter.all false
set_option maxRecDepth 100000
set_option maxHeartbeats 4000000
/-! G35: rows told as numbers, kept by their greatest bit: a base of what they span; ranks of all lots of places. -/
namespace Z
open PySem PySem.Spec PyProof.Rows L2
section
variable {m : Nat} {H X : List (List Bool)}
/-! ### bases with unlike greatest bits -/
structure DH (m : Nat) (H : List (List Bool)) : Prop where
  len : Len m H
  any : ∀ h ∈ H, true ∈ h
  nd : (H.map top).Nodup
theorem DH.nil : DH m [] := ⟨fun h z => (by cases z), fun h z => (by cases z), .nil⟩
theorem DH.tail {h : List Bool} (d : DH m (h :: H)) : DH m H := ⟨fun x hx => d.len x (List.mem_cons_of_mem _ hx), fun x hx => d.any x (List.mem_cons_of_mem _ hx), (List.nodup_cons.mp d.nd).2⟩
theorem DH.add (d : DH m H) {v : List Bool} (hv : true ∈ v) (lv : v.length = m) (h : top v ∉ H.map top) : DH m (H ++ [v]) := by
  refine ⟨fun x hx => ?_, fun x hx => ?_, ?_⟩
  · rcases List.mem_append.mp hx with z | z
    · exact d.len x z
    · rw [List.mem_singleton.mp z]; exact lv
  · rcases List.mem_append.mp hx with z | z
    · exact d.any x z
    · rw [List.mem_singleton.mp z]; exact hv
  · rw [List.map_append]
    refine List.nodup_append.mpr ⟨d.nd, List.pairwise_singleton _ _, fun a ha b hb => ?_⟩
    rw [List.map_singleton, List.mem_singleton] at hb
    rintro rfl
    exact h (hb ▸ ha)
/-! ### such a base as a dict -/
def bsK (H : List (List Bool)) : List (Nat × Nat) := H.map fun h => (top h + 1, numB h)
theorem bsK_keys (H : List (List Bool)) : (bsK H).map (·.1) = (H.map top).map (· + 1) := by
  unfold bsK
  rw [List.map_map, List.map_map]
  rfl
theorem DH.keys (d : DH m H) : ((bsK H).map (·.1)).Nodup := by
  rw [bsK_keys]
  exact List.pairwise_map.mpr (d.nd.imp fun h e => h (by omega))
end
end Z
set_option Elab.async false
set_option linter.all false
set_option maxRecDepth 100000
set_option maxHeartbeats 4000000
/-! G36: the least widest and the least total of all orders, lot by lot; bounds of widths. -/
set_option Elab.async false
set_option linter.all false
set_option maxRecDepth 100000
set_option maxHeartbeats 4000000
/-! G37: all orders of places; the least of their greatest widths, and of their sums, are the worths of all lots. -/
set_option Elab.async false
set_option linter.all false
set_option maxRecDepth 100000
set_option maxHeartbeats 4000000
/-! G38: told orders, by the least worths of all lots. -/
set_option Elab.async false
set_option linter.all false
set_option maxRecDepth 100000
set_option maxHeartbeats 4000000
/-! Z49: dict(list of pairs), keys ints or texts, values without lists of their own; len of it; len(set(list of ints)). -/
namespace Z
open PySem PySem.Spec PyProof.Rows L2
section
variable {K : PySem.W.Frag} {S : Option (Addr × Addr)}
/-- pairs as data -/
def kpD (qs : List (Key × D)) : List D := qs.map fun q => .tuple [keyD q.1, q.2]
/-- a dict's items over the layer and over values -/
inductive KvR (c : Zc) (H : Hp) : List (Key × D) → List (Key × V) → Prop
  | nil : KvR c H [] []
  | cons {k : Key} {d : D} {x : V} {qs : List (Key × D)} {vs : List (Key × V)} : Rp c H d x [] → KvR c H qs vs → KvR c H ((k, d) :: qs) ((k, x) :: vs)
theorem KvR.mono {c : Zc} {H H' : Hp} (t : Tk H H') : ∀ {qs : List (Key × D)} {vs : List (Key × V)}, KvR c H qs vs → KvR c H' qs vs
  | _, _, .nil => .nil
  | _, _, .cons r h => .cons (r.mono t _ _ _ fun a ha => by cases ha) (h.mono t)
theorem KvR.keys {c : Zc} {H : Hp} : ∀ {qs : List (Key × D)} {vs : List (Key × V)}, KvR c H qs vs → vs.map (·.1) = qs.map (·.1)
  | _, _, .nil => rfl
  | _, _, .cons _ h => by simp [h.keys]
theorem KvR.app {c : Zc} {H : Hp} : ∀ {qs qs2 : List (Key × D)} {vs vs2 : List (Key × V)}, KvR c H qs vs → KvR c H qs2 vs2 → KvR c H (qs ++ qs2) (vs ++ vs2)
  | _, _, _, _, .nil, h2 => h2
  | _, _, _, _, .cons r h, h2 => .cons r (h.app h2)
theorem KvR.repl {c : Zc} {H : Hp} {k : Key} {d : D} {x : V} (r : Rp c H d x []) : ∀ {qs : List (Key × D)} {vs : List (Key × V)}, KvR c H qs vs → KvR c H (qs.map fun p => if p.1 = k then (p.1, d) else p) (vs.map fun p => if p.1 = k then (p.1, x) else p)
  | _, _, .nil => .nil
  | _, _, .cons (k := k') r' h => by
    simp only [List.map_cons]
    by_cases e : k' = k
    · rw [if_pos e, if_pos e]
      exact .cons r (h.repl r)
    · rw [if_neg e, if_neg e]
      exact .cons r' (h.repl r)
theorem KvR.put {c : Zc} {H : Hp} {k : Key} {d : D} {x : V} (r : Rp c H d x []) {qs : List (Key × D)} {vs : List (Key × V)} (h : KvR c H qs vs) : KvR c H (aPut qs k d) (putK vs k x) := by
  unfold aPut putK
  have e : (aFind qs k).isSome = vs.any fun kv => decide (kv.1 = k) := by
    rw [Bool.eq_iff_iff, aFind_mem, List.any_eq_true, ← h.keys]
    simp [List.mem_map]
  rw [e]
  by_cases z : (vs.any fun kv => decide (kv.1 = k)) = true
  · rw [if_pos z, if_pos z]
    exact h.repl r
  · rw [if_neg z, if_neg z]
    exact h.app (.cons r .nil)
theorem KvR.fold {c : Zc} {H : Hp} : ∀ {more : List (Key × D)} {mv : List (Key × V)} {qs : List (Key × D)} {vs : List (Key × V)}, KvR c H more mv → KvR c H qs vs → KvR c H (more.foldl (fun acc p => aPut acc p.1 p.2) qs) (mergeK vs mv)
  | _, _, _, _, .nil, h => h
  | _, _, _, _, .cons r t, h => t.fold (h.put r)
theorem KvR.merge {c : Zc} {H : Hp} {qs : List (Key × D)} {vs : List (Key × V)} (h : KvR c H qs vs) : KvR c H (aMerge qs) (mergeK [] vs) := h.fold .nil
theorem KvR.zip {c : Zc} {H : Hp} : ∀ {qs : List (Key × D)} {vs : List (Key × V)}, KvR c H qs vs → vs = (qs.map (·.1)).zip (vs.map (·.2))
  | _, _, .nil => rfl
  | _, _, .cons r h => by
    simp only [List.map_cons, List.zip_cons_cons]
    rw [← h.zip]
theorem rps_kp {c : Zc} {H : Hp} : ∀ {qs : List (Key × D)} {xs : List V} {fp : List Addr}, (∀ q ∈ qs, solid q.2 = true) → Rps c H (kpD qs) xs fp → ∃ (ps : List Addr) (vs : List (Key × V)), xs = ps.map V.ref ∧ Paired (fun p kv => SqT c.K H p [kV kv.1, kv.2]) ps vs ∧ KvR c H qs vs
  | [], xs, fp, _, h => by
    simp only [kpD, List.map_nil, Rps] at h
    exact ⟨[], [], h.1, .nil, .nil⟩
  | (k, d) :: qs, xs, fp, so, h => by
    simp only [kpD, List.map_cons, Rps] at h
    obtain ⟨x, ys, f1, f2, rfl, rfl, h1, h2⟩ := h
    simp only [Rp, Rps] at h1
    obtain ⟨a, zs, rfl, ha, x1, y1, g1, g2, rfl, rfl, hk, x2, y2, g3, g4, rfl, rfl, hd, rfl, rfl⟩ := h1
    obtain ⟨ps, vs, rfl, hp, hv⟩ := rps_kp (fun q hq => so q (List.mem_cons_of_mem _ hq)) h2
    have z := hd.solid _ _ _ (so (k, d) (List.mem_cons_self ..))
    subst z
    have ek : x1 = kV k := by
      cases k <;> simp only [keyD, Rp] at hk <;> rw [hk.1] <;> rfl
    subst ek
    exact ⟨a :: ps, (k, x2) :: vs, rfl, .cons ha.t hp, .cons hd hv⟩
/-- dict(list of pairs) -/
def fDictP : List D → (D → Prop) → Prop := fun ds R => match ds with
  | [d] => ∃ qs : List (Key × D), d = .list (kpD qs) ∧ (∀ q ∈ qs, solid q.2 = true) ∧ R (.dict ((aMerge qs).map fun q => (keyD q.1, q.2)))
  | _ => False
theorem rp_kp {c : Zc} {H : Hp} {qs : List (Key × D)} (so : ∀ q ∈ qs, solid q.2 = true) {v : V} {fp : List Addr} (r : Rp c H (.list (kpD qs)) v fp) :
    ∃ (a : Addr) (ps : List Addr) (vs : List (Key × V)), v = .ref a ∧ SqL c.K H a (ps.map V.ref) ∧ Paired (fun p kv => SqT c.K H p [kV kv.1, kv.2]) ps vs ∧ KvR c H qs vs := by
  simp only [Rp] at r
  obtain ⟨b, xs, gp, rfl, rfl, hb, hv⟩ := r
  obtain ⟨ps, vs, rfl, hp, h⟩ := rps_kp so hv
  exact ⟨b, ps, vs, rfl, .of hb, hp, h⟩
/-- len(dict(pairs)) -/
def dLenDictK (m : DM) : DM := fun ρ R => m ρ fun d => ∃ qs : List (Key × D), d = .list (kpD qs) ∧ (∀ q ∈ qs, solid q.2 = true) ∧ R (.int (((aMerge qs).length : Nat) : Int))
theorem de_lenDictK {te : TE} {m : DM} {U : List Nat} (h : DE K S te m U) : DE K S (tCB (rLenK K) (tCons (tCB (rDictP K) (tCons te tNil)) tNil)) (dLenDictK m) [] := fun G H ρ σ fps E R hm Q q =>
  h G H ρ σ fps E _ hm _ fun y w H1 fp hR e1 s1 ry ny fy => by
    obtain ⟨qs, rfl, so, hR⟩ := hR
    obtain ⟨b, ps, vs, rfl, hL, hp, hv⟩ := rp_kp so ry
    refine ⟨b, ps, vs, rfl, hL, hp, fun p hpn => ?_⟩
    have e2 := Ext.new (c := ⟨K, S⟩) (o := .dK (mergeK [] vs)) hpn
    have s2 := s1.new (o := .dK (mergeK [] vs)) hpn
    refine ⟨p, mergeK [] vs, rfl, upd_same, ?_⟩
    have : (mergeK [] vs).length = (aMerge qs).length := by
      have := congrArg List.length hv.merge.keys
      simpa using this
    rw [this]
    exact q _ _ _ [] hR (e1.trans e2) s2 (int_rp _) .nil (.fresh (fun b hb => by cases hb) List.nodup_nil)
end
/-! ### len(set(xs)) -/
def metI (ns : List Int) : List Int := firstMet (fun i => ns.getD i 0) ns.length
theorem metI_mem (ns : List Int) (x : Int) : x ∈ metI ns ↔ x ∈ ns := by
  have h := firstMet_any (fun i => ns.getD i 0) ns.length x
  have e : (List.range ns.length).map (fun i => ns.getD i 0) = ns := by
    apply List.ext_getElem?
    intro i
    rw [List.getElem?_map]
    by_cases c : i < ns.length
    · rw [List.getElem?_range c, List.getElem?_eq_getElem c]
      simp [List.getD_eq_getElem?_getD, List.getElem?_eq_getElem c]
    · rw [List.getElem?_eq_none (by simpa using c), List.getElem?_eq_none (by omega)]
      rfl
  rw [e] at h
  have t : ∀ l : List Int, l.any (· == x) = true ↔ x ∈ l := fun l => by simp [List.any_eq_true]
  unfold metI
  rw [← t, ← t ns, h]
theorem metI_nodup (ns : List Int) : (metI ns).Nodup := by
  unfold metI
  induction ns.length with
  | zero => exact List.nodup_nil
  | succ i ih =>
    rw [firstMet_succ]
    unfold step_dedup
    split
    · exact ih
    · rename_i h
      refine List.nodup_append.mpr ⟨ih, List.pairwise_singleton _ _, fun a ha b hb => ?_⟩
      rw [List.mem_singleton.mp hb]
      rintro rfl
      exact h (List.any_eq_true.mpr ⟨_, ha, by simp⟩)
def tLenSI (K : PySem.W.Frag) (ta : TE) : TE := fun σ H Q => ta σ H fun x H1 => ∃ (l : Addr) (ns : List Int), x = V.ref l ∧ SqL K H1 l (ns.map V.int) ∧ ns.length ≤ 4000 ∧ Q (.int (metI ns).length) H1
theorem pe_lenSI {X : Cx} {a : Expr} {ta : TE} {p p2 q pos : Pos} (hg : Gl X "len") (hm : X.mg "len" = none) (hg2 : Gl X "set") (hm2 : X.mg "set" = none) (ha : PE X a ta) (hc : X.calm = true := by rfl)
    (na : starEach [a] X.env = (false, eval a X.env) :: starEach [] X.env := by rfl) : PE X (.Call (.Name "len" p) [.Call (.Name "set" p2) [a] [] q] [] pos) (tLenSI X.K ta) := by
  refine ⟨fun pins s σ H Q I h => ?_⟩
  refine Call_ (ld_blt I hg hm PySem.boot_len ?_)
  refine PyProof.Rows.callWith_builtin1 (PyProof.Rows.args_cons ?_ rfl) rfl rfl
  refine Call_ (ld_blt I hg2 hm2 PyProof.Rows.boot_set ?_)
  refine PyProof.Rows.callWith_type1 (PyProof.Rows.args_cons (thn (ha.run pins s σ H _ I h) fun v s1 ⟨x, H1, I1, r1, q1⟩ => PyProof.Rows.args_nil ?_) na) na rfl
  obtain ⟨l, ns, rfl, hq, h1, q1⟩ := q1
  cases r1
  obtain ⟨its, r, pl, hz⟩ := I1.list hq
  have hl : its.toArray.size = ns.length := by rw [List.size_toArray, ← r.length, List.length_map]
  refine call_set_list (I1.ok.hd hc) pl.isList (ns := ns) (by simpa using r.ints) (by rw [hl]; unfold scanBound; omega) fun h' tk hS hk => ?_
  rw [hl] at hS
  refine PyProof.Rows.args_nil ?_
  obtain ⟨o, es, ep, t, ho, hex, hd, _, _, _, hf, hn⟩ := hS
  have hle : (metI ns).length ≤ ns.length := by unfold metI; exact firstMet_length_le _ _
  have hn' : es.size = (metI ns).length := hn
  have I2 : Inv X pins σ H1 { s1 with heap := h', toks := tk } := I1.kept fun b o e => hk b o (Heap.lt_size e) e
  refine call_len_set ho hex hd hf (by rw [hn'] <;> omega) ⟨.int (metI ns).length, H1, I2.tok _, ⟨_, by rw [hn']⟩, q1⟩
section
variable {K : PySem.W.Frag} {S : Option (Addr × Addr)}
/-- len(set(list of ints)): as many as there are unlike ones -/
def dLenSetI (m : DM) : DM := fun ρ R => m ρ fun d => ∃ ns : List Int, d = .list (ns.map .int) ∧ ns.length ≤ 4000 ∧ R (.int (((metI ns).length : Nat) : Int))
theorem de_lenSetI {te : TE} {m : DM} {U : List Nat} (h : DE K S te m U) : DE K S (tLenSI K te) (dLenSetI m) [] := fun G H ρ σ fps E R hm Q q =>
  h G H ρ σ fps E _ hm _ fun y w H1 fp hR e1 s1 ry ny fy => by
    obtain ⟨ns, rfl, hl, hR⟩ := hR
    simp only [Rp] at ry
    obtain ⟨a, ys, gp, rfl, rfl, h1, h2⟩ := ry
    obtain ⟨rfl, rfl⟩ := rps_ints h2
    exact ⟨a, ns, rfl, .of h1, hl, q _ _ _ [] hR e1 s1 (int_rp _) .nil (.fresh (fun b hb => by cases hb) List.nodup_nil)⟩
end
end Z
set_option Elab.async false
set_option linter.all false
set_option maxRecDepth 100000
set_option maxHeartbeats 4000000
/-! G39: lots of pairs of places: how they are put in order, which are span lots; free numbers; rows with their heads. -/
namespace Z
open PySem PySem.Spec PyProof.Rows L2
/-! ### as many as there are unlike ones -/
theorem met_len {α : Type} [DecidableEq α] {ks ns : List α} (nd : ks.Nodup) (h : ∀ x, x ∈ ks ↔ x ∈ ns) : ks.length = ns.length ↔ ns.Nodup := by
  constructor
  · intro e
    refine Classical.byContradiction fun z => ?_
    have : ∃ x, x ∈ ns ∧ x ∈ ns.erase x := by
      clear e h nd
      induction ns with
      | nil => exact (z List.nodup_nil).elim
      | cons a l ih =>
        by_cases c : a ∈ l
        · exact ⟨a, List.mem_cons_self .., by rw [List.erase_cons_head]; exact c⟩
        · obtain ⟨x, h1, h2⟩ := ih fun y => z (List.nodup_cons.mpr ⟨c, y⟩)
          refine ⟨x, List.mem_cons_of_mem _ h1, ?_⟩
          rw [List.erase_cons_tail (by rw [beq_iff_eq]; rintro rfl; exact c h1)]
          exact List.mem_cons_of_mem _ h2
    obtain ⟨x, h1, h2⟩ := this
    have l1 : ks.length ≤ (ns.erase x).length := nodup_sub_len ks _ nd fun a ha => by
      by_cases c : a = x
      · rw [c]; exact h2
      · exact (List.mem_erase_of_ne c).mpr ((h a).mp ha)
    have l2 := List.length_erase_of_mem h1
    have l3 := List.length_pos_of_mem h1
    omega
  · intro nd2
    exact Nat.le_antisymm (nodup_sub_len _ _ nd fun a ha => (h a).mp ha) (nodup_sub_len _ _ nd2 fun a ha => (h a).mpr ha)
theorem metI_len (ns : List Int) : (metI ns).length = ns.length ↔ ns.Nodup := met_len (metI_nodup ns) (metI_mem ns)
theorem merge_len {α β : Type} [DecidableEq α] (qs : List (α × β)) : (aMerge qs).length = qs.length ↔ (qs.map (·.1)).Nodup := by
  have := met_len (aMerge_keys qs).1 (aMerge_keys qs).2
  rwa [List.length_map, List.length_map] at this
theorem nodup_nats {L : List Nat} : (L.map fun k => ((k : Nat) : Int)).Nodup ↔ L.Nodup := by
  constructor
  · intro h
    exact (List.pairwise_map.mp h).imp fun {a b} z e => z (by rw [e])
  · intro h
    exact List.pairwise_map.mpr (h.imp fun {a b} z e => z (by omega))
/-! ### numbers put in order, with equal ones -/
def upN (L : List Nat) : List Nat := L.mergeSort fun a b => decide (a ≤ b)
theorem sortD_upN (L : List Nat) : sortD false (L.map natD) = (upN L).map natD := by
  have := List.map_mergeSort (r := PySem.W.dataLe (β := Nat) false natD) (s := PySem.W.dataLe false id) (f := natD) (l := L) (fun a _ b' _ => rfl)
  rw [dataLe_nats] at this
  exact this.symm
theorem upN_asc (L : List Nat) : (upN L).Pairwise (· ≤ ·) :=
  (List.pairwise_mergeSort (le := fun a b => decide (a ≤ b)) (fun a b c h1 h2 => by simp only [decide_eq_true_eq] at *; omega) (fun a b => by simp only [Bool.or_eq_true, decide_eq_true_eq]; omega) L).imp fun {a b} z => of_decide_eq_true z
theorem upN_same (L : List Nat) : L = upN L ↔ L.Pairwise (· ≤ ·) := by
  constructor
  · intro e
    rw [e]
    exact upN_asc L
  · intro h
    exact (List.mergeSort_of_pairwise (le := fun a b => decide (a ≤ b)) (h.imp fun z => decide_eq_true z)).symm
/-! ### pairs of places -/
def prI (p : Nat × Nat) : List Int := [((p.1 : Nat) : Int), ((p.2 : Nat) : Int)]
def prD (p : Nat × Nat) : D := .tuple [natD p.1, natD p.2]
theorem prD_tI (L : List (Nat × Nat)) : L.map prD = (L.map prI).map tI := by
  rw [List.map_map]
  rfl
theorem solid_prD (p : Nat × Nat) : solid (prD p) = true := by
  unfold prD
  rw [solid_tup]
  simp [solids, solid_int]
theorem solids_prD (L : List (Nat × Nat)) : solids (L.map prD) = true := solids_of fun p _ => solid_prD p
theorem prD_inj {p q : Nat × Nat} (h : prD p = prD q) : p = q := by
  unfold prD at h
  simp only [PyData.tuple.injEq, List.cons.injEq, natD, PyData.int.injEq, and_true] at h
  exact Prod.ext (by have := h.1; omega) (by have := h.2; omega)
def leP (p q : Nat × Nat) : Bool := decide (p.1 < q.1 ∨ (p.1 = q.1 ∧ p.2 ≤ q.2))
theorem dataLe_pr : PySem.W.dataLe (β := Nat × Nat) false prD = leP := by
  funext p q
  have := congrFun (congrFun (PySem.W.dataLe_ii (fun p : Nat × Nat => ((p.1 : Nat) : Int)) fun p => ((p.2 : Nat) : Int)) p) q
  refine Eq.trans this ?_
  unfold leP
  rw [Bool.eq_iff_iff, decide_eq_true_iff, decide_eq_true_iff]
  omega
def upP (L : List (Nat × Nat)) : List (Nat × Nat) := L.mergeSort leP
theorem sortD_pr (L : List (Nat × Nat)) : sortD false (L.map prD) = (upP L).map prD := by
  have := List.map_mergeSort (r := PySem.W.dataLe (β := Nat × Nat) false prD) (s := PySem.W.dataLe false id) (f := prD) (l := L) (fun a _ b' _ => rfl)
  rw [dataLe_pr] at this
  exact this.symm
theorem upP_perm (L : List (Nat × Nat)) : (upP L).Perm L := List.mergeSort_perm _ _
theorem upP_asc (L : List (Nat × Nat)) : (upP L).Pairwise fun p q => leP p q = true :=
  List.pairwise_mergeSort (fun a b c h1 h2 => by unfold leP at *; simp only [decide_eq_true_eq] at *; omega) (fun a b => by unfold leP; simp only [Bool.or_eq_true, decide_eq_true_eq]; omega) L
theorem upP_same (L : List (Nat × Nat)) : L = upP L ↔ L.Pairwise fun p q => leP p q = true := by
  constructor
  · intro e
    rw [e]
    exact upP_asc L
  · intro h
    exact (List.mergeSort_of_pairwise h).symm
theorem sortOk_pr {L : List (Nat × Nat)} (k : L.length ≤ 10000000) : SortOk (L.map prD) := by
  rw [prD_tI]
  exact sortOk_tI (fun r hr => by
    obtain ⟨p, _, rfl⟩ := List.mem_map.mp hr
    simp [prI]) (by rw [List.length_map]; exact k)
theorem plain_prD (p : Nat × Nat) : (prD p).plain = true := by
  simp [prD, PyData.plain, PyData.plainAll, PyData.canLay0, natD]
theorem depth_prD (p : Nat × Nat) : (prD p).depth = 1 := by simp [prD, PyData.depth, PyData.depthAll, natD]
theorem plain_prs (L : List (Nat × Nat)) : PyData.plainAll (L.map prD) = true := plainAll_of fun d hd => by
  obtain ⟨p, _, rfl⟩ := List.mem_map.mp hd
  exact plain_prD p
theorem depth_prs (L : List (Nat × Nat)) : PyData.depthAll (L.map prD) ≤ 1 := depthAll_of (k := 1) fun d hd => by
  obtain ⟨p, _, rfl⟩ := List.mem_map.mp hd
  rw [depth_prD]
  exact Nat.le_refl _
theorem eqv_pr (p q : Nat × Nat) : PyData.eqv (prD p) (prD q) = decide (p = q) := by
  unfold prD
  simp only [PyData.eqv, PyData.eqvAll, natD, Bool.and_true]
  rw [Bool.eq_iff_iff, Bool.and_eq_true, beq_iff_eq, beq_iff_eq, decide_eq_true_iff, Prod.ext_iff]
  omega
theorem eqv_prs : ∀ L M : List (Nat × Nat), PyData.eqvAll (L.map prD) (M.map prD) = decide (L = M)
  | [], [] => by simp [PyData.eqvAll]
  | [], _ :: _ => by simp [PyData.eqvAll]
  | _ :: _, [] => by simp [PyData.eqvAll]
  | p :: L, q :: M => by
    simp only [List.map_cons, PyData.eqvAll]
    rw [eqv_pr, eqv_prs L M]
    simp
theorem fEq_prs {neg : Bool} {L M : List (Nat × Nat)} {R : D → Prop} (h : R (.bool (if neg then !decide (L = M) else decide (L = M)))) : fEq neg (.list (L.map prD)) (.list (M.map prD)) R := by
  refine ⟨?_, ?_, ?_, ?_⟩
  · simp only [PyData.plain]; exact plain_prs L
  · simp only [PyData.plain]; exact plain_prs M
  · have := depth_prs L
    simp only [PyData.depth]
    omega
  · have e : PyData.eqv (.list (L.map prD)) (.list (M.map prD)) = decide (L = M) := by
      simp only [PyData.eqv]
      exact eqv_prs L M
    rw [e]
    exact h
/-! ### span lots -/
/-- pairs of places below n, the first one not greater -/
def PrOk (n : Nat) (p : Nat × Nat) : Prop := p.1 ≤ p.2 ∧ p.2 < n
instance (n : Nat) (p : Nat × Nat) : Decidable (PrOk n p) := inferInstanceAs (Decidable (_ ∧ _))
/-- pairs whose firsts are unlike, whose lasts are unlike -/
structure Apart (n : Nat) (L : List (Nat × Nat)) : Prop where
  ok : ∀ p ∈ L, PrOk n p
  fst : (L.map Prod.fst).Nodup
  snd : (L.map Prod.snd).Nodup
theorem Apart.len {n : Nat} {L : List (Nat × Nat)} (h : Apart n L) : L.length ≤ n := by
  have := pigeon n _ h.snd fun x hx => by
    obtain ⟨p, hp, rfl⟩ := List.mem_map.mp hx
    exact (h.ok p hp).2
  rwa [List.length_map] at this
theorem Apart.perm {n : Nat} {L M : List (Nat × Nat)} (h : Apart n L) (p : M.Perm L) : Apart n M :=
  ⟨fun q hq => h.ok q (p.mem_iff.mp hq), (p.map _).nodup_iff.mpr h.fst, (p.map _).nodup_iff.mpr h.snd⟩
/-- a span lot of n: apart, put in order -/
structure LotN (n : Nat) (L : List (Nat × Nat)) : Prop where
  ap : Apart n L
  asc : (L.map Prod.fst).Pairwise (· < ·)
theorem asc_first {L : List (Nat × Nat)} (nd : (L.map Prod.fst).Nodup) : (L.Pairwise fun p q => leP p q = true) ↔ (L.map Prod.fst).Pairwise (· ≤ ·) := by
  rw [List.pairwise_map]
  have nd := List.pairwise_map.mp nd
  constructor
  · intro h
    refine h.imp fun {p q} z => ?_
    have z := of_decide_eq_true z
    omega
  · intro h
    refine (h.and nd).imp fun {p q} z => ?_
    have := z.1
    have := z.2
    refine decide_eq_true ?_
    omega
theorem lt_of_le {L : List Nat} (nd : L.Nodup) : L.Pairwise (· ≤ ·) ↔ L.Pairwise (· < ·) := by
  constructor
  · intro h
    refine (h.and nd).imp fun {p q} z => ?_
    have := z.1
    have := z.2
    omega
  · intro h
    exact h.imp fun z => by omega
/-- whether a datum is a span lot of n -/
def LotIs (n : Nat) (d : D) : Prop := ∃ L, d = .tuple (L.map prD) ∧ LotN n L
/-- a datum that is a place of n -/
def placeB (n : Nat) (d : D) : Bool := match d with
  | .int i => decide (0 ≤ i ∧ i < (n : Nat))
  | _ => false
theorem placeB_iff {n : Nat} {d : D} : placeB n d = true ↔ ∃ k : Nat, k < n ∧ d = natD k := by
  constructor
  · intro h
    cases d with
    | int i =>
      have h := of_decide_eq_true h
      exact ⟨i.toNat, by omega, by show PyData.int i = .int _; congr 1; omega⟩
    | _ => cases h
  · rintro ⟨k, hk, rfl⟩
    exact decide_eq_true ⟨by omega, by omega⟩
/-- a datum that is a pair of places of n, the first one not greater -/
noncomputable def pairB (n : Nat) (d : D) : Bool := match d with
  | .tuple [.int a, .int b] => decide (0 ≤ a ∧ a ≤ b ∧ b < (n : Nat))
  | _ => false
theorem pairB_iff {n : Nat} {d : D} : pairB n d = true ↔ ∃ p, PrOk n p ∧ d = prD p := by
  constructor
  · intro h
    unfold pairB at h
    split at h
    · rename_i a b
      have h := of_decide_eq_true h
      refine ⟨(a.toNat, b.toNat), ⟨by show a.toNat ≤ b.toNat; omega, by show b.toNat < n; omega⟩, ?_⟩
      have e1 : ((a.toNat : Nat) : Int) = a := by omega
      have e2 : ((b.toNat : Nat) : Int) = b := by omega
      simp only [prD, natD, e1, e2]
    · cases h
  · rintro ⟨p, ⟨h1, h2⟩, rfl⟩
    exact decide_eq_true ⟨by omega, by omega, by omega⟩
theorem pairs_of {n : Nat} : ∀ {xs : List D}, (∀ x ∈ xs, pairB n x = true) → ∃ L : List (Nat × Nat), xs = L.map prD ∧ ∀ p ∈ L, PrOk n p
  | [], _ => ⟨[], rfl, fun p hp => by cases hp⟩
  | x :: xs, h => by
    obtain ⟨p, hp, rfl⟩ := pairB_iff.mp (h x (List.mem_cons_self ..))
    obtain ⟨L, rfl, hL⟩ := pairs_of fun y hy => h y (List.mem_cons_of_mem _ hy)
    refine ⟨p :: L, rfl, fun q hq => ?_⟩
    rcases List.mem_cons.mp hq with rfl | hq
    · exact hp
    · exact hL q hq
theorem lotIs_pairs {n : Nat} {L : List (Nat × Nat)} (ok : ∀ p ∈ L, PrOk n p) : LotIs n (.tuple (L.map prD)) ↔ (L.map Prod.fst).Pairwise (· ≤ ·) ∧ (L.map Prod.fst).Nodup ∧ (L.map Prod.snd).Nodup := by
  constructor
  · rintro ⟨M, e, h⟩
    have : L = M := by
      injection e with e
      exact List.map_inj_right (f := prD) (fun a b z => prD_inj z) |>.mp e
    subst this
    exact ⟨(lt_of_le h.ap.fst).mpr h.asc, h.ap.fst, h.ap.snd⟩
  · rintro ⟨h1, h2, h3⟩
    exact ⟨L, rfl, ⟨ok, h2, h3⟩, (lt_of_le h2).mp h1⟩
theorem lotIs_bad {n : Nat} {xs : List D} {x : D} (hx : x ∈ xs) (h : pairB n x = false) : ¬ LotIs n (.tuple xs) := by
  rintro ⟨L, e, hL⟩
  injection e with e
  subst e
  obtain ⟨p, hp, rfl⟩ := List.mem_map.mp hx
  have := (pairB_iff (d := prD p)).mpr ⟨p, hL.ap.ok p hp, rfl⟩
  rw [this] at h
  cases h
/-- values whose parts' parts are asked for -/
def inner3 (d : D) : Prop := noFrz d ∧ ∀ xs, d = .tuple xs → xs.length ≤ 1000 ∧ ∀ x ∈ xs, noFrz x ∧ solid x = true ∧ ∀ ys, x = .tuple ys → ys.length ≤ 10000000 ∧ ∀ y ∈ ys, noFrz y
/-! ### free numbers -/
def withinP (q p : Nat × Nat) : Bool := decide (p.1 < q.1) && decide (q.2 < p.2)
def freeP (L : List (Nat × Nat)) (p : Nat × Nat) : List Nat := ((List.range (p.2 - (p.1 + 1))).map fun k => p.1 + 1 + k).filter fun k => !((L.filter fun q => withinP q p).map Prod.fst).contains k
theorem filt_both {α : Type} (p : α → Bool) : ∀ l : List α, l.length = (l.filter p).length + (l.filter fun x => !p x).length
  | [] => rfl
  | a :: l => by
    have ih := filt_both p l
    by_cases h : p a = true
    · simp [List.filter_cons, h]
      omega
    · simp [List.filter_cons, h]
      omega
theorem freeP_len {n : Nat} {L : List (Nat × Nat)} (h : Apart n L) {p : Nat × Nat} (hp : p ∈ L) : (p.1 < p.2 → (((freeP L p).length : Nat) : Int) = ((p.2 : Nat) : Int) - ((p.1 : Nat) : Int) - 1 - (((L.filter fun q => withinP q p).length : Nat) : Int)) ∧ (¬ p.1 < p.2 → (freeP L p).length = 0) := by
  obtain ⟨F, hF⟩ : ∃ F, F = (L.filter fun q => withinP q p).map Prod.fst := ⟨_, rfl⟩
  obtain ⟨Rg, hR⟩ : ∃ Rg, Rg = (List.range (p.2 - (p.1 + 1))).map fun k => p.1 + 1 + k := ⟨_, rfl⟩
  have mR : ∀ k, k ∈ Rg ↔ p.1 < k ∧ k < p.2 := fun k => by
    rw [hR, List.mem_map]
    constructor
    · rintro ⟨j, hj, rfl⟩
      have := List.mem_range.mp hj
      omega
    · rintro ⟨h1, h2⟩
      exact ⟨k - (p.1 + 1), List.mem_range.mpr (by omega), by omega⟩
  have nR : Rg.Nodup := by
    rw [hR]
    exact List.pairwise_map.mpr (List.nodup_range.imp fun {a b} z e => z (by omega))
  have nF : F.Nodup := by
    rw [hF]
    exact List.Sublist.nodup (List.Sublist.map _ List.filter_sublist) h.fst
  have sF : ∀ k ∈ F, k ∈ Rg := fun k hk => by
    rw [hF] at hk
    obtain ⟨q, hq, rfl⟩ := List.mem_map.mp hk
    obtain ⟨hq, w⟩ := List.mem_filter.mp hq
    simp only [withinP, Bool.and_eq_true, decide_eq_true_eq] at w
    have := (h.ok q hq).1
    exact (mR _).mpr ⟨w.1, by omega⟩
  have e1 : (freeP L p).length + F.length = Rg.length := by
    have a := filt_both (fun k => !F.contains k) Rg
    have b : (Rg.filter fun k => !!F.contains k).length = F.length := by
      refine Nat.le_antisymm (nodup_sub_len _ _ (List.Sublist.nodup List.filter_sublist nR) fun x hx => ?_) (nodup_sub_len _ _ nF fun x hx => ?_)
      · have := (List.mem_filter.mp hx).2
        simpa using this
      · exact List.mem_filter.mpr ⟨sF x hx, by simpa using hx⟩
    rw [b] at a
    have e : freeP L p = Rg.filter fun k => !F.contains k := by
      unfold freeP
      rw [hF, hR]
    rw [e]
    exact a.symm
  have lR : Rg.length = p.2 - (p.1 + 1) := by rw [hR, List.length_map, List.length_range]
  have lF : F.length = (L.filter fun q => withinP q p).length := by rw [hF, List.length_map]
  refine ⟨fun c => ?_, fun c => ?_⟩
  · rw [← lF]
    omega
  · omega
/-! ### rows with their heads -/
def hrD (r : List Bool) : D := .tuple [.int ((lead r : Nat) : Int), rowD r]
theorem solid_hrD (r : List Bool) : solid (hrD r) = true := by
  unfold hrD
  rw [solid_tup]
  simp [solids, solid_int, solid_rowD]
theorem solids_hrD (B : List (List Bool)) : solids (B.map hrD) = true := solids_of fun r _ => solid_hrD r
theorem alike_hrD (a b : List Bool) : PySem.W.alike (hrD a) (hrD b) = true := by
  have h := alike_rowD a b
  simp only [PySem.W.alike] at h
  unfold hrD
  simp [PySem.W.alike, PySem.W.alikeAll, h]
theorem sortOk_hr {B : List (List Bool)} (k : B.length ≤ 10000000) : SortOk (B.map hrD) := by
  have pl : ∀ r : List Bool, (hrD r).plain = true := fun r => by
    have h : (rowD r).plain = true := by
      have := plain_rowD r
      exact this
    simp [hrD, PyData.plain, PyData.plainAll, PyData.canLay0] at h ⊢
    exact h
  refine ⟨plainAll_of fun d hd => ?_, PySem.W.AllAlike.of alike_hrD, .inl fun d hd => ?_, by simpa using k, Nat.le_trans (depthAll_of (k := 2) fun d hd => ?_) (by decide)⟩
  · obtain ⟨r, _, rfl⟩ := List.mem_map.mp hd
    exact pl r
  · obtain ⟨r, _, rfl⟩ := List.mem_map.mp hd
    exact ⟨_, _, rfl⟩
  · obtain ⟨r, _, rfl⟩ := List.mem_map.mp hd
    have : (rowD r).depth = 1 := by
      show PyData.depth (.tuple ((rowI r).map .int)) = 1
      simp only [PyData.depth]
      rw [depth_ints0]
    simp only [hrD, PyData.depth, PyData.depthAll] at this ⊢
    omega
theorem sort_hr {n : Nat} {B : List (List Bool)} (r : Red n B) : ∃ C : List (List Bool), sortD false (B.map hrD) = C.map hrD ∧ C.Perm B ∧ C.Pairwise fun a b => lead a < lead b := by
  have e : sortD false (B.map hrD) = (B.mergeSort (PySem.W.dataLe false hrD)).map hrD := by
    have := List.map_mergeSort (r := PySem.W.dataLe (β := List Bool) false hrD) (s := PySem.W.dataLe false id) (f := hrD) (l := B) (fun a _ b' _ => rfl)
    exact this.symm
  have p : (B.mergeSort (PySem.W.dataLe false hrD)).Perm B := List.mergeSort_perm _ _
  refine ⟨_, e, p, ?_⟩
  have nd := p.nodup_iff.mpr r.nd
  have t := PySem.W.sortLe_total (PyProof.Rows.listOrd PyProof.Rows.itemOrd) false (fun r : List Bool => PySem.W.keyToks (hrD r))
  have pw : (B.mergeSort (PySem.W.dataLe false hrD)).Pairwise fun x y => PySem.W.dataLe false hrD x y = true := List.pairwise_mergeSort t.trans (fun a b => by rw [Bool.or_eq_true]; exact t.total a b) B
  refine List.Pairwise.imp_of_mem (fun {a b} ha hb h => ?_) (pw.and nd)
  have ha := p.mem_iff.mp ha
  have hb := p.mem_iff.mp hb
  have h1 : (!PySem.W.dataLt (hrD b) (hrD a)) = true := h.1
  have h2 : PySem.W.dataLt (hrD b) (hrD a) = false := by simpa using h1
  have ne : lead a ≠ lead b := fun z => by
    have := r.un a ha b hb h.2
    rw [← z, lead_gt (r.ne a ha)] at this
    cases this
  unfold hrD at h2
  rw [PySem.W.dataLt_pair (by simp [PySem.W.alike]) (alike_rowD _ _)] at h2
  have e2 : PyData.eqv (.int ((lead b : Nat) : Int)) (.int ((lead a : Nat) : Int)) = false := by
    rw [eqv_int]
    rw [← Bool.not_eq_true, beq_iff_eq]
    omega
  rw [e2, PySem.W.dataLt_int] at h2
  simp only [Bool.false_eq_true, if_false, decide_eq_false_iff_not] at h2
  omega
theorem sort_hr_rref {n : Nat} {rows : List (List Bool)} (hL : Len n rows) : ∃ S, sortD false ((toldP rows).map hrD) = S.map hrD ∧ Rref n rows S := by
  obtain ⟨r, sp⟩ := told_red hL
  obtain ⟨C, e, p, asc⟩ := sort_hr r
  exact ⟨C, e, Rref.of_perm r sp p asc⟩
end Z
set_option Elab.async false
set_option linter.all false
set_option maxRecDepth 100000
set_option maxHeartbeats 4000000
local macro_rules | `(tactic| walk_at "z") => `(tactic| simp only [Z.dVar, Z.look, Z.dC, Z.dSolid, Z.dNil, Z.dCons, Z.dBin, Z.dUn, Z.dCall, Z.kont_none, Z.kont_bool, Z.kont_int, Z.kont_str, Z.kont_list, Z.kont_tuple, Z.f2I, Z.f2IC, Z.f1I, Z.asI, Z.dTest, Z.asB, Z.dAnd, Z.dOr, Z.dNot, Z.dYes, Z.dAndV, Z.dOrV, Z.dNotV, Z.dIf, Z.dTup, Z.dLst,
  Z.sNext, Z.sBreak, Z.sCont, Z.sSeq, Z.later_cons, Z.sIf, Z.sDrop, Z.sRet, Z.sRetV, Z.sRetN, Z.sAsg, Z.sAsgG, Z.valsAt, Z.sPar, Z.ownL, Z.sAppend, Z.sSetI, Z.dItems, Z.asItems, Z.items, Z.dRng1, Z.dRng2, Z.dCmbR, Z.dCmbL, Z.dgName, Z.dgNil, Z.dgCons, Z.asT, Z.dgTup, Z.asL, Z.dgUnl, Z.dComp, Z.dEnum, Z.sFor, Z.sAugI,
  Z.startE, Z.startL, Z.retE, Z.lawE, Z.fRepr, Z.fReprU, Z.dItemsZ, Z.fLenF, Z.fEqE, Z.solid_frz, Z.solid_frd, Z.fIx, Z.dKGet, Z.dKGet1, Z.dKGet2, Z.dKIn, Z.ownK, Z.sKPut, Z.sKSetd, Z.sKSetApp, Z.sFz, Z.dXKeys, Z.dXVals, Z.dXItems, Z.dLenX, Z.dNewX, Z.dLenDict0, Z.dLenDictK, Z.dLenSetI, Z.fDictP, Z.dDictX, Z.fSortedF, Z.fSortedW, Z.fSum, Z.fSumA, Z.dSortDict, Z.dLenDict, Z.asPairs, Z.fMaxA, Z.dIsi, Z.fIsi, Z.isInt, Z.isBool, Z.isStr, Z.isTuple, Z.isList, Z.isDict, Z.dAddN, Z.fAll, Z.fAny, Z.dTupRg, Z.asSeq, Z.dStar, Z.dStarS, Z.fMinD, Z.sMove, Z.dDisp, Z.dPairs, Z.dBits, Z.fDictCp, Z.sPar3, Z.fLen, Z.fTuple, Z.fTupleF, Z.fEqLE, Z.sAugL, Z.fInt, Z.fMul, Z.fAdd, Z.dIndex, Z.dSlice, Z.dRev, Z.fRev, Z.d0New, Z.sPopAt, Z.sRet2, Z.dZipSF, Z.dSortDict0, Z.dFrz, Z.fFrz, Z.fIxF_tup, Z.fIxF_list, Z.dZipF, Z.dIndexF, Z.sUpd0, Z.own0, Z.dLen0, Z.dNo, Z.dPart, Z.fCut, Z.fList, Z.dListRg, Z.fSorted, Z.dZip, Z.dZipS, Z.dTru, Z.f2L, Z.fAbs, Z.fIsN, Z.isNone, Z.dChain, Z.tru, Z.hide, Z.demote, Z.demoteOff, Z.restore, Z.isOwn, Z.solid_tI, Z.solid_tII, Z.solid_int, Z.solid_bool, Z.solid_str, Z.solid_none, Z.solids_nil, Z.solids_cons, Z.solid_tup, Z.solids_ints, Z.solids_tII,
  List.getElem?_cons_zero, List.getElem?_cons_succ, List.set_cons_zero, List.set_cons_succ, List.map_cons, List.map_nil, List.length_cons, List.length_nil, List.nil_append, List.cons_append, List.replicate_succ, List.replicate_zero, List.append_nil, List.contains_cons, List.contains_nil, List.elem_nil, Nat.reduceAdd, Nat.reduceSub, Nat.reduceBEq, Nat.reduceLeDiff, Nat.zero_add, Nat.reduceLT,
  Bool.or_false, Bool.false_or, Bool.true_or, Bool.or_true, Bool.and_true, Bool.true_and, cond_true, cond_false, if_true, if_false, true_and, and_true, Bool.false_eq_true, Bool.true_eq_false, ite_true, ite_false, reduceIte, beq_self_eq_true, List.not_mem_nil, implies_true, false_implies, Bool.not_true, Bool.not_false])
local macro_rules | `(tactic| walk_at "y") => `(tactic| simp only [Z.ix0, Z.ix1, Z.dVar, Z.look, Z.dC, Z.dSolid, Z.dNil, Z.dCons, Z.dBin, Z.dUn, Z.dCall, Z.kont_none, Z.kont_bool, Z.kont_int, Z.kont_str, Z.kont_list, Z.kont_tuple, Z.f2I, Z.f2IC, Z.f1I, Z.asI, Z.dTest, Z.asB, Z.dAnd, Z.dOr, Z.dNot, Z.dYes, Z.dAndV, Z.dOrV, Z.dNotV, Z.dIf, Z.dTup, Z.dLst,
  Z.sNext, Z.sBreak, Z.sCont, Z.sSeq, Z.later_cons, Z.sIf, Z.sDrop, Z.sRet, Z.sRetV, Z.sRetN, Z.sAsg, Z.sAsgG, Z.valsAt, Z.sPar, Z.ownL, Z.sAppend, Z.sSetI, Z.dItems, Z.asItems, Z.items, Z.dRng1, Z.dRng2, Z.dCmbR, Z.dCmbL, Z.dgName, Z.dgNil, Z.dgCons, Z.asT, Z.dgTup, Z.asL, Z.dgUnl, Z.dComp, Z.dEnum, Z.sFor, Z.sAugI,
  Z.startE, Z.startL, Z.retE, Z.lawE, Z.fRepr, Z.fReprU, Z.dItemsZ, Z.fLenF, Z.fEqE, Z.solid_frz, Z.solid_frd, Z.fIx, Z.dKGet, Z.dKGet1, Z.dKGet2, Z.dKIn, Z.ownK, Z.sKPut, Z.sKSetd, Z.sKSetApp, Z.sFz, Z.dXKeys, Z.dXVals, Z.dXItems, Z.dLenX, Z.dNewX, Z.dLenDict0, Z.dLenDictK, Z.dLenSetI, Z.fDictP, Z.dDictX, Z.fSortedF, Z.fSortedW, Z.fSum, Z.fSumA, Z.dSortDict, Z.dLenDict, Z.asPairs, Z.fMaxA, Z.dIsi, Z.fIsi, Z.isInt, Z.isBool, Z.isStr, Z.isTuple, Z.isList, Z.isDict, Z.dAddN, Z.fAll, Z.fAny, Z.dTupRg, Z.asSeq, Z.dStar, Z.dStarS, Z.fMinD, Z.sMove, Z.dDisp, Z.dPairs, Z.dBits, Z.fDictCp, Z.sPar3, Z.fLen, Z.fTuple, Z.fTupleF, Z.fEqLE, Z.sAugL, Z.fInt, Z.fMul, Z.fAdd, Z.dIndex, Z.dSlice, Z.dRev, Z.fRev, Z.d0New, Z.sPopAt, Z.sRet2, Z.dZipSF, Z.dSortDict0, Z.dFrz, Z.fFrz, Z.fIxF_tup, Z.fIxF_list, Z.dZipF, Z.dIndexF, Z.sUpd0, Z.own0, Z.dLen0, Z.dNo, Z.dPart, Z.fCut, Z.fList, Z.dListRg, Z.fSorted, Z.dZip, Z.dZipS, Z.dTru, Z.f2L, Z.fAbs, Z.fIsN, Z.isNone, Z.dChain, Z.tru, Z.hide, Z.demote, Z.demoteOff, Z.restore, Z.isOwn, Z.solid_tI, Z.solid_tII, Z.solid_int, Z.solid_bool, Z.solid_str, Z.solid_none, Z.solids_nil, Z.solids_cons, Z.solid_tup, Z.solids_ints, Z.solids_tII,
  List.getElem?_cons_zero, List.getElem?_cons_succ, List.set_cons_zero, List.set_cons_succ, List.map_cons, List.map_nil, List.length_cons, List.length_nil, List.nil_append, List.cons_append, List.replicate_succ, List.replicate_zero, List.append_nil, List.contains_cons, List.contains_nil, List.elem_nil, Nat.reduceAdd, Nat.reduceSub, Nat.reduceBEq, Nat.reduceLeDiff, Nat.zero_add, Nat.reduceLT,
  Bool.or_false, Bool.false_or, Bool.true_or, Bool.or_true, Bool.and_true, Bool.true_and, cond_true, cond_false, if_true, if_false, true_and, and_true, Bool.false_eq_true, Bool.true_eq_false, ite_true, ite_false, reduceIte, beq_self_eq_true, List.not_mem_nil, implies_true, false_implies, Bool.not_true, Bool.not_false])
local macro_rules | `(tactic| walk_at "h") => `(tactic| simp only [Z.ix0, Z.ix1, Z.dVar, Z.look, Z.dC, Z.dSolid, Z.dNil, Z.dCons, Z.dBin, Z.dUn, Z.dCall, Z.kont_none, Z.kont_bool, Z.kont_int, Z.kont_str, Z.kont_list, Z.kont_tuple, Z.f2I, Z.f2IC, Z.f1I, Z.asI, Z.dTest, Z.asB, Z.dAnd, Z.dOr, Z.dNot, Z.dYes, Z.dAndV, Z.dOrV, Z.dNotV, Z.dIf, Z.dTup, Z.dLst,
  Z.sNext, Z.sBreak, Z.sCont, Z.sSeq, Z.sIf, Z.sDrop, Z.sRet, Z.sRetV, Z.sRetN, Z.sAsg, Z.sAsgG, Z.valsAt, Z.sPar, Z.ownL, Z.sAppend, Z.sSetI, Z.dItems, Z.asItems, Z.items, Z.dRng1, Z.dRng2, Z.dCmbR, Z.dCmbL, Z.dgName, Z.dgNil, Z.dgCons, Z.asT, Z.dgTup, Z.asL, Z.dgUnl, Z.dComp, Z.dEnum, Z.sFor, Z.sAugI,
  Z.startE, Z.startL, Z.retE, Z.lawE, Z.fRepr, Z.fReprU, Z.dItemsZ, Z.fLenF, Z.fEqE, Z.solid_frz, Z.solid_frd, Z.fIx, Z.dKGet, Z.dKGet1, Z.dKGet2, Z.dKIn, Z.ownK, Z.sKPut, Z.sKSetd, Z.sKSetApp, Z.sFz, Z.dXKeys, Z.dXVals, Z.dXItems, Z.dLenX, Z.dNewX, Z.dLenDict0, Z.dLenDictK, Z.dLenSetI, Z.fDictP, Z.dDictX, Z.fSortedF, Z.fSortedW, Z.fSum, Z.fSumA, Z.dSortDict, Z.dLenDict, Z.asPairs, Z.fMaxA, Z.dIsi, Z.fIsi, Z.isInt, Z.isBool, Z.isStr, Z.isTuple, Z.isList, Z.isDict, Z.dAddN, Z.fAll, Z.fAny, Z.dTupRg, Z.asSeq, Z.dStar, Z.dStarS, Z.fMinD, Z.sMove, Z.dDisp, Z.dPairs, Z.dBits, Z.fDictCp, Z.sPar3, Z.fLen, Z.fTuple, Z.fTupleF, Z.fEqLE, Z.sAugL, Z.fInt, Z.fMul, Z.fAdd, Z.dIndex, Z.dSlice, Z.dRev, Z.fRev, Z.d0New, Z.sPopAt, Z.sRet2, Z.dZipSF, Z.dSortDict0, Z.dFrz, Z.fFrz, Z.fIxF_tup, Z.fIxF_list, Z.dZipF, Z.dIndexF, Z.sUpd0, Z.own0, Z.dLen0, Z.dNo, Z.dPart, Z.fCut, Z.fList, Z.dListRg, Z.fSorted, Z.dZip, Z.dZipS, Z.dTru, Z.f2L, Z.fAbs, Z.fIsN, Z.isNone, Z.dChain, Z.tru, Z.hide, Z.demote, Z.demoteOff, Z.restore, Z.isOwn, Z.solid_tI, Z.solid_tII, Z.solid_int, Z.solid_bool, Z.solid_str, Z.solid_none, Z.solids_nil, Z.solids_cons, Z.solid_tup, Z.solids_ints, Z.solids_tII,
  List.getElem?_cons_zero, List.getElem?_cons_succ, List.set_cons_zero, List.set_cons_succ, List.map_cons, List.map_nil, List.length_cons, List.length_nil, List.nil_append, List.cons_append, List.replicate_succ, List.replicate_zero, List.append_nil, List.contains_cons, List.contains_nil, List.elem_nil, Nat.reduceAdd, Nat.reduceSub, Nat.reduceBEq, Nat.reduceLeDiff, Nat.zero_add, Nat.reduceLT,
  Bool.or_false, Bool.false_or, Bool.true_or, Bool.or_true, Bool.and_true, Bool.true_and, cond_true, cond_false, if_true, if_false, true_and, and_true, Bool.false_eq_true, Bool.true_eq_false, ite_true, ite_false, reduceIte, beq_self_eq_true, List.not_mem_nil, implies_true, false_implies, Bool.not_true, Bool.not_false])
local macro_rules | `(tactic| walk_at "s") => `(tactic| ((first | rw [Z.later_cons] | (simp only []; rw [Z.later_cons])); walk_at "h"))
namespace Z
open PySem PySem.Spec PyProof.Rows L2
/-! ### the text -/
def topS (i : Nat) : Stmt := PySem.Challenge.pw_spancodes_k41_span_lots.main.body.getD i (.Pass ⟨0, 0, 0, 0⟩)
abbrev s_sum_of : Stmt := topS 1
theorem sc_sum_of : FnScope ["one", "other", "k", "mark"] ["one", "other"] (defScope s_sum_of) := ⟨rfl, rfl, rfl, by decide +kernel, rfl, by decide +kernel, by decide +kernel⟩
abbrev s_first_one : Stmt := topS 3
theorem sc_first_one : FnScope ["row"] ["row"] (defScope s_first_one) := ⟨rfl, rfl, rfl, by decide +kernel, rfl, by decide +kernel, by decide +kernel⟩
abbrev s_told_rows : Stmt := topS 4
theorem sc_told_rows : FnScope ["rows", "found", "row", "here", "one", "place"] ["rows"] (defScope s_told_rows) := ⟨rfl, rfl, rfl, by decide +kernel, rfl, by decide +kernel, by decide +kernel⟩
abbrev s_told_code : Stmt := topS 5
theorem sc_told_code : FnScope ["code"] ["code"] (defScope s_told_code) := ⟨rfl, rfl, rfl, by decide +kernel, rfl, by decide +kernel, by decide +kernel⟩
abbrev s_lies_within : Stmt := topS 7
theorem sc_lies_within : FnScope ["span", "other"] ["span", "other"] (defScope s_lies_within) := ⟨rfl, rfl, rfl, by decide +kernel, rfl, by decide +kernel, by decide +kernel⟩
abbrev s_are_unlike : Stmt := topS 8
theorem sc_are_unlike : FnScope ["things", "thing"] ["things"] (defScope s_are_unlike) := ⟨rfl, rfl, rfl, by decide +kernel, rfl, by decide +kernel, by decide +kernel⟩
abbrev s_is_place : Stmt := topS 10
theorem sc_is_place : FnScope ["n", "value"] ["n", "value"] (defScope s_is_place) := ⟨rfl, rfl, rfl, by decide +kernel, rfl, by decide +kernel, by decide +kernel⟩
abbrev s_is_span_lot : Stmt := topS 11
theorem sc_is_span_lot : FnScope ["n", "value", "pair", "firsts", "lasts"] ["n", "value"] (defScope s_is_span_lot) := ⟨rfl, rfl, rfl, by decide +kernel, rfl, by decide +kernel, by decide +kernel⟩
abbrev s_plain_row : Stmt := topS 12
theorem sc_plain_row : FnScope ["n", "span", "place"] ["n", "span"] (defScope s_plain_row) := ⟨rfl, rfl, rfl, by decide +kernel, rfl, by decide +kernel, by decide +kernel⟩
abbrev s_plain_code : Stmt := topS 13
theorem sc_plain_code : FnScope ["n", "lot", "span"] ["n", "lot"] (defScope s_plain_code) := ⟨rfl, rfl, rfl, by decide +kernel, rfl, by decide +kernel, by decide +kernel⟩
abbrev s_free_places : Stmt := topS 14
theorem sc_free_places : FnScope ["lot", "span", "firsts", "other", "place"] ["lot", "span"] (defScope s_free_places) := ⟨rfl, rfl, rfl, by decide +kernel, rfl, by decide +kernel, by decide +kernel⟩
abbrev s_free_number : Stmt := topS 15
theorem sc_free_number : FnScope ["n", "lot", "span"] ["n", "lot"] (defScope s_free_number) := ⟨rfl, rfl, rfl, by decide +kernel, rfl, by decide +kernel, by decide +kernel⟩
abbrev s__law_source : Stmt := topS 17
theorem sc__law_source : FnScope ["script", "mixed", "cell"] ["script"] (defScope s__law_source) := ⟨rfl, rfl, rfl, by decide +kernel, rfl, by decide +kernel, by decide +kernel⟩
abbrev s__law_pick : Stmt := topS 18
theorem sc__law_pick : FnScope ["source", "many", "left", "mixed"] ["source", "many"] (defScope s__law_pick) := ⟨rfl, rfl, rfl, by decide +kernel, rfl, by decide +kernel, by decide +kernel⟩
abbrev s__law_of : Stmt := topS 19
theorem sc__law_of : FnScope ["source", "some"] ["source", "some"] (defScope s__law_of) := ⟨rfl, rfl, rfl, by decide +kernel, rfl, by decide +kernel, by decide +kernel⟩
abbrev s__law_mixed : Stmt := topS 20
theorem sc__law_mixed : FnScope ["source", "things", "rest", "lap"] ["source", "things"] (defScope s__law_mixed) := ⟨rfl, rfl, rfl, by decide +kernel, rfl, by decide +kernel, by decide +kernel⟩
abbrev s__law_sum : Stmt := topS 21
theorem sc__law_sum : FnScope ["one", "other", "a", "b"] ["one", "other"] (defScope s__law_sum) := ⟨rfl, rfl, rfl, by decide +kernel, rfl, by decide +kernel, by decide +kernel⟩
abbrev s__law_odd : Stmt := topS 22
theorem sc__law_odd : FnScope ["source"] ["source"] (defScope s__law_odd) := ⟨rfl, rfl, rfl, by decide +kernel, rfl, by decide +kernel, by decide +kernel⟩
abbrev s__law_is_int : Stmt := topS 23
theorem sc__law_is_int : FnScope ["value", "many"] ["value", "many"] (defScope s__law_is_int) := ⟨rfl, rfl, rfl, by decide +kernel, rfl, by decide +kernel, by decide +kernel⟩
abbrev s__law_is_lot : Stmt := topS 24
theorem sc__law_is_lot : FnScope ["n", "value", "one", "x", "y"] ["n", "value"] (defScope s__law_is_lot) := ⟨rfl, rfl, rfl, by decide +kernel, rfl, by decide +kernel, by decide +kernel⟩
abbrev s__law_pairs : Stmt := topS 26
theorem sc__law_pairs : FnScope ["n", "found", "x", "y"] ["n"] (defScope s__law_pairs) := ⟨rfl, rfl, rfl, by decide +kernel, rfl, by decide +kernel, by decide +kernel⟩
abbrev s__law_lot : Stmt := topS 25
theorem sc__law_lot : FnScope ["source", "n", "found", "pair", "x", "y"] ["source", "n"] (defScope s__law_lot) := ⟨rfl, rfl, rfl, by decide +kernel, rfl, by decide +kernel, by decide +kernel⟩
abbrev s__law_free : Stmt := topS 27
theorem sc__law_free : FnScope ["lot", "x", "y", "a", "b"] ["lot"] (defScope s__law_free) := ⟨rfl, rfl, rfl, by decide +kernel, rfl, by decide +kernel, by decide +kernel⟩
abbrev s__law_leads : Stmt := topS 28
theorem sc__law_leads : FnScope ["n", "rows", "found", "row", "head", "one", "at"] ["n", "rows"] (defScope s__law_leads) := ⟨rfl, rfl, rfl, by decide +kernel, rfl, by decide +kernel, by decide +kernel⟩
abbrev s_law : Stmt := topS 29
theorem sc_law : FnScope ["script", "source", "lap", "n", "lot", "plain", "span", "k", "odd", "some", "value"] ["script"] (defScope s_law) := ⟨rfl, rfl, rfl, by decide +kernel, rfl, by decide +kernel, by decide +kernel⟩
structure Tx (K : PySem.W.Frag) (mg : Str → Option Value) : Prop where
  b_abs : mg "abs" = none
  b_bool : mg "bool" = none
  b_dict : mg "dict" = none
  b_enumerate : mg "enumerate" = none
  b_int : mg "int" = none
  b_isinstance : mg "isinstance" = none
  b_len : mg "len" = none
  b_list : mg "list" = none
  b_max : mg "max" = none
  b_range : mg "range" = none
  b_repr : mg "repr" = none
  b_set : mg "set" = none
  b_sorted : mg "sorted" = none
  b_sum : mg "sum" = none
  b_tuple : mg "tuple" = none
  b_zip : mg "zip" = none
  f_sum_of : ∃ f fd, mg "sum_of" = some (.ref f) ∧ Fun K "sum_of" "sum_of" s_sum_of f fd
  f_first_one : ∃ f fd, mg "first_one" = some (.ref f) ∧ Fun K "first_one" "first_one" s_first_one f fd
  f_told_rows : ∃ f fd, mg "told_rows" = some (.ref f) ∧ Fun K "told_rows" "told_rows" s_told_rows f fd
  f_told_code : ∃ f fd, mg "told_code" = some (.ref f) ∧ Fun K "told_code" "told_code" s_told_code f fd
  f_lies_within : ∃ f fd, mg "lies_within" = some (.ref f) ∧ Fun K "lies_within" "lies_within" s_lies_within f fd
  f_are_unlike : ∃ f fd, mg "are_unlike" = some (.ref f) ∧ Fun K "are_unlike" "are_unlike" s_are_unlike f fd
  f_is_place : ∃ f fd, mg "is_place" = some (.ref f) ∧ Fun K "is_place" "is_place" s_is_place f fd
  f_is_span_lot : ∃ f fd, mg "is_span_lot" = some (.ref f) ∧ Fun K "is_span_lot" "is_span_lot" s_is_span_lot f fd
  f_plain_row : ∃ f fd, mg "plain_row" = some (.ref f) ∧ Fun K "plain_row" "plain_row" s_plain_row f fd
  f_plain_code : ∃ f fd, mg "plain_code" = some (.ref f) ∧ Fun K "plain_code" "plain_code" s_plain_code f fd
  f_free_places : ∃ f fd, mg "free_places" = some (.ref f) ∧ Fun K "free_places" "free_places" s_free_places f fd
  f_free_number : ∃ f fd, mg "free_number" = some (.ref f) ∧ Fun K "free_number" "free_number" s_free_number f fd
  f__law_source : ∃ f fd, mg "_law_source" = some (.ref f) ∧ Fun K "_law_source" "_law_source" s__law_source f fd
  f__law_pick : ∃ f fd, mg "_law_pick" = some (.ref f) ∧ Fun K "_law_pick" "_law_pick" s__law_pick f fd
  f__law_of : ∃ f fd, mg "_law_of" = some (.ref f) ∧ Fun K "_law_of" "_law_of" s__law_of f fd
  f__law_mixed : ∃ f fd, mg "_law_mixed" = some (.ref f) ∧ Fun K "_law_mixed" "_law_mixed" s__law_mixed f fd
  f__law_sum : ∃ f fd, mg "_law_sum" = some (.ref f) ∧ Fun K "_law_sum" "_law_sum" s__law_sum f fd
  f__law_odd : ∃ f fd, mg "_law_odd" = some (.ref f) ∧ Fun K "_law_odd" "_law_odd" s__law_odd f fd
  f__law_is_int : ∃ f fd, mg "_law_is_int" = some (.ref f) ∧ Fun K "_law_is_int" "_law_is_int" s__law_is_int f fd
  f__law_is_lot : ∃ f fd, mg "_law_is_lot" = some (.ref f) ∧ Fun K "_law_is_lot" "_law_is_lot" s__law_is_lot f fd
  f__law_pairs : ∃ f fd, mg "_law_pairs" = some (.ref f) ∧ Fun K "_law_pairs" "_law_pairs" s__law_pairs f fd
  f__law_lot : ∃ f fd, mg "_law_lot" = some (.ref f) ∧ Fun K "_law_lot" "_law_lot" s__law_lot f fd
  f__law_free : ∃ f fd, mg "_law_free" = some (.ref f) ∧ Fun K "_law_free" "_law_free" s__law_free f fd
  f__law_leads : ∃ f fd, mg "_law_leads" = some (.ref f) ∧ Fun K "_law_leads" "_law_leads" s__law_leads f fd
  f_law : ∃ f fd, mg "law" = some (.ref f) ∧ Fun K "law" "law" s_law f fd
section
variable {P : Program} {w : World} {K : PySem.W.Frag} {mg : Str → Option Value} {base : Heap}
def spec_sum_of : List D → (D → Prop) → Prop := fun ds R => ∃ a b : List Bool, ds = [rowD a, rowD b] ∧ a.length = b.length ∧ a.length ≤ 100000 ∧ R (rowD (xr a b))
theorem len_sum_of : ∀ ds R, spec_sum_of ds R → ds.length = 2 := by
  rintro ds R ⟨a, b, rfl, _⟩
  rfl
def m_sum_of : DMS :=
  (sRet (dCall fTuple (dCons (dComp (dEnum (dCons (dVar 0) dNil)) (dgTup 2 (dgCons (dgName 2) (dgCons (dgName 3) dgNil))) dYes (dCall fInt (dCons (dBin (fEq true) (dVar 3) (dBin fIx (dVar 1) (dVar 2))) dNil)) [2, 3]) dNil)))
theorem pl_sum_of : ∀ ds R, spec_sum_of ds R → m_sum_of (startE ["one", "other", "k", "mark"] ds) (retE R) := by
  rintro ds R ⟨a, b, rfl, hl, hn, h⟩
  unfold m_sum_of
  walk_at "z"
  rw [row_ints, enumD_map]
  refine ⟨by simpa using Nat.le_trans hn (by decide), compD_map (fun p => .int (bI (p.1 ^^ gt b p.2))) (fun p hp k k0 hk => ?_) ⟨solids_of fun p _ => solid_int _, ?_⟩⟩
  · obtain ⟨x, i⟩ := p
    have hi := List.mem_zipIdx_iff_getElem?.mp hp
    have hb : i < b.length := by rw [← hl]; exact (List.getElem?_eq_some_iff.mp hi).1
    walk_at "z"
    refine ⟨_, atI_ok (at_rowD hb) rfl, fEq_bI ?_⟩
    walk_at "z"
    have e : (!(x == gt b i)) = (x ^^ gt b i) := by cases x <;> cases gt b i <;> rfl
    rw [e]
    exact hk
  · rw [xr_enum hl]
    exact h
theorem at_sum_of (T : Tx K mg) : FnAt P w K mg base "sum_of" 1 2 (spD K spec_sum_of) := by
  obtain ⟨f, fd, hm, F⟩ := T.f_sum_of
  refine fnAt_of hm F rfl (F.binds (ps := ["one", "other"]) fun _ _ _ _ _ _ us hl => match us, hl with | [_, _], _ => rfl) (fnG_of F sc_sum_of (spD_len len_sum_of) fun cdv A outer s H vs Q E hr hg h => ?_)
  exact body_of (m := fun _ => m_sum_of) ["one", "other", "k", "mark"]
    ((pss_one (ps_ret (pe_callTy call_tupF (by rfl) T.b_tuple (by decide +kernel) (pa_cons (pe_lc (own := [("k", 2), ("mark", 3)]) rfl sc_sum_of.nd (pi_enumS (by rfl) T.b_enumerate (pa_cons (pv 0) pa_nil)) (blkOk_by (N := ["one", "other", "k", "mark"]) (sc := defScope s_sum_of) (by decide +kernel)) (fun _ _ _ _ _ => (pg_tup rfl (pgs_cons (pg_name (i := 2) sc_sum_of.nd rfl (by first | exact Or.inl rfl | exact Or.inr rfl)) (pgs_cons (pg_name (i := 3) sc_sum_of.nd rfl (by first | exact Or.inl rfl | exact Or.inr rfl)) pgs_nil)))) (fun _ _ _ _ _ => pts_nil) (fun _ _ _ _ _ => (pe_callTy call_int1 (by rfl) T.b_int (by decide +kernel) (pa_cons (pe_cmpR (op_neZ hr.units) (pv 3) (pe_ix ix_seq (pv 1) (pv 2) (fun _ _ => rfl)) (nomark _)) pa_nil)))) pa_nil)))))
    (fun S => (ds_ret (de_cb cd_tuple (da_cons (de_lc (di_enum (da_cons (de_var 0) da_nil)) (dg_tup (dgs_cons (dg_name 2) (dgs_cons (dg_name 3) dgs_nil))) dt_yes (de_cb cd_int (da_cons (de_op od_eq (de_var 3) (de_opA oa_ix (de_var 1) (de_var 2))) da_nil)) (by decide)) da_nil)))) h (fun S ds R hs => pl_sum_of ds R hs)
def spec_first_one : List D → (D → Prop) → Prop := fun ds R => ∃ r : List Bool, ds = [rowD r] ∧ true ∈ r ∧ R (.int (lead r : Nat))
theorem len_first_one : ∀ ds R, spec_first_one ds R → ds.length = 1 := by
  rintro ds R ⟨r, rfl, _⟩
  rfl
def m_first_one : DMS :=
  (sRet (dIndex (dVar 0) (dCons (dC (.int 1)) dNil)))
theorem pl_first_one : ∀ ds R, spec_first_one ds R → m_first_one (startE ["row"] ds) (retE R) := by
  rintro ds R ⟨r, rfl, hm, h⟩
  unfold m_first_one
  walk_at "z"
  refine ⟨1, rowI r, rfl, rfl, one_mem hm, ?_⟩
  rw [idx_one]
  exact h
theorem at_first_one (T : Tx K mg) : FnAt P w K mg base "first_one" 1 1 (spD K spec_first_one) := by
  obtain ⟨f, fd, hm, F⟩ := T.f_first_one
  refine fnAt_of hm F rfl (F.binds (ps := ["row"]) fun _ _ _ _ _ _ us hl => match us, hl with | [_], _ => rfl) (fnG_of F sc_first_one (spD_len len_first_one) fun cdv A outer s H vs Q E hr hg h => ?_)
  exact body_of (m := fun _ => m_first_one) ["row"]
    ((pss_one (ps_ret (pe_indexZ (pv 0) (pa_cons pe_int pa_nil)))))
    (fun S => (ds_ret (de_index (de_var 0) (da_cons de_int da_nil)))) h (fun S ds R hs => pl_first_one ds R hs)
def spec_told_rows : List D → (D → Prop) → Prop := fun ds R => ∃ (n : Nat) (B : List (List Bool)), (ds = [.list (rowsD B)] ∨ ds = [.tuple (rowsD B)]) ∧ Len (n + 1) B ∧ n ≤ 1000 ∧ B.length ≤ 1000 ∧ ∀ S, Rref (n + 1) B S → R (.tuple (rowsD S))
theorem len_told_rows : ∀ ds R, spec_told_rows ds R → ds.length = 1 := by
  rintro ds R ⟨n, B, rfl | rfl, _⟩ <;> rfl
def m_told_rows : DMS :=
  (sSeq (sAsg 1 (dLst dNil))
  (sSeq (sFor (dItems (dVar 0)) (dgName 2) (sSeq (sAsg 3 (dSolid (dVar 2)))
  (sSeq (sFor (dItems (dVar 1)) (dgName 4) (sAsg 3 (dSolid (dIf (dTest (dBin (fEq false) (dBin fIx (dVar 3) (dCall spec_first_one (dCons (dVar 4) dNil))) (dC (.int 1)))) (dCall spec_sum_of (dCons (dVar 3) (dCons (dVar 4) dNil))) (dVar 3)))) [4, 3] [])
  (sIf (dTest (dBin (fIn false) (dC (.int 1)) (dVar 3))) (sSeq (sAsg 5 (dCall spec_first_one (dCons (dVar 3) dNil)))
  (sAsg 1 (dBin fAdd (dComp (dItems (dVar 1)) (dgName 4) dYes (dSolid (dIf (dTest (dBin (fEq false) (dBin fIx (dVar 4) (dVar 5)) (dC (.int 1)))) (dCall spec_sum_of (dCons (dVar 4) (dCons (dVar 3) dNil))) (dVar 4))) [4]) (dLst (dCons (dVar 3) dNil))))) sNext))) [2, 3, 4, 3, 5, 1] [2, 3, 4, 5])
  (sRet (dCall fTuple (dCons (dCall (fSorted true) (dCons (dVar 1) dNil)) dNil)))))
theorem sort_rref {n : Nat} {rows B : List (List Bool)} (hL : Len n rows) (hB : B = toldP rows) {R : D → Prop} (h : ∀ S, Rref n rows S → R (.tuple (rowsD S))) : R (.tuple (sortD true (rowsD B))) := by
  obtain ⟨r, sp⟩ := told_red hL
  rw [← hB] at r sp
  obtain ⟨p, asc⟩ := sort_asc r
  rw [sortD_map]
  exact h _ (Rref.of_perm r sp p asc)
theorem pl_told_rows : ∀ ds R, spec_told_rows ds R → m_told_rows (startE ["rows", "found", "row", "here", "one", "place"] ds) (retE R) := by
  rintro ds R ⟨n, B, hds, hL, hn, hB, h⟩
  suffices key : ∀ d0 : D, items d0 = some (rowsD B) → m_told_rows (startE ["rows", "found", "row", "here", "one", "place"] [d0]) (retE R) by
    rcases hds with rfl | rfl
    · exact key _ rfl
    · exact key _ rfl
  intro d0 hi
  unfold m_told_rows
  walk_at "z"
  unfold items at hi
  simp only [hi]
  refine forD_fold rowD stepP (fun T ρ => ρ = [.val d0, .own (.list (rowsD T)), .unk, .unk, .unk, .unk] ∧ Red (n + 1) T) B [] _ ⟨rfl, red_nil⟩ ?_ ?_
  · rintro r hr T ρ Nx Bk ⟨rfl, red⟩ hN
    have lr := hL r hr
    walk_at "z"
    refine forD_fold rowD (fun h b => if gt h (lead b) then xr h b else h) (fun k ρ => ∃ s4, ρ = [.val d0, .val (.list (rowsD T)), .val (rowD r), .own (rowD k), s4, .unk] ∧ k.length = n + 1) T r _ ⟨_, rfl, lr⟩ ?_ ?_
    · rintro b hb k ρ Nx1 Bk1 ⟨s4, rfl, lk⟩ hN1
      have lb := red.len b hb
      walk_at "z"
      refine ⟨b, rfl, red.ne b hb, ?_⟩
      refine fIx_rowD (by rw [lk, ← lb]; exact List.idxOf_lt_length_iff.mpr (red.ne b hb)) (fEq_one ?_)
      walk_at "z"
      cases g : gt k (lead b)
      · walk_at "z"
        refine hN1 _ ⟨.val (rowD b), ?_, ?_⟩
        · walk_at "z"
          simp [g]
        · simp [g, lk]
      · walk_at "z"
        refine ⟨k, b, rfl, by rw [lk, lb], by omega, ?_⟩
        walk_at "z"
        refine hN1 _ ⟨.val (rowD b), ?_, ?_⟩
        · walk_at "z"
          simp [g]
        · simp [g, xr_len (by rw [lk, lb] : k.length = b.length), lk]
    · rintro ρ ⟨s4, rfl, lk⟩
      have ek : List.foldl (fun h b => if gt h (lead b) = true then xr h b else h) r T = red1 T r := rfl
      rw [ek] at lk ⊢
      walk_at "z"
      refine fIn_one ?_
      have red2 := (step_red red lr).1
      cases hc : (red1 T r).contains true
      · walk_at "z"
        refine hN _ ⟨?_, red2⟩
        have e : stepP T r = T := by unfold stepP; rw [hc]; rfl
        rw [e]
        walk_at "z"
      · have hm : true ∈ red1 T r := List.contains_iff_mem.mp hc
        walk_at "z"
        refine ⟨_, rfl, hm, by have := red.count; rw [List.length_map]; omega, ?_⟩
        refine compD_map (fun b => rowD (if gt b (lead (red1 T r)) then xr b (red1 T r) else b)) (fun b hb k k0 hk => ?_) ⟨solids_of fun b _ => solid_rowD _, by have := red.count; rw [List.length_map]; omega, ?_⟩
        · have lb := red.len b hb
          walk_at "z"
          refine fIx_rowD (by rw [lb, ← lk]; exact List.idxOf_lt_length_iff.mpr hm) (fEq_one ?_)
          walk_at "z"
          cases g : gt b (lead (red1 T r))
          · walk_at "z"
            simpa [g] using hk
          · walk_at "z"
            refine ⟨b, _, rfl, by rw [lk, lb], by omega, ?_⟩
            walk_at "z"
            simpa [g] using hk
        · refine hN _ ⟨?_, red2⟩
          have e : stepP T r = T.map (fun b => if gt b (lead (red1 T r)) then xr b (red1 T r) else b) ++ [red1 T r] := by unfold stepP; rw [hc]; rfl
          rw [e]
          walk_at "z"
          simp [List.map_map, Function.comp_def]
  · rintro ρ ⟨rfl, red⟩
    have hT := red.count
    walk_at "z"
    refine ⟨solids_rowsD _, sortOk_rowsD red.len (by omega), by rw [sortD_map]; exact solids_rowsD _, sort_rref hL rfl h⟩
theorem at_told_rows (T : Tx K mg) : FnAt P w K mg base "told_rows" 2 1 (spD K spec_told_rows) := by
  obtain ⟨f, fd, hm, F⟩ := T.f_told_rows
  refine fnAt_of hm F rfl (F.binds (ps := ["rows"]) fun _ _ _ _ _ _ us hl => match us, hl with | [_], _ => rfl) (fnG_of F sc_told_rows (spD_len len_told_rows) fun cdv A outer s H vs Q E hr hg h => ?_)
  exact body_of (m := fun _ => m_told_rows) ["rows", "found", "row", "here", "one", "place"]
    ((pss_cons (ps_set (i := 1) sc_told_rows.nd rfl (by first | exact Or.inl rfl | exact Or.inr rfl) (pe_lst pa_nil))
      (pss_cons (ps_for PassesOwn.never rfl (pi_seq (pv 0)) (pg_name (i := 2) sc_told_rows.nd rfl (by first | exact Or.inl rfl | exact Or.inr rfl)) (pss_cons (ps_set (i := 3) sc_told_rows.nd rfl (by first | exact Or.inl rfl | exact Or.inr rfl) (pv 2))
      (pss_cons (ps_for PassesOwn.never rfl (pi_seq (pv 1)) (pg_name (i := 4) sc_told_rows.nd rfl (by first | exact Or.inl rfl | exact Or.inr rfl)) (pss_one (ps_set (i := 3) sc_told_rows.nd rfl (by first | exact Or.inl rfl | exact Or.inr rfl) (pe_ifExp (pt_cmpR (op_eqZ hr.units) (pe_ix ix_seq (pv 3) (pe_callG (at_first_one T) (hr.mono (by decide)) hg (by rfl) (pa_cons (pv 4) pa_nil)) (fun _ _ => rfl)) pe_int (nomark _)) (pe_callG (at_sum_of T) (hr.mono (by decide)) hg (by rfl) (pa_cons (pv 3) (pa_cons (pv 4) pa_nil))) (pv 3)))))
      (pss_one (ps_if (pt_cmpR (op_inZ hr.units) pe_int (pv 3) (by with_unfolding_all rfl)) (pss_cons (ps_set (i := 5) sc_told_rows.nd rfl (by first | exact Or.inl rfl | exact Or.inr rfl) (pe_callG (at_first_one T) (hr.mono (by decide)) hg (by rfl) (pa_cons (pv 3) pa_nil)))
      (pss_one (ps_set (i := 1) sc_told_rows.nd rfl (by first | exact Or.inl rfl | exact Or.inr rfl) (pe_op op_addZ (pe_lc (own := [("one", 4)]) rfl sc_told_rows.nd (pi_seq (pv 1)) (blkOk_by (N := ["rows", "found", "row", "here", "one", "place"]) (sc := defScope s_told_rows) (by decide +kernel)) (fun _ _ _ _ _ => (pg_name (i := 4) sc_told_rows.nd rfl (by first | exact Or.inl rfl | exact Or.inr rfl))) (fun _ _ _ _ _ => pts_nil) (fun _ _ _ _ _ => (pe_ifExp (pt_cmpR (op_eqZ hr.units) (pe_ix ix_seq (pv 4) (pv 5) (fun _ _ => rfl)) pe_int (nomark _)) (pe_callG (at_sum_of T) (hr.mono (by decide)) hg (by rfl) (pa_cons (pv 4) (pa_cons (pv 3) pa_nil))) (pv 4)))) (pe_lst (pa_cons (pv 3) pa_nil)))))) pss_nil)))))
      (pss_one (ps_ret (pe_callTy call_tupF (by rfl) T.b_tuple (by decide +kernel) (pa_cons (pe_callBK (cr_sortZR hr.units) (by rfl) T.b_sorted (by decide +kernel) (pa_cons (pv 1) pa_nil) (pk_cons pe_bl pk_nil)) pa_nil)))))))
    (fun S => (ds_seq (ds_asg 1 (de_lst da_nil))
      (ds_seq (ds_for (Wg := [2]) (Wb := [3, 4, 3, 5, 1]) (F := [2, 3, 4, 5]) (di_seq (de_var 0)) (dg_name 2) (ds_seq (ds_asg 3 (de_solid (de_var 2)))
      (ds_seq (ds_for (Wg := [4]) (Wb := [3]) (F := []) (di_seq (de_var 1)) (dg_name 4) (ds_asg 3 (de_solid (de_if (dt_val (de_op od_eq (de_opA oa_ix (de_var 3) (de_call (da_cons (de_var 4) da_nil))) de_int)) (de_call (da_cons (de_var 3) (da_cons (de_var 4) da_nil))) (de_var 3)))) (by decide))
      (ds_if (dt_val (de_op od_in de_int (de_var 3))) (ds_seq (ds_asg 5 (de_call (da_cons (de_var 3) da_nil)))
      (ds_asg 1 (de_op od_add (de_lc (di_seq (de_var 1)) (dg_name 4) dt_yes (de_solid (de_if (dt_val (de_op od_eq (de_opA oa_ix (de_var 4) (de_var 5)) de_int)) (de_call (da_cons (de_var 4) (da_cons (de_var 3) da_nil))) (de_var 4))) (by decide)) (de_lst (da_cons (de_var 3) da_nil))))) ds_next))) (by decide))
      (ds_ret (de_cb cd_tuple (da_cons (de_sortR (da_cons (de_var 1) da_nil) (fun _ _ _ h => h)) da_nil)))))) h (fun S ds R hs => pl_told_rows ds R hs)
def spec_told_code : List D → (D → Prop) → Prop := fun ds R => ∃ (n : Nat) (B : List (List Bool)), ds = [.tuple [.int ((n + 1 : Nat) : Int), .tuple (rowsD B)]] ∧ Len (n + 1) B ∧ n ≤ 1000 ∧ B.length ≤ 1000 ∧ ∀ S, Rref (n + 1) B S → R (.tuple [.int ((n + 1 : Nat) : Int), .tuple (rowsD S)])
theorem len_told_code : ∀ ds R, spec_told_code ds R → ds.length = 1 := by
  rintro ds R ⟨n, B, rfl, _⟩
  rfl
def m_told_code : DMS :=
  (sRet (dSolid (dTup (dCons (dBin fIx (dVar 0) (dC (.int 0))) (dCons (dCall spec_told_rows (dCons (dBin fIx (dVar 0) (dC (.int 1))) dNil)) dNil)))))
theorem pl_told_code : ∀ ds R, spec_told_code ds R → m_told_code (startE ["code"] ds) (retE R) := by
  rintro ds R ⟨n, B, rfl, hL, hn, hB, h⟩
  unfold m_told_code
  walk_at "y"
  refine ⟨n, B, .inr rfl, hL, hn, hB, fun S hS => ?_⟩
  walk_at "y"
  exact ⟨solids_rowsD _, h S hS⟩
theorem at_told_code (T : Tx K mg) : FnAt P w K mg base "told_code" 3 1 (spD K spec_told_code) := by
  obtain ⟨f, fd, hm, F⟩ := T.f_told_code
  refine fnAt_of hm F rfl (F.binds (ps := ["code"]) fun _ _ _ _ _ _ us hl => match us, hl with | [_], _ => rfl) (fnG_of F sc_told_code (spD_len len_told_code) fun cdv A outer s H vs Q E hr hg h => ?_)
  exact body_of (m := fun _ => m_told_code) ["code"]
    ((pss_one (ps_ret (pe_tupF (pa_cons (pe_ix ix_seq (pv 0) pe_int (fun _ _ => rfl)) (pa_cons (pe_callG (at_told_rows T) (hr.mono (by decide)) hg (by rfl) (pa_cons (pe_ix ix_seq (pv 0) pe_int (fun _ _ => rfl)) pa_nil)) pa_nil))))))
    (fun S => (ds_ret (de_solid (de_tup (da_cons (de_opA oa_ix (de_var 0) de_int) (da_cons (de_call (da_cons (de_opA oa_ix (de_var 0) de_int) da_nil)) da_nil)))))) h (fun S ds R hs => pl_told_code ds R hs)
def spec_lies_within : List D → (D → Prop) → Prop := fun ds R => ∃ q p : Nat × Nat, ds = [prD q, prD p] ∧ R (.bool (withinP q p))
theorem len_lies_within : ∀ ds R, spec_lies_within ds R → ds.length = 2 := by
  rintro ds R ⟨q, p, rfl, _⟩
  rfl
def m_lies_within : DMS :=
  (sRet (dAndV (dBin (f2I fun i j => .bool (decide (i < j))) (dBin fIx (dVar 1) (dC (.int 0))) (dBin fIx (dVar 0) (dC (.int 0)))) (dBin (f2I fun i j => .bool (decide (i < j))) (dBin fIx (dVar 0) (dC (.int 1))) (dBin fIx (dVar 1) (dC (.int 1))))))
theorem pl_lies_within : ∀ ds R, spec_lies_within ds R → m_lies_within (startE ["span", "other"] ds) (retE R) := by
  rintro ds R ⟨q, p, rfl, h⟩
  unfold m_lies_within
  have e1 : decide (((p.1 : Nat) : Int) < ((q.1 : Nat) : Int)) = decide (p.1 < q.1) := by
    rw [Bool.eq_iff_iff, decide_eq_true_iff, decide_eq_true_iff]
    omega
  have e2 : decide (((q.2 : Nat) : Int) < ((p.2 : Nat) : Int)) = decide (q.2 < p.2) := by
    rw [Bool.eq_iff_iff, decide_eq_true_iff, decide_eq_true_iff]
    omega
  unfold withinP at h
  unfold prD
  walk_at "y"
  simp only [natD, e1, e2] at h ⊢
  cases c1 : decide (p.1 < q.1)
  · rw [c1] at h
    walk_at "y"
    exact h
  · rw [c1] at h
    walk_at "y"
    simpa using h
theorem at_lies_within (T : Tx K mg) : FnAt P w K mg base "lies_within" 1 2 (spD K spec_lies_within) := by
  obtain ⟨f, fd, hm, F⟩ := T.f_lies_within
  refine fnAt_of hm F rfl (F.binds (ps := ["span", "other"]) fun _ _ _ _ _ _ us hl => match us, hl with | [_, _], _ => rfl) (fnG_of F sc_lies_within (spD_len len_lies_within) fun cdv A outer s H vs Q E hr hg h => ?_)
  exact body_of (m := fun _ => m_lies_within) ["span", "other"]
    ((pss_one (ps_ret (pe_and (pe_cmpR op_lt (pe_ix ix_seq (pv 1) pe_int (fun _ _ => rfl)) (pe_ix ix_seq (pv 0) pe_int (fun _ _ => rfl)) (nomark _)) (pe_one (pe_cmpR op_lt (pe_ix ix_seq (pv 0) pe_int (fun _ _ => rfl)) (pe_ix ix_seq (pv 1) pe_int (fun _ _ => rfl)) (nomark _)))))))
    (fun S => (ds_ret (de_andV (de_op od_B0 (de_opA oa_ix (de_var 1) de_int) (de_opA oa_ix (de_var 0) de_int)) (de_op od_B0 (de_opA oa_ix (de_var 0) de_int) (de_opA oa_ix (de_var 1) de_int))))) h (fun S ds R hs => pl_lies_within ds R hs)
def spec_are_unlike : List D → (D → Prop) → Prop := fun ds R => ∃ L : List Nat, ds = [.list (L.map natD)] ∧ L.length ≤ 100000 ∧ R (.bool (decide L.Nodup))
theorem len_are_unlike : ∀ ds R, spec_are_unlike ds R → ds.length = 1 := by
  rintro ds R ⟨L, rfl, _⟩
  rfl
def m_are_unlike : DMS :=
  (sRet (dBin (fEq false) (dLenDictK (dComp (dItems (dVar 0)) (dgName 1) dYes (dSolid (dTup (dCons (dVar 1) (dCons (dC (.bool true)) dNil)))) [1])) (dCall fLen (dCons (dVar 0) dNil))))
theorem pl_are_unlike : ∀ ds R, spec_are_unlike ds R → m_are_unlike (startE ["things", "thing"] ds) (retE R) := by
  rintro ds R ⟨L, rfl, hl, h⟩
  unfold m_are_unlike
  obtain ⟨qs, hq⟩ : ∃ qs : List (Key × D), qs = L.map fun k => (.inl ((k : Nat) : Int), .bool true) := ⟨_, rfl⟩
  have e0 : kpD qs = L.map fun k => .tuple [natD k, .bool true] := by
    rw [hq]
    unfold kpD
    rw [List.map_map]
    rfl
  have e1 : (aMerge qs).length = L.length ↔ L.Nodup := by
    have := merge_len qs
    rw [hq, List.length_map, List.map_map] at this
    rw [hq, this]
    rw [show (Prod.fst ∘ fun k : Nat => ((.inl ((k : Nat) : Int), .bool true) : Key × D)) = (Sum.inl : Int → Key) ∘ (fun k : Nat => ((k : Nat) : Int)) from rfl, ← List.map_map]
    rw [← nodup_nats]
    exact ⟨fun z => (List.pairwise_map.mp z).imp fun {a b} y e => y (by rw [e]), fun z => List.pairwise_map.mpr (z.imp fun {a b} y e => y (by injection e))⟩
  walk_at "h"
  refine ⟨by rw [List.length_map]; omega, compD_map (fun k => .tuple [natD k, .bool true]) (fun k hk q q0 hq => ?_) ⟨qs, by rw [e0], ?_, ?_⟩⟩
  · walk_at "h"
    exact hq
  · intro q hq2
    rw [hq] at hq2
    obtain ⟨k, _, rfl⟩ := List.mem_map.mp hq2
    simp [solid]
  · refine fEq_int ?_
    simp only [Bool.false_eq_true, if_false, List.length_map]
    have : ((((aMerge qs).length : Nat) : Int) == ((L.length : Nat) : Int)) = decide L.Nodup := by
      rw [Bool.eq_iff_iff, beq_iff_eq, decide_eq_true_iff, ← e1]
      omega
    rw [this]
    exact h
theorem at_are_unlike (T : Tx K mg) : FnAt P w K mg base "are_unlike" 1 1 (spD K spec_are_unlike) := by
  obtain ⟨f, fd, hm, F⟩ := T.f_are_unlike
  refine fnAt_of hm F rfl (F.binds (ps := ["things"]) fun _ _ _ _ _ _ us hl => match us, hl with | [_], _ => rfl) (fnG_of F sc_are_unlike (spD_len len_are_unlike) fun cdv A outer s H vs Q E hr hg h => ?_)
  exact body_of (m := fun _ => m_are_unlike) ["things", "thing"]
    ((pss_one (ps_ret (pe_cmpR (op_eqZ hr.units) (pe_callB call_lenK (by rfl) T.b_len (by decide +kernel) (pa_cons (pe_callTy (call_dictP rfl) (by rfl) T.b_dict (by decide +kernel) (pa_cons (pe_lc (own := [("thing", 1)]) rfl sc_are_unlike.nd (pi_seq (pv 0)) (blkOk_by (N := ["things", "thing"]) (sc := defScope s_are_unlike) (by decide +kernel)) (fun _ _ _ _ _ => (pg_name (i := 1) sc_are_unlike.nd rfl (by first | exact Or.inl rfl | exact Or.inr rfl))) (fun _ _ _ _ _ => pts_nil) (fun _ _ _ _ _ => (pe_tupF (pa_cons (pv 1) (pa_cons pe_bl pa_nil))))) pa_nil)) pa_nil)) (pe_callB call_len (by rfl) T.b_len PySem.boot_len (pa_cons (pv 0) pa_nil)) (nomark _)))))
    (fun S => (ds_ret (de_op od_eq (de_lenDictK (de_lc (di_seq (de_var 0)) (dg_name 1) dt_yes (de_solid (de_tup (da_cons (de_var 1) (da_cons de_bl da_nil)))) (by decide))) (de_cb cd_len (da_cons (de_var 0) da_nil))))) h (fun S ds R hs => pl_are_unlike ds R hs)
def spec_is_place : List D → (D → Prop) → Prop := fun ds R => ∃ (n : Nat) (d : D), ds = [.int ((n : Nat) : Int), d] ∧ noFrz d ∧ R (.bool (placeB n d))
theorem len_is_place : ∀ ds R, spec_is_place ds R → ds.length = 2 := by
  rintro ds R ⟨n, d, rfl, _⟩
  rfl
def m_is_place : DMS :=
  (sRet (dAndV (dIsi isInt (dVar 1)) (dAndV (dNotV (dIsi isBool (dVar 1))) (dChain (f2I fun i j => .bool (decide (i ≤ j))) (f2I fun i j => .bool (decide (i < j))) (dC (.int 0)) (dVar 1) (dVar 0)))))
theorem pl_is_place : ∀ ds R, spec_is_place ds R → m_is_place (startE ["n", "value"] ds) (retE R) := by
  rintro ds R ⟨n, d, rfl, nf, h⟩
  unfold m_is_place
  cases d with
  | dict kvs =>
    walk_at "h"
    exact ⟨nf, h⟩
  | int i =>
    have e : placeB n (.int i) = decide (0 ≤ i ∧ i < ((n : Nat) : Int)) := rfl
    rw [e] at h
    walk_at "h"
    by_cases c : 0 ≤ i
    · simp only [c, decide_true, true_and] at h ⊢
      walk_at "h"
      exact h
    · simp only [c, decide_false, false_and] at h ⊢
      walk_at "h"
      exact h
  | _ =>
    walk_at "h"
    exact h
theorem at_is_place (T : Tx K mg) : FnAt P w K mg base "is_place" 1 2 (spD K spec_is_place) := by
  obtain ⟨f, fd, hm, F⟩ := T.f_is_place
  refine fnAt_of hm F rfl (F.binds (ps := ["n", "value"]) fun _ _ _ _ _ _ us hl => match us, hl with | [_, _], _ => rfl) (fnG_of F sc_is_place (spD_len len_is_place) fun cdv A outer s H vs Q E hr hg h => ?_)
  exact body_of (m := fun _ => m_is_place) ["n", "value"]
    ((pss_one (ps_ret (pe_and (pe_callB call_isi (by rfl) T.b_isinstance (by decide +kernel) (pa_cons (pv 1) (pa_cons (pe_bltn (v := .ty "int") (u := .type "int") (by rfl) T.b_int (by decide +kernel) rfl) pa_nil))) (pe_and (pe_not (pe_callB call_isi (by rfl) T.b_isinstance (by decide +kernel) (pa_cons (pv 1) (pa_cons (pe_bltn (v := .ty "bool") (u := .type "bool") (by rfl) T.b_bool (by decide +kernel) rfl) pa_nil)))) (pe_one (pe_chain op_le op_lt pe_int (pv 1) (pv 0))))))))
    (fun S => (ds_ret (de_andV (de_isi kit_isInt (de_var 1)) (de_andV (de_notV (de_isi kit_isBool (de_var 1))) (de_chain od_B0 od_B0 de_int (de_var 1) (de_var 0)))))) h (fun S ds R hs => pl_is_place ds R hs)
def spec_is_span_lot : List D → (D → Prop) → Prop := fun ds R => ∃ (n : Nat) (d : D), ds = [.int ((n : Nat) : Int), d] ∧ inner3 d ∧ ∀ b : Bool, (b = true ↔ LotIs n d) → R (.bool b)
theorem len_is_span_lot : ∀ ds R, spec_is_span_lot ds R → ds.length = 2 := by
  rintro ds R ⟨n, d, rfl, _⟩
  rfl
def m_is_span_lot : DMS :=
  (sSeq (sIf (dNot (dTru (dIsi isTuple (dVar 1)))) (sRet (dC (.bool false))) sNext)
  (sSeq (sFor (dItems (dVar 1)) (dgName 2) (sSeq (sIf (dOr (dNot (dTru (dIsi isTuple (dVar 2)))) (dOr (dTest (dBin (fEq true) (dCall fLen (dCons (dVar 2) dNil)) (dC (.int 2)))) (dOr (dNot (dTru (dCall spec_is_place (dCons (dVar 0) (dCons (dBin fIx (dVar 2) (dC (.int 0))) dNil))))) (dNot (dTru (dCall spec_is_place (dCons (dVar 0) (dCons (dBin fIx (dVar 2) (dC (.int 1))) dNil)))))))) (sRet (dC (.bool false))) sNext)
  (sIf (dTest (dBin (f2I fun i j => .bool (decide (j < i))) (dBin fIx (dVar 2) (dC (.int 0))) (dBin fIx (dVar 2) (dC (.int 1))))) (sRet (dC (.bool false))) sNext)) [2] [])
  (sSeq (sPar 3 4 (dCons (dComp (dItems (dVar 1)) (dgName 2) dYes (dSolid (dBin fIx (dVar 2) (dC (.int 0)))) [2]) (dCons (dComp (dItems (dVar 1)) (dgName 2) dYes (dSolid (dBin fIx (dVar 2) (dC (.int 1)))) [2]) dNil)))
  (sRet (dAndV (dBin (fEq false) (dVar 3) (dCall (fSorted false) (dCons (dVar 3) dNil))) (dAndV (dCall spec_are_unlike (dCons (dVar 3) dNil)) (dCall spec_are_unlike (dCons (dVar 4) dNil))))))))
theorem pairB_len {n : Nat} {ys : List D} (h : ys.length ≠ 2) : pairB n (.tuple ys) = false := by
  rw [← Bool.not_eq_true, pairB_iff]
  rintro ⟨p, _, e⟩
  injection e with e
  rw [e] at h
  exact h rfl
theorem pairB_fst {n : Nat} {a b : D} (h : placeB n a = false) : pairB n (.tuple [a, b]) = false := by
  rw [← Bool.not_eq_true, pairB_iff]
  rintro ⟨p, ok, e⟩
  injection e with e
  injection e with e1 e2
  rw [e1, placeB_iff.mpr ⟨p.1, Nat.lt_of_le_of_lt ok.1 ok.2, rfl⟩] at h
  cases h
theorem pairB_snd {n : Nat} {a b : D} (h : placeB n b = false) : pairB n (.tuple [a, b]) = false := by
  rw [← Bool.not_eq_true, pairB_iff]
  rintro ⟨p, ok, e⟩
  injection e with e
  injection e with e1 e2
  injection e2 with e2 _
  rw [e2, placeB_iff.mpr ⟨p.2, ok.2, rfl⟩] at h
  cases h
theorem pairB_two {n i j : Nat} (hj : j < n) : pairB n (.tuple [natD i, natD j]) = decide (i ≤ j) := by
  show decide _ = decide _
  rw [Bool.eq_iff_iff, decide_eq_true_iff, decide_eq_true_iff]
  omega
theorem forD_findD {mg : DMg} {mb : DMS} {F : List Nat} {R : DEnds} (f : D → Option D) (I : En → Prop) (ys : List D) (ρ : En) (h0 : I ρ)
    (hs : ∀ y ∈ ys, ∀ (ρ : En) (E : DEnds), I ρ → (∀ d, f y = some d → E.rt d) → (f y = none → ∀ ρ', I (hide F ρ') → E.nx ρ') → mg y ρ fun ρ1 => mb ρ1 E)
    (hr : ∀ d, ys.findSome? f = some d → R.rt d) (hn : ys.findSome? f = none → ∀ ρ, I ρ → R.nx ρ) : forD mg mb F R ys ρ := by
  have := forD_find (F := F) (R := R) (mg := mg) (mb := mb) id f I ys ρ h0 hs hr hn
  rwa [List.map_id] at this
theorem not_lot {n : Nat} {d : D} (h : ∀ xs, d ≠ .tuple xs) : (false = true ↔ LotIs n d) :=
  ⟨(fun z => by cases z), fun ⟨L, e, _⟩ => absurd e (h _)⟩
theorem pl_is_span_lot : ∀ ds R, spec_is_span_lot ds R → m_is_span_lot (startE ["n", "value", "pair", "firsts", "lasts"] ds) (retE R) := by
  rintro ds R ⟨n, d, rfl, ⟨nf, inn⟩, h⟩
  unfold m_is_span_lot
  cases d with
  | dict kvs =>
    walk_at "h"
    exact ⟨nf, h false (not_lot fun xs e => by cases e)⟩
  | tuple xs =>
    obtain ⟨lx, inn⟩ := inn xs rfl
    walk_at "h"
    walk_at "s"
    refine forD_findD (fun x => if pairB n x then none else some (.bool false)) (fun ρ => ∃ s2, ρ = [.val (.int ((n : Nat) : Int)), .val (.tuple xs), s2, .unk, .unk]) xs _ ⟨_, rfl⟩ ?_ ?_ ?_
    · rintro x hx ρ E ⟨s2, rfl⟩ hr hn
      obtain ⟨nx, so, inx⟩ := inn x hx
      have bad : pairB n x = false → E.rt (.bool false) := fun c => hr _ (by rw [c]; rfl)
      have fine : pairB n x = true → ∀ ρ', (∃ s2, hide [] ρ' = [.val (.int ((n : Nat) : Int)), .val (.tuple xs), s2, .unk, .unk]) → E.nx ρ' := fun c ρ' => hn (by rw [c]; rfl) ρ'
      cases x with
      | dict kvs =>
        walk_at "h"
        exact ⟨nx, bad rfl⟩
      | tuple ys =>
        obtain ⟨ly, iny⟩ := inx ys rfl
        walk_at "h"
        refine fEq_int ?_
        simp only [if_true]
        by_cases l2 : ys.length = 2
        · have e : (((ys.length : Nat) : Int) == 2) = true := by rw [beq_iff_eq]; omega
          rw [e]
          obtain ⟨a, b, rfl⟩ : ∃ a b, ys = [a, b] := by
            match ys, l2 with
            | [a, b], _ => exact ⟨a, b, rfl⟩
          have na := iny a (by simp)
          have nb := iny b (by simp)
          walk_at "y"
          refine ⟨n, a, rfl, na, ?_⟩
          cases c1 : placeB n a
          · exact bad (pairB_fst c1)
          walk_at "y"
          refine ⟨n, b, rfl, nb, ?_⟩
          cases c2 : placeB n b
          · exact bad (pairB_snd c2)
          obtain ⟨i, hi, rfl⟩ := placeB_iff.mp c1
          obtain ⟨j, hj, rfl⟩ := placeB_iff.mp c2
          have pb := pairB_two (i := i) hj
          rw [pb] at bad fine
          have ej : decide (((j : Nat) : Int) < ((i : Nat) : Int)) = !decide (i ≤ j) := by
            rw [Bool.eq_iff_iff, decide_eq_true_iff, Bool.not_eq_true', decide_eq_false_iff_not]
            omega
          walk_at "y"
          rw [ej]
          cases c3 : decide (i ≤ j)
          · exact bad c3
          · exact fine c3 _ ⟨_, rfl⟩
        · have e : (((ys.length : Nat) : Int) == 2) = false := by
            rw [← Bool.not_eq_true, beq_iff_eq]
            omega
          rw [e]
          exact bad (pairB_len l2)
      | _ =>
        walk_at "h"
        exact bad rfl
    · intro d hd
      obtain ⟨x, hx, e⟩ := List.exists_of_findSome?_eq_some hd
      cases c : pairB n x
      · rw [c] at e
        cases e
        exact h false ⟨(fun z => by cases z), fun z => absurd z (lotIs_bad hx c)⟩
      · rw [c] at e
        cases e
    · rintro hd ρ ⟨s2, rfl⟩
      have all : ∀ x ∈ xs, pairB n x = true := fun x hx => by
        have := List.findSome?_eq_none_iff.mp hd x hx
        cases c : pairB n x
        · rw [c] at this
          cases this
        · rfl
      obtain ⟨L, rfl, ok⟩ := pairs_of all
      have iff := lotIs_pairs ok
      rw [List.length_map] at lx
      walk_at "h"
      walk_at "s"
      refine ⟨by rw [List.length_map]; omega, compD_map (fun p => natD p.1) (fun p hp k k0 hk => ?_) ⟨by rw [List.length_map]; omega, compD_map (fun p => natD p.2) (fun p hp k k0 hk => ?_) ?_⟩⟩
      · rw [show prD p = .tuple [.int ((p.1 : Nat) : Int), .int ((p.2 : Nat) : Int)] from rfl]
        walk_at "y"
        exact hk
      · rw [show prD p = .tuple [.int ((p.1 : Nat) : Int), .int ((p.2 : Nat) : Int)] from rfl]
        walk_at "y"
        exact hk
      rw [show (L.map fun p => natD p.1) = (L.map Prod.fst).map natD by rw [List.map_map]; rfl, show (L.map fun p => natD p.2) = (L.map Prod.snd).map natD by rw [List.map_map]; rfl]
      obtain ⟨A, hA⟩ : ∃ A, A = L.map Prod.fst := ⟨_, rfl⟩
      obtain ⟨C, hC⟩ : ∃ C, C = L.map Prod.snd := ⟨_, rfl⟩
      rw [← hA, ← hC] at iff ⊢
      have lA : A.length ≤ 1000 := by rw [hA, List.length_map]; exact lx
      have lC : C.length ≤ 1000 := by rw [hC, List.length_map]; exact lx
      walk_at "s"
      refine ⟨solids_nats _, sortOk_nats (by omega), ?_⟩
      rw [sortD_upN]
      refine fEq_natsL ?_
      simp only [Bool.false_eq_true, if_false]
      cases c1 : decide (A = upN A)
      · refine h false ⟨(fun z => by cases z), fun z => ?_⟩
        exact absurd ((upN_same A).mpr (iff.mp z).1) (of_decide_eq_false c1)
      · have s1 := (upN_same A).mp (of_decide_eq_true c1)
        walk_at "h"
        refine ⟨A, rfl, by omega, ?_⟩
        cases c2 : decide A.Nodup
        · refine h false ⟨(fun z => by cases z), fun z => ?_⟩
          exact absurd (iff.mp z).2.1 (of_decide_eq_false c2)
        · walk_at "h"
          refine ⟨C, rfl, by omega, h _ ?_⟩
          rw [decide_eq_true_iff, iff]
          exact ⟨fun z => ⟨s1, of_decide_eq_true c2, z⟩, fun z => z.2.2⟩
  | _ =>
    walk_at "h"
    exact h false (not_lot fun xs e => by cases e)
theorem at_is_span_lot (T : Tx K mg) : FnAt P w K mg base "is_span_lot" 2 2 (spD K spec_is_span_lot) := by
  obtain ⟨f, fd, hm, F⟩ := T.f_is_span_lot
  refine fnAt_of hm F rfl (F.binds (ps := ["n", "value"]) fun _ _ _ _ _ _ us hl => match us, hl with | [_, _], _ => rfl) (fnG_of F sc_is_span_lot (spD_len len_is_span_lot) fun cdv A outer s H vs Q E hr hg h => ?_)
  exact body_of (m := fun _ => m_is_span_lot) ["n", "value", "pair", "firsts", "lasts"]
    ((pss_cons (ps_if (pt_not (pt_truth (pe_callB call_isi (by rfl) T.b_isinstance (by decide +kernel) (pa_cons (pv 1) (pa_cons (pe_bltn (v := .ty "tuple") (u := .type "tuple") (by rfl) T.b_tuple (by decide +kernel) rfl) pa_nil))) (fun _ => rfl))) (pss_one (ps_ret pe_bl)) pss_nil)
      (pss_cons (ps_for PassesOwn.never rfl (pi_seq (pv 1)) (pg_name (i := 2) sc_is_span_lot.nd rfl (by first | exact Or.inl rfl | exact Or.inr rfl)) (pss_cons (ps_if (PW.pt (pw_or (pt_not (pt_truth (pe_callB call_isi (by rfl) T.b_isinstance (by decide +kernel) (pa_cons (pv 2) (pa_cons (pe_bltn (v := .ty "tuple") (u := .type "tuple") (by rfl) T.b_tuple (by decide +kernel) rfl) pa_nil))) (fun _ => rfl))) (pw_or (pt_cmpR (op_neZ hr.units) (pe_callB call_len (by rfl) T.b_len PySem.boot_len (pa_cons (pv 2) pa_nil)) pe_int (nomark _)) (pw_or (pt_not (pt_truth (pe_callG (at_is_place T) (hr.mono (by decide)) hg (by rfl) (pa_cons (pv 0) (pa_cons (pe_ix ix_seq (pv 2) pe_int (fun _ _ => rfl)) pa_nil))) (fun _ => rfl))) (pw_or1 (pt_not (pt_truth (pe_callG (at_is_place T) (hr.mono (by decide)) hg (by rfl) (pa_cons (pv 0) (pa_cons (pe_ix ix_seq (pv 2) pe_int (fun _ _ => rfl)) pa_nil))) (fun _ => rfl)))))))) (pss_one (ps_ret pe_bl)) pss_nil)
      (pss_one (ps_if (pt_cmpR op_gt (pe_ix ix_seq (pv 2) pe_int (fun _ _ => rfl)) (pe_ix ix_seq (pv 2) pe_int (fun _ _ => rfl)) (nomark _)) (pss_one (ps_ret pe_bl)) pss_nil))))
      (pss_cons (ps_par (i := 3) (j := 4) rfl sc_is_span_lot.nd rfl rfl (by decide) rfl rfl (pa_cons (pe_lc (own := [("pair", 2)]) rfl sc_is_span_lot.nd (pi_seq (pv 1)) (blkOk_by (N := ["n", "value", "pair", "firsts", "lasts"]) (sc := defScope s_is_span_lot) (by decide +kernel)) (fun _ _ _ _ _ => (pg_name (i := 2) sc_is_span_lot.nd rfl (by first | exact Or.inl rfl | exact Or.inr rfl))) (fun _ _ _ _ _ => pts_nil) (fun _ _ _ _ _ => (pe_ix ix_seq (pv 2) pe_int (fun _ _ => rfl)))) (pa_cons (pe_lc (own := [("pair", 2)]) rfl sc_is_span_lot.nd (pi_seq (pv 1)) (blkOk_by (N := ["n", "value", "pair", "firsts", "lasts"]) (sc := defScope s_is_span_lot) (by decide +kernel)) (fun _ _ _ _ _ => (pg_name (i := 2) sc_is_span_lot.nd rfl (by first | exact Or.inl rfl | exact Or.inr rfl))) (fun _ _ _ _ _ => pts_nil) (fun _ _ _ _ _ => (pe_ix ix_seq (pv 2) pe_int (fun _ _ => rfl)))) pa_nil)) (by rfl))
      (pss_one (ps_ret (pe_and (pe_cmpR (op_eqZ hr.units) (pv 3) (pe_callB (cr_sortZ hr.units) (by rfl) T.b_sorted (by decide +kernel) (pa_cons (pv 3) pa_nil)) (nomark _)) (pe_and (pe_callG (at_are_unlike T) (hr.mono (by decide)) hg (by rfl) (pa_cons (pv 3) pa_nil)) (pe_one (pe_callG (at_are_unlike T) (hr.mono (by decide)) hg (by rfl) (pa_cons (pv 4) pa_nil)))))))))))
    (fun S => (ds_seq (ds_if (dt_not (dt_tru (de_isi kit_isTuple (de_var 1)))) (ds_ret de_bl) ds_next)
      (ds_seq (ds_for (Wg := [2]) (Wb := []) (F := []) (di_seq (de_var 1)) (dg_name 2) (ds_seq (ds_if (dt_or (dt_not (dt_tru (de_isi kit_isTuple (de_var 2)))) (dt_or (dt_val (de_op od_eq (de_cb cd_len (da_cons (de_var 2) da_nil)) de_int)) (dt_or (dt_not (dt_tru (de_call (da_cons (de_var 0) (da_cons (de_opA oa_ix (de_var 2) de_int) da_nil))))) (dt_not (dt_tru (de_call (da_cons (de_var 0) (da_cons (de_opA oa_ix (de_var 2) de_int) da_nil)))))))) (ds_ret de_bl) ds_next)
      (ds_if (dt_val (de_op od_B0 (de_opA oa_ix (de_var 2) de_int) (de_opA oa_ix (de_var 2) de_int))) (ds_ret de_bl) ds_next)) (by decide))
      (ds_seq (ds_par 3 4 (da_cons (de_lc (di_seq (de_var 1)) (dg_name 2) dt_yes (de_solid (de_opA oa_ix (de_var 2) de_int)) (by decide)) (da_cons (de_lc (di_seq (de_var 1)) (dg_name 2) dt_yes (de_solid (de_opA oa_ix (de_var 2) de_int)) (by decide)) da_nil)))
      (ds_ret (de_andV (de_op od_eq (de_var 3) (de_cb cd_sorted (da_cons (de_var 3) da_nil))) (de_andV (de_call (da_cons (de_var 3) da_nil)) (de_call (da_cons (de_var 4) da_nil))))))))) h (fun S ds R hs => pl_is_span_lot ds R hs)
def spec_plain_row : List D → (D → Prop) → Prop := fun ds R => ∃ (n : Nat) (p : Nat × Nat), ds = [.int ((n : Nat) : Int), prD p] ∧ n ≤ 1000 ∧ R (rowD (mkRow n [p.1, p.2]))
theorem len_plain_row : ∀ ds R, spec_plain_row ds R → ds.length = 2 := by
  rintro ds R ⟨n, p, rfl, _⟩
  rfl
def m_plain_row : DMS :=
  (sRet (dCall fTuple (dCons (dComp (dRng1 (dCons (dVar 0) dNil)) (dgName 2) dYes (dCall fInt (dCons (dBin (fIn false) (dVar 2) (dVar 1)) dNil)) [2]) dNil)))
theorem pl_plain_row : ∀ ds R, spec_plain_row ds R → m_plain_row (startE ["n", "span", "place"] ds) (retE R) := by
  rintro ds R ⟨n, p, rfl, hn, h⟩
  unfold m_plain_row
  rw [show prD p = .tuple ([p.1, p.2].map natD) from rfl]
  walk_at "h"
  rw [Int.toNat_natCast, rangeD_nats]
  refine ⟨⟨by omega, by omega⟩, by rw [List.length_map, List.length_range]; omega, compD_map (fun q => .int (bI ([p.1, p.2].contains q))) (fun q hq k k0 hk => ?_) ?_⟩
  · walk_at "h"
    refine fIn_natsT (x := q) (L := [p.1, p.2]) ?_
    have e : ([p.1, p.2].contains q) = (q == p.1 || q == p.2) := by rw [List.contains_cons, List.contains_cons, List.contains_nil, Bool.or_false]
    rw [e] at hk
    walk_at "h"
    exact hk
  · rw [mkRow_data]
    exact ⟨solids_ints _, h⟩
theorem at_plain_row (T : Tx K mg) : FnAt P w K mg base "plain_row" 1 2 (spD K spec_plain_row) := by
  obtain ⟨f, fd, hm, F⟩ := T.f_plain_row
  refine fnAt_of hm F rfl (F.binds (ps := ["n", "span"]) fun _ _ _ _ _ _ us hl => match us, hl with | [_, _], _ => rfl) (fnG_of F sc_plain_row (spD_len len_plain_row) fun cdv A outer s H vs Q E hr hg h => ?_)
  exact body_of (m := fun _ => m_plain_row) ["n", "span", "place"]
    ((pss_one (ps_ret (pe_callTy call_tupF (by rfl) T.b_tuple (by decide +kernel) (pa_cons (pe_lc (own := [("place", 2)]) rfl sc_plain_row.nd (pi_range1 (by rfl) T.b_range (pa_cons (pv 0) pa_nil)) (blkOk_by (N := ["n", "span", "place"]) (sc := defScope s_plain_row) (by decide +kernel)) (fun _ _ _ _ _ => (pg_name (i := 2) sc_plain_row.nd rfl (by first | exact Or.inl rfl | exact Or.inr rfl))) (fun _ _ _ _ _ => pts_nil) (fun _ _ _ _ _ => (pe_callTy call_int1 (by rfl) T.b_int (by decide +kernel) (pa_cons (pe_cmpR (op_inZ hr.units) (pv 2) (pv 1) (by with_unfolding_all rfl)) pa_nil)))) pa_nil)))))
    (fun S => (ds_ret (de_cb cd_tuple (da_cons (de_lc (di_rng1 (da_cons (de_var 0) da_nil)) (dg_name 2) dt_yes (de_cb cd_int (da_cons (de_op od_in (de_var 2) (de_var 1)) da_nil)) (by decide)) da_nil)))) h (fun S ds R hs => pl_plain_row ds R hs)
def spec_plain_code : List D → (D → Prop) → Prop := fun ds R => ∃ (n : Nat) (L : List (Nat × Nat)), ds = [.int ((n + 1 : Nat) : Int), .tuple (L.map prD)] ∧ n ≤ 100 ∧ L.length ≤ 1000 ∧ ∀ S, Rref (n + 1) (L.map fun p => mkRow (n + 1) [p.1, p.2]) S → R (.tuple [.int ((n + 1 : Nat) : Int), .tuple (rowsD S)])
theorem len_plain_code : ∀ ds R, spec_plain_code ds R → ds.length = 2 := by
  rintro ds R ⟨n, L, rfl, _⟩
  rfl
def m_plain_code : DMS :=
  (sRet (dCall spec_told_code (dCons (dTup (dCons (dVar 0) (dCons (dCall fTuple (dCons (dComp (dItems (dVar 1)) (dgName 2) dYes (dCall spec_plain_row (dCons (dVar 0) (dCons (dVar 2) dNil))) [2]) dNil)) dNil))) dNil)))
theorem pl_plain_code : ∀ ds R, spec_plain_code ds R → m_plain_code (startE ["n", "lot", "span"] ds) (retE R) := by
  rintro ds R ⟨n, L, rfl, hn, hl, h⟩
  unfold m_plain_code
  walk_at "h"
  refine ⟨by rw [List.length_map]; omega, compD_map (enc := prD) (ys := L) (fun p => rowD (mkRow (n + 1) [p.1, p.2])) (fun p hp k k0 hk => ?_) ?_⟩
  · walk_at "h"
    exact ⟨n + 1, p, rfl, by omega, hk⟩
  · have e : (L.map fun p => rowD (mkRow (n + 1) [p.1, p.2])) = rowsD (L.map fun p => mkRow (n + 1) [p.1, p.2]) := by
      unfold rowsD
      rw [List.map_map]
      rfl
    rw [e]
    refine ⟨solids_rowsD _, n, _, rfl, fun r hr => ?_, by omega, by rw [List.length_map]; omega, h⟩
    obtain ⟨p, _, rfl⟩ := List.mem_map.mp hr
    exact mkRow_len _ _
theorem at_plain_code (T : Tx K mg) : FnAt P w K mg base "plain_code" 4 2 (spD K spec_plain_code) := by
  obtain ⟨f, fd, hm, F⟩ := T.f_plain_code
  refine fnAt_of hm F rfl (F.binds (ps := ["n", "lot"]) fun _ _ _ _ _ _ us hl => match us, hl with | [_, _], _ => rfl) (fnG_of F sc_plain_code (spD_len len_plain_code) fun cdv A outer s H vs Q E hr hg h => ?_)
  exact body_of (m := fun _ => m_plain_code) ["n", "lot", "span"]
    ((pss_one (ps_ret (pe_callG (at_told_code T) (hr.mono (by decide)) hg (by rfl) (pa_cons (pe_tupF (pa_cons (pv 0) (pa_cons (pe_callTy call_tupF (by rfl) T.b_tuple (by decide +kernel) (pa_cons (pe_lc (own := [("span", 2)]) rfl sc_plain_code.nd (pi_seq (pv 1)) (blkOk_by (N := ["n", "lot", "span"]) (sc := defScope s_plain_code) (by decide +kernel)) (fun _ _ _ _ _ => (pg_name (i := 2) sc_plain_code.nd rfl (by first | exact Or.inl rfl | exact Or.inr rfl))) (fun _ _ _ _ _ => pts_nil) (fun _ _ _ _ _ => (pe_callG (at_plain_row T) (hr.mono (by decide)) hg (by rfl) (pa_cons (pv 0) (pa_cons (pv 2) pa_nil))))) pa_nil)) pa_nil))) pa_nil)))))
    (fun S => (ds_ret (de_call (da_cons (de_tup (da_cons (de_var 0) (da_cons (de_cb cd_tuple (da_cons (de_lc (di_seq (de_var 1)) (dg_name 2) dt_yes (de_call (da_cons (de_var 0) (da_cons (de_var 2) da_nil))) (by decide)) da_nil)) da_nil))) da_nil)))) h (fun S ds R hs => pl_plain_code ds R hs)
def spec_free_places : List D → (D → Prop) → Prop := fun ds R => ∃ (n : Nat) (L : List (Nat × Nat)) (p : Nat × Nat), ds = [.tuple (L.map prD), prD p] ∧ L.length ≤ 1000 ∧ n ≤ 1000 ∧ PrOk n p ∧ R (.list ((freeP L p).map natD))
theorem len_free_places : ∀ ds R, spec_free_places ds R → ds.length = 2 := by
  rintro ds R ⟨n, L, p, rfl, _⟩
  rfl
def m_free_places : DMS :=
  (sSeq (sAsg 2 (dComp (dItems (dVar 0)) (dgName 3) (dTru (dCall spec_lies_within (dCons (dVar 3) (dCons (dVar 1) dNil)))) (dSolid (dBin fIx (dVar 3) (dC (.int 0)))) [3]))
  (sRet (dComp (dRng2 (dCons (dBin fAdd (dBin fIx (dVar 1) (dC (.int 0))) (dC (.int 1))) (dCons (dBin fIx (dVar 1) (dC (.int 1))) dNil))) (dgName 4) (dTest (dBin (fIn true) (dVar 4) (dVar 2))) (dSolid (dVar 4)) [4])))
theorem pl_free_places : ∀ ds R, spec_free_places ds R → m_free_places (startE ["lot", "span", "firsts", "other", "place"] ds) (retE R) := by
  rintro ds R ⟨n, L, p, rfl, hl, hn, hp, h⟩
  unfold m_free_places
  walk_at "h"
  refine ⟨by rw [List.length_map]; omega, compD_filter (fun q => natD q.1) (fun q => withinP q p) (fun q hq k k0 h1 h0 => ?_) ?_⟩
  · walk_at "h"
    refine ⟨q, p, rfl, ?_⟩
    walk_at "h"
    cases c : withinP q p
    · walk_at "h"
      exact h0 c
    · unfold prD
      walk_at "h"
      exact h1 c
  · have e : ((L.filter fun q => withinP q p).map fun q => natD q.1) = ((L.filter fun q => withinP q p).map Prod.fst).map natD := by
      rw [List.map_map]
      rfl
    rw [e]
    obtain ⟨p1, p2⟩ := hp
    have er : rangeD (((p.1 : Nat) : Int) + 1) (((p.2 : Nat) : Int) - (((p.1 : Nat) : Int) + 1)).toNat 1 = ((List.range (p.2 - (p.1 + 1))).map fun k => p.1 + 1 + k).map natD := by
      unfold rangeD
      rw [List.map_map, show (((p.2 : Nat) : Int) - (((p.1 : Nat) : Int) + 1)).toNat = p.2 - (p.1 + 1) by omega]
      refine List.map_congr_left fun k _ => ?_
      show (.int _ : D) = .int _
      congr 1
      push_cast
      omega
    have ep : prD p = .tuple [.int ((p.1 : Nat) : Int), .int ((p.2 : Nat) : Int)] := rfl
    rw [ep]
    walk_at "s"
    rw [er]
    refine ⟨⟨by omega, by omega, by omega, by omega⟩, by rw [List.length_map, List.length_map, List.length_range]; omega, compD_filter natD (fun k => !((L.filter fun q => withinP q p).map Prod.fst).contains k) (fun k hk q q0 h1 h0 => ?_) ?_⟩
    · walk_at "h"
      refine fIn_natsL ?_
      simp only [if_true]
      cases c : !((L.filter fun q => withinP q p).map Prod.fst).contains k
      · exact h0 c
      · exact h1 c
    · exact h
theorem at_free_places (T : Tx K mg) : FnAt P w K mg base "free_places" 2 2 (spD K spec_free_places) := by
  obtain ⟨f, fd, hm, F⟩ := T.f_free_places
  refine fnAt_of hm F rfl (F.binds (ps := ["lot", "span"]) fun _ _ _ _ _ _ us hl => match us, hl with | [_, _], _ => rfl) (fnG_of F sc_free_places (spD_len len_free_places) fun cdv A outer s H vs Q E hr hg h => ?_)
  exact body_of (m := fun _ => m_free_places) ["lot", "span", "firsts", "other", "place"]
    ((pss_cons (ps_set (i := 2) sc_free_places.nd rfl (by first | exact Or.inl rfl | exact Or.inr rfl) (pe_lc (own := [("other", 3)]) rfl sc_free_places.nd (pi_seq (pv 0)) (blkOk_by (N := ["lot", "span", "firsts", "other", "place"]) (sc := defScope s_free_places) (by decide +kernel)) (fun _ _ _ _ _ => (pg_name (i := 3) sc_free_places.nd rfl (by first | exact Or.inl rfl | exact Or.inr rfl))) (fun _ _ _ _ _ => (pts_one (pt_truth (pe_callG (at_lies_within T) (hr.mono (by decide)) hg (by rfl) (pa_cons (pv 3) (pa_cons (pv 1) pa_nil))) (fun _ => rfl)))) (fun _ _ _ _ _ => (pe_ix ix_seq (pv 3) pe_int (fun _ _ => rfl)))))
      (pss_one (ps_ret (pe_lc (own := [("place", 4)]) rfl sc_free_places.nd (pi_range2 (by rfl) T.b_range (pa_cons (pe_op op_addZ (pe_ix ix_seq (pv 1) pe_int (fun _ _ => rfl)) pe_int) (pa_cons (pe_ix ix_seq (pv 1) pe_int (fun _ _ => rfl)) pa_nil))) (blkOk_by (N := ["lot", "span", "firsts", "other", "place"]) (sc := defScope s_free_places) (by decide +kernel)) (fun _ _ _ _ _ => (pg_name (i := 4) sc_free_places.nd rfl (by first | exact Or.inl rfl | exact Or.inr rfl))) (fun _ _ _ _ _ => (pts_one (pt_cmpR (op_notInZ hr.units) (pv 4) (pv 2) (by with_unfolding_all rfl)))) (fun _ _ _ _ _ => (pv 4)))))))
    (fun S => (ds_seq (ds_asg 2 (de_lc (di_seq (de_var 0)) (dg_name 3) (dt_tru (de_call (da_cons (de_var 3) (da_cons (de_var 1) da_nil)))) (de_solid (de_opA oa_ix (de_var 3) de_int)) (by decide)))
      (ds_ret (de_lc (di_rng2 (da_cons (de_op od_add (de_opA oa_ix (de_var 1) de_int) de_int) (da_cons (de_opA oa_ix (de_var 1) de_int) da_nil))) (dg_name 4) (dt_val (de_op od_in (de_var 4) (de_var 2))) (de_solid (de_var 4)) (by decide))))) h (fun S ds R hs => pl_free_places ds R hs)
/-- how many marks are free -/
def freeN (L : List (Nat × Nat)) : Int := (L.map fun p => (((freeP L p).length : Nat) : Int)).sum
def spec_free_number : List D → (D → Prop) → Prop := fun ds R => ∃ (n : Nat) (d : D) (L : List (Nat × Nat)), ds = [d, .tuple (L.map prD)] ∧ L.length ≤ 1000 ∧ n ≤ 1000 ∧ (∀ p ∈ L, PrOk n p) ∧ R (.int (freeN L))
theorem len_free_number : ∀ ds R, spec_free_number ds R → ds.length = 2 := by
  rintro ds R ⟨n, d, L, rfl, _⟩
  rfl
def m_free_number : DMS :=
  (sRet (dCall fSumA (dCons (dComp (dItems (dVar 1)) (dgName 2) dYes (dCall fLen (dCons (dCall spec_free_places (dCons (dVar 1) (dCons (dVar 2) dNil))) dNil)) [2]) dNil)))
theorem pl_free_number : ∀ ds R, spec_free_number ds R → m_free_number (startE ["n", "lot", "span"] ds) (retE R) := by
  rintro ds R ⟨n, d, L, rfl, hl, hn, ok, h⟩
  unfold m_free_number
  walk_at "h"
  refine ⟨by rw [List.length_map]; omega, compD_map (fun p => .int (((freeP L p).length : Nat) : Int)) (fun p hp k k0 hk => ?_) ?_⟩
  · walk_at "h"
    refine ⟨n, L, p, rfl, hl, hn, ok p hp, ?_⟩
    walk_at "h"
    rw [List.length_map]
    exact hk
  · have e : (L.map fun p => (.int (((freeP L p).length : Nat) : Int) : D)) = (L.map fun p => (((freeP L p).length : Nat) : Int)).map .int := by
      rw [List.map_map]
      rfl
    rw [e]
    exact ⟨_, rfl, h⟩
theorem at_free_number (T : Tx K mg) : FnAt P w K mg base "free_number" 3 2 (spD K spec_free_number) := by
  obtain ⟨f, fd, hm, F⟩ := T.f_free_number
  refine fnAt_of hm F rfl (F.binds (ps := ["n", "lot"]) fun _ _ _ _ _ _ us hl => match us, hl with | [_, _], _ => rfl) (fnG_of F sc_free_number (spD_len len_free_number) fun cdv A outer s H vs Q E hr hg h => ?_)
  exact body_of (m := fun _ => m_free_number) ["n", "lot", "span"]
    ((pss_one (ps_ret (pe_callB (cr_sumA rfl) (by rfl) T.b_sum (by decide +kernel) (pa_cons (pe_lc (own := [("span", 2)]) rfl sc_free_number.nd (pi_seq (pv 1)) (blkOk_by (N := ["n", "lot", "span"]) (sc := defScope s_free_number) (by decide +kernel)) (fun _ _ _ _ _ => (pg_name (i := 2) sc_free_number.nd rfl (by first | exact Or.inl rfl | exact Or.inr rfl))) (fun _ _ _ _ _ => pts_nil) (fun _ _ _ _ _ => (pe_callB call_len (by rfl) T.b_len PySem.boot_len (pa_cons (pe_callG (at_free_places T) (hr.mono (by decide)) hg (by rfl) (pa_cons (pv 1) (pa_cons (pv 2) pa_nil))) pa_nil)))) pa_nil)))))
    (fun S => (ds_ret (de_cb cd_sumA (da_cons (de_lc (di_seq (de_var 1)) (dg_name 2) dt_yes (de_cb cd_len (da_cons (de_call (da_cons (de_var 1) (da_cons (de_var 2) da_nil))) da_nil)) (by decide)) da_nil)))) h (fun S ds R hs => pl_free_number ds R hs)
theorem at__law_source (T : Tx K mg) : FnAt P w K mg base "_law_source" 1 1 (spSource K) := by
  obtain ⟨f, fd, hm, F⟩ := T.f__law_source
  refine fnAt_of hm F rfl (F.binds (ps := ["script"]) fun _ _ _ _ _ _ us hl => match us, hl with | [_], _ => rfl) (fnG_of F sc__law_source (fun vs H Q E h => by obtain ⟨a, ns, rfl, _⟩ := h; rfl) fun cdv A outer s H vs Q E hr hg h => ⟨tSource K, ?_, source_reading h⟩)
  exact (pss_cons (ps_set (i := 1) sc__law_source.nd rfl (.inl rfl) pe_int) (pss_cons (ps_for PassesOwn.never rfl (pi_list (pv 0)) (pg_name (i := 2) sc__law_source.nd rfl (.inl rfl))
    (pss_one (ps_set (i := 1) sc__law_source.nd rfl (.inl rfl) (pe_op op_mod (pe_callTy call_int1 (by rfl) T.b_int (by decide +kernel) (pa_cons (pe_op op_add (pe_op op_add (pe_op op_mul (pv 1) pe_int) (pe_op op_mul (pv 2) pe_int)) pe_int) pa_nil)) pe_int))))
    (pss_one (ps_ret (pe_disp (pps_cons pe_str (pe_revL (pe_lc (own := [("cell", 2)]) rfl sc__law_source.nd (pi_list (pv 0)) (blkOk_by (N := ["script", "mixed", "cell"]) (sc := defScope s__law_source) (by decide +kernel)) (fun _ _ _ _ _ => pg_name (i := 2) sc__law_source.nd rfl (.inl rfl)) (fun _ _ _ _ _ => pts_nil)
      (fun _ _ _ _ _ => pe_callB call_abs (by rfl) T.b_abs (by decide +kernel) (pa_cons (pv 2) pa_nil))))
      (pps_cons pe_str pe_int (pps_cons pe_str (pv 1) (pps_cons pe_str pe_int pps_nil)))) (by rfl) (by rfl) (fun z => by cases z) (by decide))))))
theorem at__law_pick (T : Tx K mg) : FnAt P w K mg base "_law_pick" 1 2 (spD K specPick) := by
  obtain ⟨f, fd, hm, F⟩ := T.f__law_pick
  refine fnAt_of hm F rfl (F.binds (ps := ["source", "many"]) fun _ _ _ _ _ _ us hl => match us, hl with | [_, _], _ => rfl) (fnG_of F sc__law_pick (spD_len fun ds R h => by obtain ⟨n, rfl, _⟩ := h; rfl) fun cdv A outer s H vs Q E hr hg h => ⟨tPick K, ?_, pick_reading h⟩)
  have hu := hu_of hr
  exact (pss_cons (ps_while PassesOwn.never (PW.pt (pw_and (pt_cmpR op_gt (pv 1) pe_int (nomark _)) (pw_and (pt_cmpR op_lt (pe_dget hu (pv 0) pe_str (fun _ _ => rfl)) pe_int (nomark _))
      (pw_and1 (pt_cmpR op_gt (pe_callB call_len (by rfl) T.b_len PySem.boot_len (pa_cons (pe_dget hu (pv 0) pe_str (fun _ _ => rfl)) pa_nil)) pe_int (nomark _))))))
      (pss_one (ps_dput hu (pv 0) pe_str (pe_bm0 PySem.F.plainAttrs_list PySem.F.slot_list_pop PySem.F.type_list_pop mt_pop (pe_dget hu (pv 0) pe_str (fun _ _ => rfl))) rfl)))
    (pss_cons (ps_set (i := 2) sc__law_pick.nd rfl (.inl rfl) (pe_dget hu (pv 0) pe_str (fun _ _ => rfl)))
    (pss_cons (ps_if (PW.pt (pw_or (pt_cmpR op_lt (pv 1) pe_int (nomark _)) (pw_or1 (pt_cmpR op_gt (pv 2) pe_int (nomark _)))))
      (pss_cons (ps_dput hu (pv 0) pe_str (pe_op op_fdiv (pv 2) (pe_callB (call_max2 rfl) (by rfl) T.b_max (by decide +kernel) (pa_cons pe_int (pa_cons (pv 1) pa_nil)))) rfl)
        (pss_one (ps_ret (pe_op op_mod (pe_callTy call_int1 (by rfl) T.b_int (by decide +kernel) (pa_cons (pv 2) pa_nil)) (pe_callB (call_max2 rfl) (by rfl) T.b_max (by decide +kernel) (pa_cons pe_int (pa_cons (pv 1) pa_nil)))))))
      pss_nil)
    (pss_cons (ps_dput hu (pv 0) pe_str (pe_op op_add (pe_dget hu (pv 0) pe_str (fun _ _ => rfl)) pe_int) rfl)
    (pss_cons (ps_set (i := 3) sc__law_pick.nd rfl (.inl rfl) (pe_op op_mod (pe_callTy call_int1 (by rfl) T.b_int (by decide +kernel) (pa_cons (pe_op op_add (pe_dget hu (pv 0) pe_str (fun _ _ => rfl)) (pe_op op_mul (pe_dget hu (pv 0) pe_str (fun _ _ => rfl)) pe_int)) pa_nil)) pe_int))
    (pss_cons (ps_set (i := 3) sc__law_pick.nd rfl (.inl rfl) (pe_op op_mod (pe_callTy call_int1 (by rfl) T.b_int (by decide +kernel) (pa_cons (pe_op op_add (pe_op op_mul (pv 3) (pv 3)) (pe_op op_mul (pe_dget hu (pv 0) pe_str (fun _ _ => rfl)) pe_int)) pa_nil)) pe_int))
    (pss_cons (ps_dput hu (pv 0) pe_str (pv 3) rfl)
    (pss_one (ps_ret (pe_op op_mod (pe_callTy call_int1 (by rfl) T.b_int (by decide +kernel) (pa_cons (pe_op op_fdiv (pv 3) pe_int) pa_nil)) (pv 1)))))))))))
abbrev spec__law_pick := specPick
def spec__law_of : List D → (D → Prop) → Prop := fun ds R => ∃ xs : List D, (ds = [srcD, .list xs] ∨ ds = [srcD, .tuple xs]) ∧ solids xs = true ∧ xs ≠ [] ∧ xs.length ≤ 1000000 ∧ ∀ x ∈ xs, R x
theorem len__law_of : ∀ ds R, spec__law_of ds R → ds.length = 2 := by
  rintro ds R ⟨xs, rfl | rfl, _⟩ <;> rfl
def m__law_of : DMS :=
  (sRet (dSolid (dBin fIx (dVar 1) (dCall spec__law_pick (dCons (dVar 0) (dCons (dCall fLen (dCons (dVar 1) dNil)) dNil))))))
theorem pl__law_of : ∀ ds R, spec__law_of ds R → m__law_of (startE ["source", "some"] ds) (retE R) := by
  rintro ds R ⟨xs, hds, hs, hne, hl, h⟩
  have pos : 0 < xs.length := List.length_pos_iff.mpr hne
  unfold m__law_of
  rcases hds with rfl | rfl <;> walk_at "z" <;> refine ⟨xs.length, rfl, by omega, fun k k0 k1 => ?_⟩
  all_goals
    walk_at "z"
    obtain ⟨x, hx, e⟩ := at_mem (xs := xs) k0 (by omega)
    exact ⟨x, e, solid_mem hs x hx, h x hx⟩
theorem at__law_of (T : Tx K mg) : FnAt P w K mg base "_law_of" 2 2 (spD K spec__law_of) := by
  obtain ⟨f, fd, hm, F⟩ := T.f__law_of
  refine fnAt_of hm F rfl (F.binds (ps := ["source", "some"]) fun _ _ _ _ _ _ us hl => match us, hl with | [_, _], _ => rfl) (fnG_of F sc__law_of (spD_len len__law_of) fun cdv A outer s H vs Q E hr hg h => ?_)
  exact body_of (m := fun _ => m__law_of) ["source", "some"]
    ((pss_one (ps_ret (pe_ix ix_seq (pv 1) (pe_callG (at__law_pick T) (hr.mono (by decide)) hg (by rfl) (pa_cons (pv 0) (pa_cons (pe_callB call_len (by rfl) T.b_len PySem.boot_len (pa_cons (pv 1) pa_nil)) pa_nil))) (fun _ _ => rfl)))))
    (fun S => (ds_ret (de_solid (de_opA oa_ix (de_var 1) (de_call (da_cons (de_var 0) (da_cons (de_cb cd_len (da_cons (de_var 1) da_nil)) da_nil))))))) h (fun S ds R hs => pl__law_of ds R hs)
theorem at__law_mixed (T : Tx K mg) : FnAt P w K mg base "_law_mixed" 2 2 (spD K specMixed) := by
  obtain ⟨f, fd, hm, F⟩ := T.f__law_mixed
  refine fnAt_of hm F rfl (F.binds (ps := ["source", "things"]) fun _ _ _ _ _ _ us hl => match us, hl with | [_, _], _ => rfl) (fnG_of F sc__law_mixed (spD_len fun ds R h => by obtain ⟨xs, rfl | rfl, _⟩ := h <;> rfl) fun cdv A outer s H vs Q E hr hg h => ⟨tMixed K E0, ?_, mixed_reading h⟩)
  exact (pss_cons (ps_set (i := 2) sc__law_mixed.nd rfl (by first | exact Or.inl rfl | exact Or.inr rfl) (pe_callTy call_list_of (by rfl) T.b_list (by decide +kernel) (pa_cons (pv 1) pa_nil)))
    (pss_one (ps_ret (pe_lc (own := [("lap", 3)]) rfl sc__law_mixed.nd (pi_range1 (by rfl) T.b_range (pa_cons (pe_callB call_len (by rfl) T.b_len PySem.boot_len (pa_cons (pv 2) pa_nil)) pa_nil))
      (blkOk_by (N := ["source", "things", "rest", "lap"]) (sc := defScope s__law_mixed) (by decide +kernel)) (fun _ _ _ _ _ => (pg_name (i := 3) sc__law_mixed.nd rfl (by first | exact Or.inl rfl | exact Or.inr rfl))) (fun _ _ _ _ _ => pts_nil)
      (fun _ _ _ _ _ => pe_bm PySem.F.plainAttrs_list PySem.F.slot_list_pop PySem.F.type_list_pop mt_popAt (pv 2) (pa_cons (pe_callG (at__law_pick T) (hr.mono (by decide)) hg (by rfl) (pa_cons (pv 0) (pa_cons (pe_callB call_len (by rfl) T.b_len PySem.boot_len (pa_cons (pv 2) pa_nil)) pa_nil))) pa_nil))))))
abbrev spec__law_mixed := specMixed
def spec__law_sum : List D → (D → Prop) → Prop := fun ds R => ∃ a b : List Bool, ds = [rowD a, rowD b] ∧ a.length = b.length ∧ a.length ≤ 100000 ∧ R (rowD (xr a b))
theorem len__law_sum : ∀ ds R, spec__law_sum ds R → ds.length = 2 := by
  rintro ds R ⟨a, b, rfl, _⟩
  rfl
def m__law_sum : DMS :=
  (sRet (dCall fTuple (dCons (dComp (dZip (dCons (dVar 0) (dCons (dVar 1) dNil))) (dgTup 2 (dgCons (dgName 2) (dgCons (dgName 3) dgNil))) dYes (dCall fInt (dCons (dBin (fEq true) (dVar 2) (dVar 3)) dNil)) [2, 3]) dNil)))
theorem pl__law_sum : ∀ ds R, spec__law_sum ds R → m__law_sum (startE ["one", "other", "a", "b"] ds) (retE R) := by
  rintro ds R ⟨a, b, rfl, hl, hn, h⟩
  unfold m__law_sum
  walk_at "z"
  rw [row_ints, row_ints, zipD_map]
  refine ⟨by rw [List.length_map, List.length_zip]; omega, compD_map (fun p => .int (bI (p.1 ^^ p.2))) (fun p hp k k0 hk => ?_) ⟨solids_of fun p _ => solid_int _, ?_⟩⟩
  · obtain ⟨x, y⟩ := p
    walk_at "z"
    refine fEq_bI ?_
    walk_at "z"
    have e : (!(x == y)) = (x ^^ y) := by cases x <;> cases y <;> rfl
    rw [e]
    exact hk
  · rw [xr_zip]
    exact h
theorem at__law_sum (T : Tx K mg) : FnAt P w K mg base "_law_sum" 1 2 (spD K spec__law_sum) := by
  obtain ⟨f, fd, hm, F⟩ := T.f__law_sum
  refine fnAt_of hm F rfl (F.binds (ps := ["one", "other"]) fun _ _ _ _ _ _ us hl => match us, hl with | [_, _], _ => rfl) (fnG_of F sc__law_sum (spD_len len__law_sum) fun cdv A outer s H vs Q E hr hg h => ?_)
  exact body_of (m := fun _ => m__law_sum) ["one", "other", "a", "b"]
    ((pss_one (ps_ret (pe_callTy call_tupF (by rfl) T.b_tuple (by decide +kernel) (pa_cons (pe_lc (own := [("a", 2), ("b", 3)]) rfl sc__law_sum.nd (RZ.pi_zipA (by rfl) T.b_zip (pa_cons (pv 0) (pa_cons (pv 1) pa_nil))) (blkOk_by (N := ["one", "other", "a", "b"]) (sc := defScope s__law_sum) (by decide +kernel)) (fun _ _ _ _ _ => (pg_tup rfl (pgs_cons (pg_name (i := 2) sc__law_sum.nd rfl (by first | exact Or.inl rfl | exact Or.inr rfl)) (pgs_cons (pg_name (i := 3) sc__law_sum.nd rfl (by first | exact Or.inl rfl | exact Or.inr rfl)) pgs_nil)))) (fun _ _ _ _ _ => pts_nil) (fun _ _ _ _ _ => (pe_callTy call_int1 (by rfl) T.b_int (by decide +kernel) (pa_cons (pe_cmpR (op_neZ hr.units) (pv 2) (pv 3) (nomark _)) pa_nil)))) pa_nil)))))
    (fun S => (ds_ret (de_cb cd_tuple (da_cons (de_lc (di_zip (da_cons (de_var 0) (da_cons (de_var 1) da_nil))) (dg_tup (dgs_cons (dg_name 2) (dgs_cons (dg_name 3) dgs_nil))) dt_yes (de_cb cd_int (da_cons (de_op od_eq (de_var 2) (de_var 3)) da_nil)) (by decide)) da_nil)))) h (fun S ds R hs => pl__law_sum ds R hs)
def spec__law_odd : List D → (D → Prop) → Prop := fun ds R => ds = [srcD] ∧ ∀ d, solid d = true → inner3 d → R d
theorem len__law_odd : ∀ ds R, spec__law_odd ds R → ds.length = 1 := by
  rintro ds R ⟨rfl, _⟩
  rfl
def m__law_odd : DMS :=
  (sRet (dCall spec__law_of (dCons (dVar 0) (dCons (dLst (dCons (dC .none) (dCons (dC (.bool true)) (dCons (dUn (f1I fun i => .int (-i)) (dC (.int 1))) (dCons (dC (.int 0)) (dCons (dC (.int 2)) (dCons (dC (.str "0")) (dCons (dTup dNil) (dCons (dFrz (dLst dNil)) (dCons (dC (frdD [])) (dCons (dTup (dCons (dC (.int 0)) dNil)) (dCons (dTup (dCons (dC (.int 1)) dNil)) (dCons (dTup (dCons (dTup (dCons (dC (.int 0)) dNil)) dNil)) (dCons (dTup (dCons (dTup (dCons (dC (.int 1)) dNil)) dNil)) (dCons (dBin (f2IC CPow fun i j => .int (i ^ j.toNat)) (dC (.int 10)) (dC (.int 30))) (dCons (dC (.str "base")) (dCons (dTup (dCons (dC (.int 0)) (dCons (dC (.int 0)) dNil))) dNil))))))))))))))))) dNil))))
theorem odd_neg : (dUn (f1I fun i => .int (-i)) (dC (.int 1)) : DM) = dC (.int (-1)) := rfl
theorem odd_t0 : (dTup dNil : DM) = dC (.tuple []) := by
  funext ρ R
  exact propext ⟨fun h => h.2, fun h => ⟨Nat.zero_le _, h⟩⟩
theorem odd_t1 (a : D) : (dTup (dCons (dC a) dNil) : DM) = dC (.tuple [a]) := by
  funext ρ R
  exact propext ⟨fun h => h.2, fun h => ⟨of_decide_eq_true rfl, h⟩⟩
theorem odd_t2 (a b : D) : (dTup (dCons (dC a) (dCons (dC b) dNil)) : DM) = dC (.tuple [a, b]) := by
  funext ρ R
  exact propext ⟨fun h => h.2, fun h => ⟨of_decide_eq_true rfl, h⟩⟩
theorem odd_pow : (dBin (f2IC CPow fun i j => .int (i ^ j.toNat)) (dC (.int 10)) (dC (.int 30)) : DM) = dC (.int (10 ^ 30)) := by
  funext ρ R
  exact propext ⟨fun h => h.2, fun h => ⟨⟨by decide, by decide, by decide⟩, h⟩⟩
theorem odd_frz : (dFrz (dLst dNil) : DM) = dC (frzD []) := by
  funext ρ R
  exact propext ⟨fun h => h.2.2, fun h => ⟨Nat.zero_le _, by simp [solids], h⟩⟩
/-- things that are told -/
def dsC : List D → DMs
  | [] => dNil
  | d :: ds => dCons (dC d) (dsC ds)
theorem dsC_run : ∀ (ds : List D) (ρ : En) (R : List D → Prop), dsC ds ρ R ↔ R ds
  | [], ρ, R => Iff.rfl
  | d :: ds, ρ, R => dsC_run ds ρ fun xs => R (d :: xs)
theorem lst_dsC {ds : List D} (h : ds.length ≤ 10000000) : dLst (dsC ds) = dC (.list ds) := by
  funext ρ R
  exact propext ⟨fun k => ((dsC_run ds ρ _).mp k).2, fun k => (dsC_run ds ρ _).mpr ⟨h, k⟩⟩
/-- a short tuple of such parts -/
theorem inner3_tup {xs : List D} (hl : xs.length ≤ 1000) (h : ∀ x ∈ xs, noFrz x ∧ solid x = true ∧ ∀ ys, x = .tuple ys → ys.length ≤ 10000000 ∧ ∀ y ∈ ys, noFrz y) : inner3 (.tuple xs) :=
  ⟨trivial, fun ys e => by cases e; exact ⟨hl, h⟩⟩
theorem part_int (i : Int) : noFrz (.int i) ∧ solid (.int i) = true ∧ ∀ ys, (.int i : D) = .tuple ys → ys.length ≤ 10000000 ∧ ∀ y ∈ ys, noFrz y := ⟨trivial, solid_int i, fun ys e => by cases e⟩
theorem part_one (i : Int) : noFrz (.tuple [.int i]) ∧ solid (.tuple [.int i]) = true ∧ ∀ ys, (.tuple [.int i] : D) = .tuple ys → ys.length ≤ 10000000 ∧ ∀ y ∈ ys, noFrz y := ⟨trivial, by rw [solid_tup]; simp [solids, solid_int], fun ys e => by
  cases e
  exact ⟨by simp, fun y hy => by rw [List.mem_singleton.mp hy]; exact trivial⟩⟩
def oddsK : List D := [.none, .bool true, .int (-1), .int 0, .int 2, .str "0", .tuple [], frzD [], frdD [], .tuple [.int 0], .tuple [.int 1], .tuple [.tuple [.int 0]], .tuple [.tuple [.int 1]], .int (10 ^ 30), .str "base", .tuple [.int 0, .int 0]]
theorem oddsK_ok : ∀ x ∈ oddsK, solid x = true ∧ inner3 x := fun x hx => by
  unfold oddsK at hx
  simp only [List.mem_cons, List.not_mem_nil, or_false] at hx
  have plain : ∀ d, solid d = true → noFrz d → (∀ xs, d ≠ .tuple xs) → solid d = true ∧ inner3 d := fun d so nf nt => ⟨so, nf, fun xs e => absurd e (nt xs)⟩
  rcases hx with rfl | rfl | rfl | rfl | rfl | rfl | rfl | rfl | rfl | rfl | rfl | rfl | rfl | rfl | rfl | rfl
  · exact plain _ rfl trivial fun xs e => by cases e
  · exact plain _ rfl trivial fun xs e => by cases e
  · exact plain _ (solid_int _) trivial fun xs e => by cases e
  · exact plain _ (solid_int _) trivial fun xs e => by cases e
  · exact plain _ (solid_int _) trivial fun xs e => by cases e
  · exact plain _ rfl trivial fun xs e => by cases e
  · exact ⟨by simp [solid, solids], inner3_tup (by simp) fun x hx => by cases hx⟩
  · exact plain _ (by rw [solid_frz]) (.inl rfl) fun xs e => by cases e
  · exact plain _ (by rw [solid_frd]) (.inr rfl) fun xs e => by cases e
  · exact ⟨(part_one _).2.1, inner3_tup (by simp) fun x hx => by rw [List.mem_singleton.mp hx]; exact part_int _⟩
  · exact ⟨(part_one _).2.1, inner3_tup (by simp) fun x hx => by rw [List.mem_singleton.mp hx]; exact part_int _⟩
  · exact ⟨by simp [solid, solids], inner3_tup (by simp) fun x hx => by rw [List.mem_singleton.mp hx]; exact part_one _⟩
  · exact ⟨by simp [solid, solids], inner3_tup (by simp) fun x hx => by rw [List.mem_singleton.mp hx]; exact part_one _⟩
  · exact plain _ (solid_int _) trivial fun xs e => by cases e
  · exact plain _ rfl trivial fun xs e => by cases e
  · refine ⟨by simp [solid, solids], inner3_tup (by simp) fun x hx => ?_⟩
    simp only [List.mem_cons, List.not_mem_nil, or_false, or_self] at hx
    rw [hx]
    exact part_int _
theorem pl__law_odd : ∀ ds R, spec__law_odd ds R → m__law_odd (startE ["source"] ds) (retE R) := by
  rintro ds R ⟨rfl, h⟩
  unfold m__law_odd
  simp only [odd_neg, odd_t0, odd_t1, odd_t2, odd_pow, odd_frz]
  have os : ∀ {S : D → Prop}, (∀ x ∈ oddsK, S x) → spec__law_of [srcD, .list oddsK] S := fun {S} hS => ⟨oddsK, .inl rfl, solids_iff.mpr fun x hx => (oddsK_ok x hx).1, by decide, by decide, hS⟩
  have e : ∀ m : DM, m = dLst (dsC oddsK) → sRet (dCall spec__law_of (dCons (dVar 0) (dCons m dNil))) (startE ["source"] [srcD]) (retE R) := by
    intro m em
    rw [em, lst_dsC (by decide)]
    walk_at "h"
    exact os fun x hx => h x (oddsK_ok x hx).1 (oddsK_ok x hx).2
  exact e _ rfl
theorem at__law_odd (T : Tx K mg) : FnAt P w K mg base "_law_odd" 3 1 (spD K spec__law_odd) := by
  obtain ⟨f, fd, hm, F⟩ := T.f__law_odd
  refine fnAt_of hm F rfl (F.binds (ps := ["source"]) fun _ _ _ _ _ _ us hl => match us, hl with | [_], _ => rfl) (fnG_of F sc__law_odd (spD_len len__law_odd) fun cdv A outer s H vs Q E hr hg h => ?_)
  exact body_of (m := fun _ => m__law_odd) ["source"]
    ((pss_one (ps_ret (pe_callG (at__law_of T) (hr.mono (by decide)) hg (by rfl) (pa_cons (pv 0) (pa_cons (pe_lst (pa_cons pe_non (pa_cons pe_bl (pa_cons (pe_un un_neg pe_int) (pa_cons pe_int (pa_cons pe_int (pa_cons pe_str (pa_cons (pe_tupF pa_nil) (pa_cons (pe_frz (pe_lst pa_nil)) (pa_cons (pe_frd pe_dnewK) (pa_cons (pe_tupF (pa_cons pe_int pa_nil)) (pa_cons (pe_tupF (pa_cons pe_int pa_nil)) (pa_cons (pe_tupF (pa_cons (pe_tupF (pa_cons pe_int pa_nil)) pa_nil)) (pa_cons (pe_tupF (pa_cons (pe_tupF (pa_cons pe_int pa_nil)) pa_nil)) (pa_cons (pe_op op_pow pe_int pe_int) (pa_cons pe_str (pa_cons (pe_tupF (pa_cons pe_int (pa_cons pe_int pa_nil))) pa_nil))))))))))))))))) pa_nil))))))
    (fun S => (ds_ret (de_call (da_cons (de_var 0) (da_cons (de_lst (da_cons de_non (da_cons de_bl (da_cons (de_un ud_I de_int) (da_cons de_int (da_cons de_int (da_cons de_str (da_cons (de_tup da_nil) (da_cons (de_frz (de_lst da_nil)) (da_cons de_frdNew (da_cons (de_tup (da_cons de_int da_nil)) (da_cons (de_tup (da_cons de_int da_nil)) (da_cons (de_tup (da_cons (de_tup (da_cons de_int da_nil)) da_nil)) (da_cons (de_tup (da_cons (de_tup (da_cons de_int da_nil)) da_nil)) (da_cons (de_op od_IC de_int de_int) (da_cons de_str (da_cons (de_tup (da_cons de_int (da_cons de_int da_nil))) da_nil))))))))))))))))) da_nil))))) h (fun S ds R hs => pl__law_odd ds R hs)
def spec__law_is_int : List D → (D → Prop) → Prop := fun ds R => ∃ (n : Nat) (d : D), ds = [d, .int ((n : Nat) : Int)] ∧ noFrz d ∧ R (.bool (placeB n d))
theorem len__law_is_int : ∀ ds R, spec__law_is_int ds R → ds.length = 2 := by
  rintro ds R ⟨n, d, rfl, _⟩
  rfl
def m__law_is_int : DMS :=
  (sRet (dAndV (dIsi isInt (dVar 0)) (dAndV (dNotV (dIsi isBool (dVar 0))) (dChain (f2I fun i j => .bool (decide (i ≤ j))) (f2I fun i j => .bool (decide (i < j))) (dC (.int 0)) (dVar 0) (dVar 1)))))
theorem pl__law_is_int : ∀ ds R, spec__law_is_int ds R → m__law_is_int (startE ["value", "many"] ds) (retE R) := by
  rintro ds R ⟨n, d, rfl, nf, h⟩
  unfold m__law_is_int
  cases d with
  | dict kvs =>
    walk_at "h"
    exact ⟨nf, h⟩
  | int i =>
    have e : placeB n (.int i) = decide (0 ≤ i ∧ i < ((n : Nat) : Int)) := rfl
    rw [e] at h
    walk_at "h"
    by_cases c : 0 ≤ i
    · simp only [c, decide_true, true_and] at h ⊢
      walk_at "h"
      exact h
    · simp only [c, decide_false, false_and] at h ⊢
      walk_at "h"
      exact h
  | _ =>
    walk_at "h"
    exact h
theorem at__law_is_int (T : Tx K mg) : FnAt P w K mg base "_law_is_int" 1 2 (spD K spec__law_is_int) := by
  obtain ⟨f, fd, hm, F⟩ := T.f__law_is_int
  refine fnAt_of hm F rfl (F.binds (ps := ["value", "many"]) fun _ _ _ _ _ _ us hl => match us, hl with | [_, _], _ => rfl) (fnG_of F sc__law_is_int (spD_len len__law_is_int) fun cdv A outer s H vs Q E hr hg h => ?_)
  exact body_of (m := fun _ => m__law_is_int) ["value", "many"]
    ((pss_one (ps_ret (pe_and (pe_callB call_isi (by rfl) T.b_isinstance (by decide +kernel) (pa_cons (pv 0) (pa_cons (pe_bltn (v := .ty "int") (u := .type "int") (by rfl) T.b_int (by decide +kernel) rfl) pa_nil))) (pe_and (pe_not (pe_callB call_isi (by rfl) T.b_isinstance (by decide +kernel) (pa_cons (pv 0) (pa_cons (pe_bltn (v := .ty "bool") (u := .type "bool") (by rfl) T.b_bool (by decide +kernel) rfl) pa_nil)))) (pe_one (pe_chain op_le op_lt pe_int (pv 0) (pv 1))))))))
    (fun S => (ds_ret (de_andV (de_isi kit_isInt (de_var 0)) (de_andV (de_notV (de_isi kit_isBool (de_var 0))) (de_chain od_B0 od_B0 de_int (de_var 0) (de_var 1)))))) h (fun S ds R hs => pl__law_is_int ds R hs)
def spec__law_is_lot : List D → (D → Prop) → Prop := fun ds R => ∃ (n : Nat) (d : D), ds = [.int ((n : Nat) : Int), d] ∧ inner3 d ∧ ∀ b : Bool, (b = true ↔ LotIs n d) → R (.bool b)
theorem len__law_is_lot : ∀ ds R, spec__law_is_lot ds R → ds.length = 2 := by
  rintro ds R ⟨n, d, rfl, _⟩
  rfl
def m__law_is_lot : DMS :=
  (sSeq (sIf (dNot (dTru (dIsi isTuple (dVar 1)))) (sRet (dC (.bool false))) sNext)
  (sSeq (sFor (dItems (dVar 1)) (dgName 2) (sSeq (sIf (dOr (dNot (dTru (dIsi isTuple (dVar 2)))) (dOr (dTest (dBin (fEq true) (dCall fLen (dCons (dVar 2) dNil)) (dC (.int 2)))) (dOr (dNot (dTru (dCall spec__law_is_int (dCons (dBin fIx (dVar 2) (dC (.int 0))) (dCons (dVar 0) dNil))))) (dNot (dTru (dCall spec__law_is_int (dCons (dBin fIx (dVar 2) (dC (.int 1))) (dCons (dVar 0) dNil)))))))) (sRet (dC (.bool false))) sNext)
  (sIf (dTest (dBin (f2I fun i j => .bool (decide (j < i))) (dBin fIx (dVar 2) (dC (.int 0))) (dBin fIx (dVar 2) (dC (.int 1))))) (sRet (dC (.bool false))) sNext)) [2] [2])
  (sSeq (sIf (dOr (dTest (dBin (fEq true) (dCall fList (dCons (dVar 1) dNil)) (dCall (fSorted false) (dCons (dVar 1) dNil)))) (dTest (dBin (fEq true) (dLenSetI (dComp (dItems (dVar 1)) (dgTup 2 (dgCons (dgName 3) (dgCons (dgName 4) dgNil))) dYes (dSolid (dVar 3)) [3, 4])) (dCall fLen (dCons (dVar 1) dNil))))) (sRet (dC (.bool false))) sNext)
  (sRet (dBin (fEq false) (dLenSetI (dComp (dItems (dVar 1)) (dgTup 2 (dgCons (dgName 3) (dgCons (dgName 4) dgNil))) dYes (dSolid (dVar 4)) [3, 4])) (dCall fLen (dCons (dVar 1) dNil)))))))
theorem pl__law_is_lot : ∀ ds R, spec__law_is_lot ds R → m__law_is_lot (startE ["n", "value", "one", "x", "y"] ds) (retE R) := by
  rintro ds R ⟨n, d, rfl, ⟨nf, inn⟩, h⟩
  unfold m__law_is_lot
  cases d with
  | dict kvs =>
    walk_at "h"
    exact ⟨nf, h false (not_lot fun xs e => by cases e)⟩
  | tuple xs =>
    obtain ⟨lx, inn⟩ := inn xs rfl
    walk_at "h"
    walk_at "s"
    refine forD_findD (fun x => if pairB n x then none else some (.bool false)) (fun ρ => ∃ s2, ρ = [.val (.int ((n : Nat) : Int)), .val (.tuple xs), s2, .unk, .unk]) xs _ ⟨_, rfl⟩ ?_ ?_ ?_
    · rintro x hx ρ E ⟨s2, rfl⟩ hr hn
      obtain ⟨nx, so, inx⟩ := inn x hx
      have bad : pairB n x = false → E.rt (.bool false) := fun c => hr _ (by rw [c]; rfl)
      have fine : pairB n x = true → ∀ ρ', (∃ s2, hide [2] ρ' = [.val (.int ((n : Nat) : Int)), .val (.tuple xs), s2, .unk, .unk]) → E.nx ρ' := fun c ρ' => hn (by rw [c]; rfl) ρ'
      cases x with
      | dict kvs =>
        walk_at "h"
        exact ⟨nx, bad rfl⟩
      | tuple ys =>
        obtain ⟨ly, iny⟩ := inx ys rfl
        walk_at "h"
        refine fEq_int ?_
        simp only [if_true]
        by_cases l2 : ys.length = 2
        · have e : (((ys.length : Nat) : Int) == 2) = true := by rw [beq_iff_eq]; omega
          rw [e]
          obtain ⟨a, b, rfl⟩ : ∃ a b, ys = [a, b] := by
            match ys, l2 with
            | [a, b], _ => exact ⟨a, b, rfl⟩
          have na := iny a (by simp)
          have nb := iny b (by simp)
          walk_at "y"
          refine ⟨n, a, rfl, na, ?_⟩
          cases c1 : placeB n a
          · exact bad (pairB_fst c1)
          walk_at "y"
          refine ⟨n, b, rfl, nb, ?_⟩
          cases c2 : placeB n b
          · exact bad (pairB_snd c2)
          obtain ⟨i, hi, rfl⟩ := placeB_iff.mp c1
          obtain ⟨j, hj, rfl⟩ := placeB_iff.mp c2
          have pb := pairB_two (i := i) hj
          rw [pb] at bad fine
          have ej : decide (((j : Nat) : Int) < ((i : Nat) : Int)) = !decide (i ≤ j) := by
            rw [Bool.eq_iff_iff, decide_eq_true_iff, Bool.not_eq_true', decide_eq_false_iff_not]
            omega
          walk_at "y"
          rw [ej]
          cases c3 : decide (i ≤ j)
          · exact bad c3
          · exact fine c3 _ ⟨_, rfl⟩
        · have e : (((ys.length : Nat) : Int) == 2) = false := by
            rw [← Bool.not_eq_true, beq_iff_eq]
            omega
          rw [e]
          exact bad (pairB_len l2)
      | _ =>
        walk_at "h"
        exact bad rfl
    · intro d hd
      obtain ⟨x, hx, e⟩ := List.exists_of_findSome?_eq_some hd
      cases c : pairB n x
      · rw [c] at e
        cases e
        exact h false ⟨(fun z => by cases z), fun z => absurd z (lotIs_bad hx c)⟩
      · rw [c] at e
        cases e
    · rintro hd ρ ⟨s2, rfl⟩
      have all : ∀ x ∈ xs, pairB n x = true := fun x hx => by
        have := List.findSome?_eq_none_iff.mp hd x hx
        cases c : pairB n x
        · rw [c] at this
          cases this
        · rfl
      obtain ⟨L, rfl, ok⟩ := pairs_of all
      have iff := lotIs_pairs ok
      rw [List.length_map] at lx
      walk_at "h"
      walk_at "s"
      refine ⟨solids_prD _, solids_prD _, sortOk_pr (by omega), ?_⟩
      rw [sortD_pr]
      refine fEq_prs ?_
      simp only [if_true]
      have e1 : (L.map fun p => natD p.1) = ((L.map Prod.fst).map fun k => ((k : Nat) : Int)).map .int := by rw [List.map_map, List.map_map]; rfl
      have e2 : (L.map fun p => natD p.2) = ((L.map Prod.snd).map fun k => ((k : Nat) : Int)).map .int := by rw [List.map_map, List.map_map]; rfl
      have mn : ∀ A : List Nat, A.length = L.length → ((((metI (A.map fun k => ((k : Nat) : Int))).length : Nat) : Int) == ((L.length : Nat) : Int)) = decide A.Nodup := fun A hA => by
        have := metI_len (A.map fun k => ((k : Nat) : Int))
        rw [nodup_nats, List.length_map, hA] at this
        rw [Bool.eq_iff_iff, beq_iff_eq, decide_eq_true_iff, ← this]
        omega
      cases c1 : decide (L = upP L)
      · refine h false ⟨(fun z => by cases z), fun z => ?_⟩
        have y := iff.mp z
        exact absurd ((upP_same L).mpr ((asc_first y.2.1).mpr y.1)) (of_decide_eq_false c1)
      · have s1 := (upP_same L).mp (of_decide_eq_true c1)
        walk_at "h"
        refine ⟨by rw [List.length_map]; omega, compD_map (fun p => natD p.1) (fun p hp k k0 hk => ?_) ⟨_, by rw [e1], by rw [List.length_map, List.length_map]; omega, ?_⟩⟩
        · rw [show prD p = .tuple [.int ((p.1 : Nat) : Int), .int ((p.2 : Nat) : Int)] from rfl]
          walk_at "y"
          exact hk
        refine fEq_int ?_
        simp only [if_true, List.length_map]
        rw [mn _ (List.length_map ..)]
        cases c2 : decide (L.map Prod.fst).Nodup
        · refine h false ⟨(fun z => by cases z), fun z => ?_⟩
          exact absurd (iff.mp z).2.1 (of_decide_eq_false c2)
        · have n1 := of_decide_eq_true c2
          walk_at "h"
          walk_at "s"
          refine ⟨by rw [List.length_map]; omega, compD_map (fun p => natD p.2) (fun p hp k k0 hk => ?_) ⟨_, by rw [e2], by rw [List.length_map, List.length_map]; omega, ?_⟩⟩
          · rw [show prD p = .tuple [.int ((p.1 : Nat) : Int), .int ((p.2 : Nat) : Int)] from rfl]
            walk_at "y"
            exact hk
          refine fEq_int ?_
          simp only [Bool.false_eq_true, if_false, List.length_map]
          rw [mn _ (List.length_map ..)]
          refine h _ ?_
          rw [decide_eq_true_iff, iff]
          exact ⟨fun z => ⟨(asc_first n1).mp s1, n1, z⟩, fun z => z.2.2⟩
  | _ =>
    walk_at "h"
    exact h false (not_lot fun xs e => by cases e)
theorem at__law_is_lot (T : Tx K mg) : FnAt P w K mg base "_law_is_lot" 2 2 (spD K spec__law_is_lot) := by
  obtain ⟨f, fd, hm, F⟩ := T.f__law_is_lot
  refine fnAt_of hm F rfl (F.binds (ps := ["n", "value"]) fun _ _ _ _ _ _ us hl => match us, hl with | [_, _], _ => rfl) (fnG_of F sc__law_is_lot (spD_len len__law_is_lot) fun cdv A outer s H vs Q E hr hg h => ?_)
  exact body_of (m := fun _ => m__law_is_lot) ["n", "value", "one", "x", "y"]
    ((pss_cons (ps_if (pt_not (pt_truth (pe_callB call_isi (by rfl) T.b_isinstance (by decide +kernel) (pa_cons (pv 1) (pa_cons (pe_bltn (v := .ty "tuple") (u := .type "tuple") (by rfl) T.b_tuple (by decide +kernel) rfl) pa_nil))) (fun _ => rfl))) (pss_one (ps_ret pe_bl)) pss_nil)
      (pss_cons (ps_for PassesOwn.never rfl (pi_seq (pv 1)) (pg_name (i := 2) sc__law_is_lot.nd rfl (by first | exact Or.inl rfl | exact Or.inr rfl)) (pss_cons (ps_if (PW.pt (pw_or (pt_not (pt_truth (pe_callB call_isi (by rfl) T.b_isinstance (by decide +kernel) (pa_cons (pv 2) (pa_cons (pe_bltn (v := .ty "tuple") (u := .type "tuple") (by rfl) T.b_tuple (by decide +kernel) rfl) pa_nil))) (fun _ => rfl))) (pw_or (pt_cmpR (op_neZ hr.units) (pe_callB call_len (by rfl) T.b_len PySem.boot_len (pa_cons (pv 2) pa_nil)) pe_int (nomark _)) (pw_or (pt_not (pt_truth (pe_callG (at__law_is_int T) (hr.mono (by decide)) hg (by rfl) (pa_cons (pe_ix ix_seq (pv 2) pe_int (fun _ _ => rfl)) (pa_cons (pv 0) pa_nil))) (fun _ => rfl))) (pw_or1 (pt_not (pt_truth (pe_callG (at__law_is_int T) (hr.mono (by decide)) hg (by rfl) (pa_cons (pe_ix ix_seq (pv 2) pe_int (fun _ _ => rfl)) (pa_cons (pv 0) pa_nil))) (fun _ => rfl)))))))) (pss_one (ps_ret pe_bl)) pss_nil)
      (pss_one (ps_if (pt_cmpR op_gt (pe_ix ix_seq (pv 2) pe_int (fun _ _ => rfl)) (pe_ix ix_seq (pv 2) pe_int (fun _ _ => rfl)) (nomark _)) (pss_one (ps_ret pe_bl)) pss_nil))))
      (pss_cons (ps_if (PW.pt (pw_or (pt_cmpR (op_neZ hr.units) (pe_callTy call_list_of (by rfl) T.b_list (by decide +kernel) (pa_cons (pv 1) pa_nil)) (pe_callB (cr_sortZ hr.units) (by rfl) T.b_sorted (by decide +kernel) (pa_cons (pv 1) pa_nil)) (nomark _)) (pw_or1 (pt_cmpR (op_neZ hr.units) (pe_lenSI (by rfl) T.b_len (by rfl) T.b_set (pe_lc (own := [("x", 3), ("y", 4)]) rfl sc__law_is_lot.nd (pi_seq (pv 1)) (blkOk_by (N := ["n", "value", "one", "x", "y"]) (sc := defScope s__law_is_lot) (by decide +kernel)) (fun _ _ _ _ _ => (pg_tup rfl (pgs_cons (pg_name (i := 3) sc__law_is_lot.nd rfl (by first | exact Or.inl rfl | exact Or.inr rfl)) (pgs_cons (pg_name (i := 4) sc__law_is_lot.nd rfl (by first | exact Or.inl rfl | exact Or.inr rfl)) pgs_nil)))) (fun _ _ _ _ _ => pts_nil) (fun _ _ _ _ _ => (pv 3)))) (pe_callB call_len (by rfl) T.b_len PySem.boot_len (pa_cons (pv 1) pa_nil)) (nomark _))))) (pss_one (ps_ret pe_bl)) pss_nil)
      (pss_one (ps_ret (pe_cmpR (op_eqZ hr.units) (pe_lenSI (by rfl) T.b_len (by rfl) T.b_set (pe_lc (own := [("x", 3), ("y", 4)]) rfl sc__law_is_lot.nd (pi_seq (pv 1)) (blkOk_by (N := ["n", "value", "one", "x", "y"]) (sc := defScope s__law_is_lot) (by decide +kernel)) (fun _ _ _ _ _ => (pg_tup rfl (pgs_cons (pg_name (i := 3) sc__law_is_lot.nd rfl (by first | exact Or.inl rfl | exact Or.inr rfl)) (pgs_cons (pg_name (i := 4) sc__law_is_lot.nd rfl (by first | exact Or.inl rfl | exact Or.inr rfl)) pgs_nil)))) (fun _ _ _ _ _ => pts_nil) (fun _ _ _ _ _ => (pv 4)))) (pe_callB call_len (by rfl) T.b_len PySem.boot_len (pa_cons (pv 1) pa_nil)) (nomark _))))))))
    (fun S => (ds_seq (ds_if (dt_not (dt_tru (de_isi kit_isTuple (de_var 1)))) (ds_ret de_bl) ds_next)
      (ds_seq (ds_for (Wg := [2]) (Wb := []) (F := [2]) (di_seq (de_var 1)) (dg_name 2) (ds_seq (ds_if (dt_or (dt_not (dt_tru (de_isi kit_isTuple (de_var 2)))) (dt_or (dt_val (de_op od_eq (de_cb cd_len (da_cons (de_var 2) da_nil)) de_int)) (dt_or (dt_not (dt_tru (de_call (da_cons (de_opA oa_ix (de_var 2) de_int) (da_cons (de_var 0) da_nil))))) (dt_not (dt_tru (de_call (da_cons (de_opA oa_ix (de_var 2) de_int) (da_cons (de_var 0) da_nil)))))))) (ds_ret de_bl) ds_next)
      (ds_if (dt_val (de_op od_B0 (de_opA oa_ix (de_var 2) de_int) (de_opA oa_ix (de_var 2) de_int))) (ds_ret de_bl) ds_next)) (by decide))
      (ds_seq (ds_if (dt_or (dt_val (de_op od_eq (de_cb cd_list (da_cons (de_var 1) da_nil)) (de_cb cd_sorted (da_cons (de_var 1) da_nil)))) (dt_val (de_op od_eq (de_lenSetI (de_lc (di_seq (de_var 1)) (dg_tup (dgs_cons (dg_name 3) (dgs_cons (dg_name 4) dgs_nil))) dt_yes (de_solid (de_var 3)) (by decide))) (de_cb cd_len (da_cons (de_var 1) da_nil))))) (ds_ret de_bl) ds_next)
      (ds_ret (de_op od_eq (de_lenSetI (de_lc (di_seq (de_var 1)) (dg_tup (dgs_cons (dg_name 3) (dgs_cons (dg_name 4) dgs_nil))) dt_yes (de_solid (de_var 4)) (by decide))) (de_cb cd_len (da_cons (de_var 1) da_nil)))))))) h (fun S ds R hs => pl__law_is_lot ds R hs)
/-- all pairs of places below n, the first one not greater -/
def pairsN (n : Nat) : List (Nat × Nat) := (List.range n).flatMap fun x => (List.range (n - x)).map fun k => (x, x + k)
theorem pairsN_ok {n : Nat} {p : Nat × Nat} (h : p ∈ pairsN n) : PrOk n p := by
  obtain ⟨x, hx, hp⟩ := List.mem_flatMap.mp h
  obtain ⟨k, hk, rfl⟩ := List.mem_map.mp hp
  have hx := List.mem_range.mp hx
  have hk := List.mem_range.mp hk
  exact ⟨by show x ≤ x + k; omega, by show x + k < n; omega⟩
theorem pairsN_len (n : Nat) : (pairsN n).length ≤ n * n := by
  have : ∀ m, m ≤ n → ((List.range m).flatMap fun x => (List.range (n - x)).map fun k => (x, x + k)).length ≤ m * n := fun m => by
    induction m with
    | zero => intro _; simp
    | succ m ih =>
      intro h
      have := ih (by omega)
      rw [List.range_succ, List.flatMap_append, List.length_append]
      simp only [List.flatMap_cons, List.flatMap_nil, List.append_nil, List.length_map, List.length_range]
      rw [Nat.succ_mul]
      omega
  exact this n (Nat.le_refl _)
theorem pairsN_zero {n : Nat} (h : 0 < n) : pairsN n ≠ [] := fun z => by
  have : (0, 0) ∈ pairsN n := List.mem_flatMap.mpr ⟨0, List.mem_range.mpr h, List.mem_map.mpr ⟨0, List.mem_range.mpr (by omega), rfl⟩⟩
  rw [z] at this
  cases this
def spec__law_pairs : List D → (D → Prop) → Prop := fun ds R => ∃ n : Nat, ds = [.int ((n : Nat) : Int)] ∧ n ≤ 100 ∧ R (.list ((pairsN n).map prD))
theorem len__law_pairs : ∀ ds R, spec__law_pairs ds R → ds.length = 1 := by
  rintro ds R ⟨n, rfl, _⟩
  rfl
def m__law_pairs : DMS :=
  (sSeq (sAsg 1 (dLst dNil))
  (sSeq (sFor (dRng1 (dCons (dVar 0) dNil)) (dgName 2) (sAsg 1 (dBin fAdd (dVar 1) (dComp (dRng2 (dCons (dVar 2) (dCons (dVar 0) dNil))) (dgName 3) dYes (dSolid (dTup (dCons (dVar 2) (dCons (dVar 3) dNil)))) [3]))) [2, 1] [2])
  (sRetV 1)))
theorem pl__law_pairs : ∀ ds R, spec__law_pairs ds R → m__law_pairs (startE ["n", "found", "x", "y"] ds) (retE R) := by
  rintro ds R ⟨n, rfl, hn, h⟩
  unfold m__law_pairs
  walk_at "h"
  walk_at "s"
  rw [Int.toNat_natCast, rangeD_nats]
  obtain ⟨F, hF⟩ : ∃ F : Nat → List (Nat × Nat), F = fun m => (List.range m).flatMap fun x => (List.range (n - x)).map fun k => (x, x + k) := ⟨_, rfl⟩
  have lF : ∀ m, m ≤ n → (F m).length ≤ m * 100 := fun m => by
    rw [hF]
    induction m with
    | zero => intro _; simp
    | succ m ih =>
      intro h
      have := ih (by omega)
      simp only [] at this ⊢
      rw [List.range_succ, List.flatMap_append, List.length_append]
      simp only [List.flatMap_cons, List.flatMap_nil, List.append_nil, List.length_map, List.length_range]
      omega
  refine ⟨⟨by omega, by omega⟩, forD_nx (fun i ρ => ρ = [.val (.int ((n : Nat) : Int)), .own (.list ((F i).map prD)), .unk, .unk]) _ 0 _ (by rw [hF]; rfl) ?_ ?_⟩
  · rintro i x ρ E hx rfl hN
    obtain ⟨hi, rfl⟩ : i < n ∧ natD i = x := by
      rw [List.getElem?_map] at hx
      by_cases c : i < n
      · rw [List.getElem?_range c] at hx
        exact ⟨c, by injection hx⟩
      · rw [List.getElem?_eq_none (by simpa using c)] at hx
        cases hx
    have l1 := lF i (by omega)
    rw [Nat.zero_add] at *
    have er : rangeD ((i : Nat) : Int) (((n : Nat) : Int) - ((i : Nat) : Int)).toNat 1 = (List.range (n - i)).map fun k => natD (i + k) := by
      unfold rangeD
      rw [show (((n : Nat) : Int) - ((i : Nat) : Int)).toNat = n - i by omega]
      refine List.map_congr_left fun k _ => ?_
      show (.int _ : D) = .int _
      congr 1
      push_cast
      omega
    walk_at "h"
    rw [er]
    refine ⟨⟨by omega, by omega, by omega, by omega⟩, by rw [List.length_map, List.length_range]; omega, compD_map (enc := fun k => natD (i + k)) (ys := List.range (n - i)) (fun k => prD (i, i + k)) (fun k hk q q0 hq => ?_) ?_⟩
    · walk_at "h"
      exact hq
    · have eF : (F i).map prD ++ (List.range (n - i)).map (fun k => prD (i, i + k)) = (F (i + 1)).map prD := by
        rw [hF]
        simp only []
        rw [List.range_succ, List.flatMap_append, List.map_append]
        simp only [List.flatMap_cons, List.flatMap_nil, List.append_nil, List.map_map]
        rfl
      rw [eF]
      refine ⟨solids_prD _, solids_of fun k _ => solid_prD _, by rw [List.length_map, List.length_map, List.length_range]; omega, hN _ rfl⟩
  · rintro ρ rfl
    walk_at "h"
    rw [Z.later_cons]
    rw [List.length_map, List.length_range]
    have e : F n = pairsN n := by rw [hF]; rfl
    rw [e]
    exact h
theorem at__law_pairs (T : Tx K mg) : FnAt P w K mg base "_law_pairs" 1 1 (spD K spec__law_pairs) := by
  obtain ⟨f, fd, hm, F⟩ := T.f__law_pairs
  refine fnAt_of hm F rfl (F.binds (ps := ["n"]) fun _ _ _ _ _ _ us hl => match us, hl with | [_], _ => rfl) (fnG_of F sc__law_pairs (spD_len len__law_pairs) fun cdv A outer s H vs Q E hr hg h => ?_)
  exact body_of (m := fun _ => m__law_pairs) ["n", "found", "x", "y"]
    ((pss_cons (ps_set (i := 1) sc__law_pairs.nd rfl (by first | exact Or.inl rfl | exact Or.inr rfl) (pe_lst pa_nil))
      (pss_cons (ps_for PassesOwn.never rfl (pi_range1 (by rfl) T.b_range (pa_cons (pv 0) pa_nil)) (pg_name (i := 2) sc__law_pairs.nd rfl (by first | exact Or.inl rfl | exact Or.inr rfl)) (pss_one (ps_set (i := 1) sc__law_pairs.nd rfl (by first | exact Or.inl rfl | exact Or.inr rfl) (pe_op op_addZ (pv 1) (pe_lc (own := [("y", 3)]) rfl sc__law_pairs.nd (pi_range2 (by rfl) T.b_range (pa_cons (pv 2) (pa_cons (pv 0) pa_nil))) (blkOk_by (N := ["n", "found", "x", "y"]) (sc := defScope s__law_pairs) (by decide +kernel)) (fun _ _ _ _ _ => (pg_name (i := 3) sc__law_pairs.nd rfl (by first | exact Or.inl rfl | exact Or.inr rfl))) (fun _ _ _ _ _ => pts_nil) (fun _ _ _ _ _ => (pe_tupF (pa_cons (pv 2) (pa_cons (pv 3) pa_nil)))))))))
      (pss_one (ps_ret (pv 1))))))
    (fun S => (ds_seq (ds_asg 1 (de_lst da_nil))
      (ds_seq (ds_for (Wg := [2]) (Wb := [1]) (F := [2]) (di_rng1 (da_cons (de_var 0) da_nil)) (dg_name 2) (ds_asg 1 (de_op od_add (de_var 1) (de_lc (di_rng2 (da_cons (de_var 2) (da_cons (de_var 0) da_nil))) (dg_name 3) dt_yes (de_solid (de_tup (da_cons (de_var 2) (da_cons (de_var 3) da_nil)))) (by decide)))) (by decide))
      (ds_retV 1)))) h (fun S ds R hs => pl__law_pairs ds R hs)
def spec__law_lot : List D → (D → Prop) → Prop := fun ds R => ∃ n : Nat, ds = [srcD, .int ((n : Nat) : Int)] ∧ 1 ≤ n ∧ n ≤ 100 ∧ ∀ L : List (Nat × Nat), LotN n L → R (.tuple (L.map prD))
theorem len__law_lot : ∀ ds R, spec__law_lot ds R → ds.length = 2 := by
  rintro ds R ⟨n, rfl, _⟩
  rfl
def m__law_lot : DMS :=
  (sSeq (sAsg 2 (dLst dNil))
  (sSeq (sFor (dItems (dSlice (dCall spec__law_mixed (dCons (dVar 0) (dCons (dCall spec__law_pairs (dCons (dVar 1) dNil)) dNil))) dNo (dPart (dCall spec__law_pick (dCons (dVar 0) (dCons (dBin fMul (dC (.int 3)) (dVar 1)) dNil)))))) (dgName 3) (sIf (dTest (dBin (fEq false) (dComp (dItems (dVar 2)) (dgTup 2 (dgCons (dgName 4) (dgCons (dgName 5) dgNil))) (dOr (dTest (dBin (fEq false) (dVar 4) (dBin fIx (dVar 3) (dC (.int 0))))) (dTest (dBin (fEq false) (dVar 5) (dBin fIx (dVar 3) (dC (.int 1)))))) (dC (.int 1)) [4, 5]) (dLst dNil))) (sAppend 2 (dSolid (dVar 3))) sNext) [3, 2] [3])
  (sRet (dCall fTuple (dCons (dCall (fSorted false) (dCons (dVar 2) dNil)) dNil)))))
theorem pl__law_lot : ∀ ds R, spec__law_lot ds R → m__law_lot (startE ["source", "n", "found", "pair", "x", "y"] ds) (retE R) := by
  rintro ds R ⟨n, rfl, h1, hn, h⟩
  unfold m__law_lot
  walk_at "h"
  walk_at "s"
  have lp := pairsN_len n
  have lp2 : n * n ≤ 100 * 100 := Nat.mul_le_mul hn hn
  refine ⟨n, rfl, hn, ?_⟩
  refine ⟨_, .inl rfl, solids_prD _, by rw [List.length_map]; omega, fun ys hy => ?_⟩
  obtain ⟨M, hM, rfl⟩ := perm_map hy rfl
  refine ⟨by unfold CMul; omega, 3 * n, rfl, by omega, fun k k0 k1 => ?_⟩
  obtain ⟨k, rfl⟩ : ∃ m : Nat, k = (m : Int) := ⟨k.toNat, by omega⟩
  refine ⟨solids_prD _, ?_⟩
  rw [cutL_take, ← List.map_take]
  have mok : ∀ p ∈ M.take k, PrOk n p := fun p hp => pairsN_ok (hM.mem_iff.mp (List.mem_of_mem_take hp))
  refine forD_fold prD (fun (T : List (Nat × Nat)) p => if (T.filter fun q => q.1 == p.1 || q.2 == p.2).isEmpty then T ++ [p] else T) (fun T ρ => Apart n T ∧ ρ = [.val srcD, .val (.int ((n : Nat) : Int)), .own (.list (T.map prD)), .unk, .unk, .unk]) (M.take k) [] _ ⟨⟨(fun p hp => by cases hp), List.nodup_nil, List.nodup_nil⟩, rfl⟩ ?_ ?_
  · rintro p hp T ρ Nx Bk ⟨ap, rfl⟩ hN
    have pk := mok p hp
    have lT := ap.len
    walk_at "h"
    refine ⟨by rw [List.length_map]; omega, compD_filter (fun _ => .int 1) (fun q => q.1 == p.1 || q.2 == p.2) (fun q hq c c0 h1 h0 => ?_) ?_⟩
    · rw [show prD q = .tuple [.int ((q.1 : Nat) : Int), .int ((q.2 : Nat) : Int)] from rfl]
      rw [show prD p = .tuple [.int ((p.1 : Nat) : Int), .int ((p.2 : Nat) : Int)] from rfl]
      have eq1 : ∀ a b : Nat, (((a : Nat) : Int) == ((b : Nat) : Int)) = (a == b) := fun a b => by
        rw [Bool.eq_iff_iff, beq_iff_eq, beq_iff_eq]
        omega
      walk_at "y"
      refine fEq_int ?_
      simp only [Bool.false_eq_true, if_false]
      rw [eq1]
      cases c1 : (q.1 == p.1)
      · rw [c1] at h1 h0
        walk_at "y"
        refine fEq_int ?_
        simp only [Bool.false_eq_true, if_false]
        rw [eq1]
        cases c2 : (q.2 == p.2)
        · exact h0 (by rw [c2]; rfl)
        · exact h1 (by rw [c2]; rfl)
      · rw [c1] at h1
        exact h1 rfl
    · refine fEq_ones_nil ?_
      simp only [Bool.false_eq_true, if_false]
      obtain ⟨b, hb⟩ : ∃ b, b = (T.filter fun q => q.1 == p.1 || q.2 == p.2).isEmpty := ⟨_, rfl⟩
      rw [← hb] at hN ⊢
      cases b
      · exact hN _ ⟨ap, rfl⟩
      · have no : ∀ q ∈ T, q.1 ≠ p.1 ∧ q.2 ≠ p.2 := fun q hq => by
          have e := List.isEmpty_iff.mp hb.symm
          have := List.filter_eq_nil_iff.mp e q hq
          simpa using this
        refine ⟨solid_prD p, by rw [List.length_map]; omega, hN _ ⟨show Apart n (T ++ [p]) from ⟨fun q hq => ?_, ?_, ?_⟩, ?_⟩⟩
        · rcases List.mem_append.mp hq with hq | hq
          · exact ap.ok q hq
          · rw [List.mem_singleton.mp hq]
            exact pk
        · rw [List.map_append]
          refine List.nodup_append.mpr ⟨ap.fst, List.pairwise_singleton _ _, fun a ha b hb2 => ?_⟩
          obtain ⟨q, hq, rfl⟩ := List.mem_map.mp ha
          rw [List.mem_singleton.mp hb2]
          exact (no q hq).1
        · rw [List.map_append]
          refine List.nodup_append.mpr ⟨ap.snd, List.pairwise_singleton _ _, fun a ha b hb2 => ?_⟩
          obtain ⟨q, hq, rfl⟩ := List.mem_map.mp ha
          rw [List.mem_singleton.mp hb2]
          exact (no q hq).2
        · rw [if_pos rfl, List.map_append]
          rfl
  · rintro ρ ⟨ap, rfl⟩
    walk_at "h"
    rw [Z.later_cons]
    obtain ⟨T, hT⟩ : ∃ T, T = List.foldl (fun (T : List (Nat × Nat)) p => if (T.filter fun q => q.1 == p.1 || q.2 == p.2).isEmpty then T ++ [p] else T) [] (M.take k) := ⟨_, rfl⟩
    rw [← hT] at ap ⊢
    have lT := ap.len
    walk_at "h"
    refine ⟨solids_prD _, sortOk_pr (by omega), ?_⟩
    rw [sortD_pr]
    have ap2 := ap.perm (upP_perm T)
    exact ⟨solids_prD _, h _ ⟨ap2, (lt_of_le ap2.fst).mp ((asc_first ap2.fst).mp (upP_asc T))⟩⟩
theorem at__law_lot (T : Tx K mg) : FnAt P w K mg base "_law_lot" 3 2 (spD K spec__law_lot) := by
  obtain ⟨f, fd, hm, F⟩ := T.f__law_lot
  refine fnAt_of hm F rfl (F.binds (ps := ["source", "n"]) fun _ _ _ _ _ _ us hl => match us, hl with | [_, _], _ => rfl) (fnG_of F sc__law_lot (spD_len len__law_lot) fun cdv A outer s H vs Q E hr hg h => ?_)
  exact body_of (m := fun _ => m__law_lot) ["source", "n", "found", "pair", "x", "y"]
    ((pss_cons (ps_set (i := 2) sc__law_lot.nd rfl (by first | exact Or.inl rfl | exact Or.inr rfl) (pe_lst pa_nil))
      (pss_cons (ps_for PassesOwn.never rfl (pi_seq (pe_slice sl_cut (pe_callG (at__law_mixed T) (hr.mono (by decide)) hg (by rfl) (pa_cons (pv 0) (pa_cons (pe_callG (at__law_pairs T) (hr.mono (by decide)) hg (by rfl) (pa_cons (pv 1) pa_nil)) pa_nil))) po_none (po_some (pe_callG (at__law_pick T) (hr.mono (by decide)) hg (by rfl) (pa_cons (pv 0) (pa_cons (pe_op op_mulZ pe_int (pv 1)) pa_nil)))))) (pg_name (i := 3) sc__law_lot.nd rfl (by first | exact Or.inl rfl | exact Or.inr rfl)) (pss_one (ps_if (pt_cmpR (op_eqZ hr.units) (pe_lc (own := [("x", 4), ("y", 5)]) rfl sc__law_lot.nd (pi_seq (pv 2)) (blkOk_by (N := ["source", "n", "found", "pair", "x", "y"]) (sc := defScope s__law_lot) (by decide +kernel)) (fun _ _ _ _ _ => (pg_tup rfl (pgs_cons (pg_name (i := 4) sc__law_lot.nd rfl (by first | exact Or.inl rfl | exact Or.inr rfl)) (pgs_cons (pg_name (i := 5) sc__law_lot.nd rfl (by first | exact Or.inl rfl | exact Or.inr rfl)) pgs_nil)))) (fun _ _ _ _ _ => (pts_one (PW.pt (pw_or (pt_cmpR (op_eqZ hr.units) (pv 4) (pe_ix ix_seq (pv 3) pe_int (fun _ _ => rfl)) (nomark _)) (pw_or1 (pt_cmpR (op_eqZ hr.units) (pv 5) (pe_ix ix_seq (pv 3) pe_int (fun _ _ => rfl)) (nomark _))))))) (fun _ _ _ _ _ => pe_int)) (pe_lst pa_nil) (nomark _)) (pss_one (ps_expr (pe_bm PySem.F.plainAttrs_list PySem.F.slot_list_append PySem.F.type_list_append mt_append (pv 2) (pa_cons (pv 3) pa_nil)))) pss_nil)))
      (pss_one (ps_ret (pe_callTy call_tupF (by rfl) T.b_tuple (by decide +kernel) (pa_cons (pe_callB (cr_sortZ hr.units) (by rfl) T.b_sorted (by decide +kernel) (pa_cons (pv 2) pa_nil)) pa_nil)))))))
    (fun S => (ds_seq (ds_asg 2 (de_lst da_nil))
      (ds_seq (ds_for (Wg := [3]) (Wb := [2]) (F := [3]) (di_seq (de_slice (de_call (da_cons (de_var 0) (da_cons (de_call (da_cons (de_var 1) da_nil)) da_nil))) do_no (do_part (de_call (da_cons (de_var 0) (da_cons (de_op od_mul de_int (de_var 1)) da_nil)))))) (dg_name 3) (ds_if (dt_val (de_op od_eq (de_lc (di_seq (de_var 2)) (dg_tup (dgs_cons (dg_name 4) (dgs_cons (dg_name 5) dgs_nil))) (dt_or (dt_val (de_op od_eq (de_var 4) (de_opA oa_ix (de_var 3) de_int))) (dt_val (de_op od_eq (de_var 5) (de_opA oa_ix (de_var 3) de_int)))) de_int (by decide)) (de_lst da_nil))) (ds_append 2 (de_solid (de_var 3))) ds_next) (by decide))
      (ds_ret (de_cb cd_tuple (da_cons (de_cb cd_sorted (da_cons (de_var 2) da_nil)) da_nil)))))) h (fun S ds R hs => pl__law_lot ds R hs)
def spec__law_free : List D → (D → Prop) → Prop := fun ds R => ∃ (n : Nat) (L : List (Nat × Nat)), ds = [.tuple (L.map prD)] ∧ n ≤ 1000 ∧ Apart n L ∧ R (.int (freeN L))
theorem len__law_free : ∀ ds R, spec__law_free ds R → ds.length = 1 := by
  rintro ds R ⟨n, L, rfl, _⟩
  rfl
def m__law_free : DMS :=
  (sRet (dCall fSumA (dCons (dComp (dItems (dVar 0)) (dgTup 2 (dgCons (dgName 1) (dgCons (dgName 2) dgNil))) (dTest (dBin (f2I fun i j => .bool (decide (j < i))) (dVar 2) (dVar 1))) (dBin (f2I fun i j => .int (i - j)) (dBin (f2I fun i j => .int (i - j)) (dBin (f2I fun i j => .int (i - j)) (dVar 2) (dVar 1)) (dC (.int 1))) (dCall fLen (dCons (dComp (dItems (dVar 0)) (dgTup 2 (dgCons (dgName 3) (dgCons (dgName 4) dgNil))) (dAnd (dTest (dBin (f2I fun i j => .bool (decide (i < j))) (dVar 1) (dVar 3))) (dTest (dBin (f2I fun i j => .bool (decide (i < j))) (dVar 4) (dVar 2)))) (dC (.int 1)) [3, 4]) dNil))) [1, 2]) dNil)))
theorem free_filt {n : Nat} {L : List (Nat × Nat)} (h : Apart n L) : ∀ M : List (Nat × Nat), (∀ p ∈ M, p ∈ L) → (M.map fun p => (((freeP L p).length : Nat) : Int)).sum = ((M.filter fun p => decide (p.1 < p.2)).map fun p => ((p.2 : Nat) : Int) - ((p.1 : Nat) : Int) - 1 - (((L.filter fun q => withinP q p).length : Nat) : Int)).sum
  | [], _ => rfl
  | p :: M, hs => by
    have ih := free_filt h M fun q hq => hs q (List.mem_cons_of_mem _ hq)
    obtain ⟨f1, f2⟩ := freeP_len h (hs p (List.mem_cons_self ..))
    rw [List.map_cons, List.sum_cons, ih]
    by_cases c : p.1 < p.2
    · rw [List.filter_cons_of_pos (by simpa using c), List.map_cons, List.sum_cons, f1 c]
    · rw [List.filter_cons_of_neg (by simpa using c), f2 c]
      simp
theorem pl__law_free : ∀ ds R, spec__law_free ds R → m__law_free (startE ["lot", "x", "y", "a", "b"] ds) (retE R) := by
  rintro ds R ⟨n, L, rfl, hn, ap, h⟩
  have ll := ap.len
  unfold m__law_free
  have ltn : ∀ a b : Nat, decide (((a : Nat) : Int) < ((b : Nat) : Int)) = decide (a < b) := fun a b => by
    rw [Bool.eq_iff_iff, decide_eq_true_iff, decide_eq_true_iff]
    omega
  walk_at "h"
  refine ⟨by rw [List.length_map]; omega, compD_filter (fun p => .int (((p.2 : Nat) : Int) - ((p.1 : Nat) : Int) - 1 - (((L.filter fun q => withinP q p).length : Nat) : Int))) (fun p => decide (p.1 < p.2)) (fun p hp k k0 h1 h0 => ?_) ?_⟩
  · rw [show prD p = .tuple [.int ((p.1 : Nat) : Int), .int ((p.2 : Nat) : Int)] from rfl]
    walk_at "h"
    rw [ltn]
    cases c : decide (p.1 < p.2)
    · exact h0 c
    · walk_at "h"
      refine ⟨by rw [List.length_map]; omega, compD_filter (fun _ => .int 1) (fun q => withinP q p) (fun q hq k2 k02 h12 h02 => ?_) ?_⟩
      · rw [show prD q = .tuple [.int ((q.1 : Nat) : Int), .int ((q.2 : Nat) : Int)] from rfl]
        walk_at "h"
        rw [ltn, ltn]
        unfold withinP at h12 h02
        cases c1 : decide (p.1 < q.1)
        · rw [c1] at h02
          exact h02 rfl
        · rw [c1] at h12 h02
          walk_at "h"
          cases c2 : decide (q.2 < p.2)
          · exact h02 c2
          · exact h12 c2
      · rw [List.length_map]
        exact h1 c
  · have e : ((L.filter fun p => decide (p.1 < p.2)).map fun p => (.int (((p.2 : Nat) : Int) - ((p.1 : Nat) : Int) - 1 - (((L.filter fun q => withinP q p).length : Nat) : Int)) : D)) = ((L.filter fun p => decide (p.1 < p.2)).map fun p => ((p.2 : Nat) : Int) - ((p.1 : Nat) : Int) - 1 - (((L.filter fun q => withinP q p).length : Nat) : Int)).map .int := by
      rw [List.map_map]
      rfl
    rw [e]
    refine ⟨_, rfl, ?_⟩
    rw [← free_filt ap L fun p hp => hp]
    exact h
theorem at__law_free (T : Tx K mg) : FnAt P w K mg base "_law_free" 1 1 (spD K spec__law_free) := by
  obtain ⟨f, fd, hm, F⟩ := T.f__law_free
  refine fnAt_of hm F rfl (F.binds (ps := ["lot"]) fun _ _ _ _ _ _ us hl => match us, hl with | [_], _ => rfl) (fnG_of F sc__law_free (spD_len len__law_free) fun cdv A outer s H vs Q E hr hg h => ?_)
  exact body_of (m := fun _ => m__law_free) ["lot", "x", "y", "a", "b"]
    ((pss_one (ps_ret (pe_callB (cr_sumA rfl) (by rfl) T.b_sum (by decide +kernel) (pa_cons (pe_lc (own := [("x", 1), ("y", 2)]) rfl sc__law_free.nd (pi_seq (pv 0)) (blkOk_by (N := ["lot", "x", "y", "a", "b"]) (sc := defScope s__law_free) (by decide +kernel)) (fun _ _ _ _ _ => (pg_tup rfl (pgs_cons (pg_name (i := 1) sc__law_free.nd rfl (by first | exact Or.inl rfl | exact Or.inr rfl)) (pgs_cons (pg_name (i := 2) sc__law_free.nd rfl (by first | exact Or.inl rfl | exact Or.inr rfl)) pgs_nil)))) (fun _ _ _ _ _ => (pts_one (pt_cmpR op_gt (pv 2) (pv 1) (nomark _)))) (fun _ _ _ _ _ => (pe_op op_sub (pe_op op_sub (pe_op op_sub (pv 2) (pv 1)) pe_int) (pe_callB call_len (by rfl) T.b_len PySem.boot_len (pa_cons (pe_lc (own := [("a", 3), ("b", 4)]) rfl sc__law_free.nd (pi_seq (pv 0)) (blkOk_by (by rfl)) (fun _ _ _ _ _ => (pg_tup rfl (pgs_cons (pg_name (i := 3) sc__law_free.nd rfl (by first | exact Or.inl rfl | exact Or.inr rfl)) (pgs_cons (pg_name (i := 4) sc__law_free.nd rfl (by first | exact Or.inl rfl | exact Or.inr rfl)) pgs_nil)))) (fun _ _ _ _ _ => (pts_one (PW.pt (pw_and (pt_cmpR op_lt (pv 1) (pv 3) (nomark _)) (pw_and1 (pt_cmpR op_lt (pv 4) (pv 2) (nomark _))))))) (fun _ _ _ _ _ => pe_int)) pa_nil))))) pa_nil)))))
    (fun S => (ds_ret (de_cb cd_sumA (da_cons (de_lc (di_seq (de_var 0)) (dg_tup (dgs_cons (dg_name 1) (dgs_cons (dg_name 2) dgs_nil))) (dt_val (de_op od_B0 (de_var 2) (de_var 1))) (de_op od_I0 (de_op od_I0 (de_op od_I0 (de_var 2) (de_var 1)) de_int) (de_cb cd_len (da_cons (de_lc (di_seq (de_var 0)) (dg_tup (dgs_cons (dg_name 3) (dgs_cons (dg_name 4) dgs_nil))) (dt_and (dt_val (de_op od_B0 (de_var 1) (de_var 3))) (dt_val (de_op od_B0 (de_var 4) (de_var 2)))) de_int (by decide)) da_nil))) (by decide)) da_nil)))) h (fun S ds R hs => pl__law_free ds R hs)
def spec__law_leads : List D → (D → Prop) → Prop := fun ds R => ∃ (n : Nat) (d : D) (B : List (List Bool)), ds = [d, .list (rowsD B)] ∧ Len n B ∧ n ≤ 1000 ∧ B.length ≤ 1000 ∧ ∀ S, Rref n B S → R (.tuple (rowsD S))
theorem len__law_leads : ∀ ds R, spec__law_leads ds R → ds.length = 2 := by
  rintro ds R ⟨n, d, B, rfl, _⟩
  rfl
def m__law_leads : DMS :=
  (sSeq (sAsg 2 (dLst dNil))
  (sSeq (sFor (dItems (dVar 1)) (dgName 3) (sSeq (sFor (dItems (dVar 2)) (dgTup 2 (dgCons (dgName 4) (dgCons (dgName 5) dgNil))) (sAsg 3 (dSolid (dIf (dTest (dBin (fEq false) (dBin fIx (dVar 3) (dVar 4)) (dC (.int 1)))) (dCall spec__law_sum (dCons (dVar 3) (dCons (dVar 5) dNil))) (dVar 3)))) [4, 5, 3] [])
  (sIf (dTest (dBin (fIn false) (dC (.int 1)) (dVar 3))) (sSeq (sAsg 4 (dIndex (dVar 3) (dCons (dC (.int 1)) dNil)))
  (sAsg 2 (dBin fAdd (dComp (dItems (dVar 2)) (dgTup 2 (dgCons (dgName 6) (dgCons (dgName 5) dgNil))) dYes (dSolid (dTup (dCons (dVar 6) (dCons (dIf (dTest (dBin (fEq false) (dBin fIx (dVar 5) (dVar 4)) (dC (.int 1)))) (dCall spec__law_sum (dCons (dVar 5) (dCons (dVar 3) dNil))) (dVar 5)) dNil)))) [6, 5]) (dLst (dCons (dTup (dCons (dVar 4) (dCons (dVar 3) dNil))) dNil))))) sNext)) [3, 4, 5, 3, 4, 2] [3])
  (sRet (dCall fTuple (dCons (dComp (dItems (dCall (fSorted false) (dCons (dVar 2) dNil))) (dgTup 2 (dgCons (dgName 4) (dgCons (dgName 5) dgNil))) dYes (dSolid (dVar 5)) [4, 5]) dNil)))))
theorem pl__law_leads : ∀ ds R, spec__law_leads ds R → m__law_leads (startE ["n", "rows", "found", "row", "head", "one", "at"] ds) (retE R) := by
  rintro ds R ⟨n, d, B, rfl, hL, hn, hB, h⟩
  unfold m__law_leads
  walk_at "h"
  walk_at "s"
  refine forD_fold rowD stepP (fun T ρ => ∃ s4 s5, ρ = [.val d, .val (.list (rowsD B)), .own (.list (T.map hrD)), .unk, s4, s5, .unk] ∧ Red n T) B [] _ ⟨_, _, rfl, red_nil⟩ ?_ ?_
  · rintro r hr T ρ Nx Bk ⟨t4, t5, rfl, red⟩ hN
    have lr := hL r hr
    have lT := red.count
    walk_at "h"
    refine forD_fold hrD (fun h b => if gt h (lead b) then xr h b else h) (fun k ρ => ∃ s3 s4 s5, ρ = [.val d, .val (.list (rowsD B)), .val (.list (T.map hrD)), s3, s4, s5, .unk] ∧ k.length = n ∧ (s3 = .val (rowD k) ∨ s3 = .own (rowD k))) T r _ ⟨_, _, _, rfl, lr, .inl rfl⟩ ?_ ?_
    · rintro b hb k ρ Nx1 Bk1 ⟨s3, s4, s5, rfl, lk, h3⟩ hN1
      have lb := red.len b hb
      have ll : lead b < k.length := by rw [lk, ← lb]; exact List.idxOf_lt_length_iff.mpr (red.ne b hb)
      rw [show hrD b = .tuple [.int ((lead b : Nat) : Int), rowD b] from rfl]
      have l2 : (if gt k (lead b) then xr k b else k).length = n := by
        split
        · rw [xr_len (by rw [lk, lb]), lk]
        · exact lk
      rcases h3 with rfl | rfl
      all_goals
        walk_at "h"
        refine ⟨_, atI_ok (at_rowD ll) rfl, fEq_one ?_⟩
        simp only [Bool.false_eq_true, if_false]
        cases g : gt k (lead b)
        · rw [g] at hN1 l2
          exact hN1 _ ⟨_, _, _, rfl, l2, .inr rfl⟩
        · rw [g] at hN1 l2
          exact ⟨k, b, rfl, by rw [lk, lb], by omega, solid_rowD _, hN1 _ ⟨_, _, _, rfl, l2, .inr rfl⟩⟩
    · rintro ρ ⟨s3, s4, s5, rfl, lk, h3⟩
      have ek : List.foldl (fun h b => if gt h (lead b) = true then xr h b else h) r T = red1 T r := rfl
      rw [ek] at lk h3
      have red2 := (step_red red lr).1
      obtain ⟨_, zk, _, _⟩ := red_row red (k := red1 T r) rfl lr
      obtain ⟨K, hK⟩ : ∃ K, K = red1 T r := ⟨_, rfl⟩
      rw [← hK] at lk h3 zk
      rcases h3 with rfl | rfl
      all_goals
        walk_at "h"
        walk_at "s"
        refine fIn_one ?_
        cases hc : K.contains true
        · have e : stepP T r = T := by unfold stepP; rw [← hK, hc]; rfl
          exact hN _ ⟨_, _, by rw [e]; rfl, red2⟩
        · have hm : true ∈ K := List.contains_iff_mem.mp hc
          refine ⟨1, rowI K, rfl, rfl, one_mem hm, ?_⟩
          rw [idx_one]
          walk_at "s"
          refine ⟨by rw [List.length_map]; omega, compD_map (fun b => hrD (if gt b (lead K) then xr b K else b)) (fun b hb q q0 hq => ?_) ?_⟩
          · have lb := red.len b hb
            have kk := lead_kept (red.ne b hb) hm (by rw [lb, lk]) (zk b hb)
            rw [show hrD b = .tuple [.int ((lead b : Nat) : Int), rowD b] from rfl]
            walk_at "h"
            refine ⟨_, atI_ok (at_rowD (by rw [lb, ← lk]; exact List.idxOf_lt_length_iff.mpr hm)) rfl, fEq_one ?_⟩
            simp only [Bool.false_eq_true, if_false]
            cases g : gt b (lead K)
            · rw [g] at hq
              walk_at "h"
              exact hq
            · rw [g] at hq kk
              unfold hrD at hq
              rw [kk] at hq
              walk_at "h"
              exact ⟨b, K, rfl, by rw [lk, lb], by omega, solid_rowD _, hq⟩
          · have e : (stepP T r).map hrD = (T.map fun b => hrD (if gt b (lead K) then xr b K else b)) ++ [hrD K] := by
              unfold stepP
              rw [← hK, hc, if_pos rfl, List.map_append, List.map_map]
              rfl
            exact ⟨solids_of fun b _ => solid_hrD _, by rw [List.length_map]; omega, hN _ ⟨_, _, by rw [e]; rfl, red2⟩⟩
  · rintro ρ ⟨t4, t5, rfl, red⟩
    have lT := red.count
    walk_at "h"
    rw [Z.later_cons]
    walk_at "h"
    have eT : List.foldl stepP [] B = toldP B := rfl
    rw [eT] at lT ⊢
    obtain ⟨S, eS, hS⟩ := sort_hr_rref hL
    have lS := hS.red.count
    refine ⟨solids_hrD _, sortOk_hr (by omega), ?_⟩
    rw [eS]
    refine ⟨by rw [List.length_map]; omega, compD_map (fun b => rowD b) (fun b hb k k0 hk => ?_) ⟨solids_of fun b _ => solid_rowD b, h S hS⟩⟩
    rw [show hrD b = .tuple [.int ((lead b : Nat) : Int), rowD b] from rfl]
    walk_at "h"
    exact hk
theorem at__law_leads (T : Tx K mg) : FnAt P w K mg base "_law_leads" 2 2 (spD K spec__law_leads) := by
  obtain ⟨f, fd, hm, F⟩ := T.f__law_leads
  refine fnAt_of hm F rfl (F.binds (ps := ["n", "rows"]) fun _ _ _ _ _ _ us hl => match us, hl with | [_, _], _ => rfl) (fnG_of F sc__law_leads (spD_len len__law_leads) fun cdv A outer s H vs Q E hr hg h => ?_)
  exact body_of (m := fun _ => m__law_leads) ["n", "rows", "found", "row", "head", "one", "at"]
    ((pss_cons (ps_set (i := 2) sc__law_leads.nd rfl (by first | exact Or.inl rfl | exact Or.inr rfl) (pe_lst pa_nil))
      (pss_cons (ps_for PassesOwn.never rfl (pi_seq (pv 1)) (pg_name (i := 3) sc__law_leads.nd rfl (by first | exact Or.inl rfl | exact Or.inr rfl)) (pss_cons (ps_for PassesOwn.never rfl (pi_seq (pv 2)) (pg_tup rfl (pgs_cons (pg_name (i := 4) sc__law_leads.nd rfl (by first | exact Or.inl rfl | exact Or.inr rfl)) (pgs_cons (pg_name (i := 5) sc__law_leads.nd rfl (by first | exact Or.inl rfl | exact Or.inr rfl)) pgs_nil))) (pss_one (ps_set (i := 3) sc__law_leads.nd rfl (by first | exact Or.inl rfl | exact Or.inr rfl) (pe_ifExp (pt_cmpR (op_eqZ hr.units) (pe_ix ix_seq (pv 3) (pv 4) (fun _ _ => rfl)) pe_int (nomark _)) (pe_callG (at__law_sum T) (hr.mono (by decide)) hg (by rfl) (pa_cons (pv 3) (pa_cons (pv 5) pa_nil))) (pv 3)))))
      (pss_one (ps_if (pt_cmpR (op_inZ hr.units) pe_int (pv 3) (by with_unfolding_all rfl)) (pss_cons (ps_set (i := 4) sc__law_leads.nd rfl (by first | exact Or.inl rfl | exact Or.inr rfl) (pe_indexZ (pv 3) (pa_cons pe_int pa_nil)))
      (pss_one (ps_set (i := 2) sc__law_leads.nd rfl (by first | exact Or.inl rfl | exact Or.inr rfl) (pe_op op_addZ (pe_lc (own := [("at", 6), ("one", 5)]) rfl sc__law_leads.nd (pi_seq (pv 2)) (blkOk_by (N := ["n", "rows", "found", "row", "head", "one", "at"]) (sc := defScope s__law_leads) (by decide +kernel)) (fun _ _ _ _ _ => (pg_tup rfl (pgs_cons (pg_name (i := 6) sc__law_leads.nd rfl (by first | exact Or.inl rfl | exact Or.inr rfl)) (pgs_cons (pg_name (i := 5) sc__law_leads.nd rfl (by first | exact Or.inl rfl | exact Or.inr rfl)) pgs_nil)))) (fun _ _ _ _ _ => pts_nil) (fun _ _ _ _ _ => (pe_tupF (pa_cons (pv 6) (pa_cons (pe_ifExp (pt_cmpR (op_eqZ hr.units) (pe_ix ix_seq (pv 5) (pv 4) (fun _ _ => rfl)) pe_int (nomark _)) (pe_callG (at__law_sum T) (hr.mono (by decide)) hg (by rfl) (pa_cons (pv 5) (pa_cons (pv 3) pa_nil))) (pv 5)) pa_nil))))) (pe_lst (pa_cons (pe_tupF (pa_cons (pv 4) (pa_cons (pv 3) pa_nil))) pa_nil)))))) pss_nil))))
      (pss_one (ps_ret (pe_callTy call_tupF (by rfl) T.b_tuple (by decide +kernel) (pa_cons (pe_lc (own := [("head", 4), ("one", 5)]) rfl sc__law_leads.nd (pi_seq (pe_callB (cr_sortZ hr.units) (by rfl) T.b_sorted (by decide +kernel) (pa_cons (pv 2) pa_nil))) (blkOk_by (N := ["n", "rows", "found", "row", "head", "one", "at"]) (sc := defScope s__law_leads) (by decide +kernel)) (fun _ _ _ _ _ => (pg_tup rfl (pgs_cons (pg_name (i := 4) sc__law_leads.nd rfl (by first | exact Or.inl rfl | exact Or.inr rfl)) (pgs_cons (pg_name (i := 5) sc__law_leads.nd rfl (by first | exact Or.inl rfl | exact Or.inr rfl)) pgs_nil)))) (fun _ _ _ _ _ => pts_nil) (fun _ _ _ _ _ => (pv 5))) pa_nil)))))))
    (fun S => (ds_seq (ds_asg 2 (de_lst da_nil))
      (ds_seq (ds_for (Wg := [3]) (Wb := [4, 5, 3, 4, 2]) (F := [3]) (di_seq (de_var 1)) (dg_name 3) (ds_seq (ds_for (Wg := [4, 5]) (Wb := [3]) (F := []) (di_seq (de_var 2)) (dg_tup (dgs_cons (dg_name 4) (dgs_cons (dg_name 5) dgs_nil))) (ds_asg 3 (de_solid (de_if (dt_val (de_op od_eq (de_opA oa_ix (de_var 3) (de_var 4)) de_int)) (de_call (da_cons (de_var 3) (da_cons (de_var 5) da_nil))) (de_var 3)))) (by decide))
      (ds_if (dt_val (de_op od_in de_int (de_var 3))) (ds_seq (ds_asg 4 (de_index (de_var 3) (da_cons de_int da_nil)))
      (ds_asg 2 (de_op od_add (de_lc (di_seq (de_var 2)) (dg_tup (dgs_cons (dg_name 6) (dgs_cons (dg_name 5) dgs_nil))) dt_yes (de_solid (de_tup (da_cons (de_var 6) (da_cons (de_if (dt_val (de_op od_eq (de_opA oa_ix (de_var 5) (de_var 4)) de_int)) (de_call (da_cons (de_var 5) (da_cons (de_var 3) da_nil))) (de_var 5)) da_nil)))) (by decide)) (de_lst (da_cons (de_tup (da_cons (de_var 4) (da_cons (de_var 3) da_nil))) da_nil))))) ds_next)) (by decide))
      (ds_ret (de_cb cd_tuple (da_cons (de_lc (di_seq (de_cb cd_sorted (da_cons (de_var 2) da_nil))) (dg_tup (dgs_cons (dg_name 4) (dgs_cons (dg_name 5) dgs_nil))) dt_yes (de_solid (de_var 5)) (by decide)) da_nil)))))) h (fun S ds R hs => pl__law_leads ds R hs)
def m_law : DMS :=
  (sSeq (sFor (dRng1 (dCons (dC (.int 5)) dNil)) (dgName 2) (sSeq (sAsg 3 (dBin fAdd (dC (.int 1)) (dCall spec__law_pick (dCons (dVar 1) (dCons (dC (.int 12)) dNil)))))
  (sSeq (sAsg 4 (dCall spec__law_lot (dCons (dVar 1) (dCons (dVar 3) dNil))))
  (sSeq (sAsg 5 (dComp (dItems (dVar 4)) (dgName 6) dYes (dCall fTuple (dCons (dComp (dRng1 (dCons (dVar 3) dNil)) (dgName 7) dYes (dCall fInt (dCons (dBin (fIn false) (dVar 7) (dVar 6)) dNil)) [7]) dNil)) [6]))
  (sSeq (sIf (dTest (dBin (fEq true) (dCall fReprU (dCons (dLst (dCons (dCall spec_plain_code (dCons (dVar 3) (dCons (dVar 4) dNil))) (dCons (dCall spec_free_number (dCons (dVar 3) (dCons (dVar 4) dNil))) dNil))) dNil)) (dCall fReprU (dCons (dLst (dCons (dTup (dCons (dVar 3) (dCons (dCall spec__law_leads (dCons (dVar 3) (dCons (dVar 5) dNil))) dNil))) (dCons (dCall spec__law_free (dCons (dVar 4) dNil)) dNil))) dNil)))) (sRet (dC (.bool false))) sNext)
  (sSeq (sAsg 7 (dCall spec__law_pick (dCons (dVar 1) (dCons (dBin fAdd (dCall fLen (dCons (dVar 4) dNil)) (dC (.int 1))) dNil))))
  (sSeq (sAsg 8 (dCall spec__law_of (dCons (dVar 1) (dCons (dLst (dCons (dTup (dCons (dC (.int 0)) (dCons (dVar 3) dNil))) (dCons (dTup (dCons (dC (.int 1)) (dCons (dC (.int 0)) dNil))) (dCons (dTup (dCons (dBin (f2I fun i j => .int (i - j)) (dVar 3) (dC (.int 1))) (dCons (dBin (f2I fun i j => .int (i - j)) (dVar 3) (dC (.int 1))) dNil))) (dCons (dTup (dCons (dC (.int 0)) (dCons (dC (.bool true)) dNil))) (dCons (dFrz (dLst (dCons (dC (.int 0)) (dCons (dC (.int 0)) dNil)))) (dCons (dC .none) (dCons (dTup (dCons (dC (.int 0)) dNil)) (dCons (dTup (dCons (dC (.int 0)) (dCons (dC (.int 0)) (dCons (dC (.int 0)) dNil)))) (dCons (dC (.str "00")) (dCons (dTup (dCons (dUn (f1I fun i => .int (-i)) (dC (.int 1))) (dCons (dC (.int 0)) dNil))) (dCons (dTup (dCons (dC (.int 0)) (dCons (dBin (f2I fun i j => .int (i - j)) (dVar 3) (dC (.int 1))) dNil))) dNil)))))))))))) dNil))))
  (sSeq (sAsg 9 (dLst (dCons (dSolid (dVar 4)) (dCons (dRev (dVar 4)) (dCons (dBin fAdd (dVar 4) (dSlice (dVar 4) dNo (dPart (dC (.int 1))))) (dCons (dFrz (dCall fList (dCons (dVar 4) dNil))) (dCons (dBin fAdd (dBin fAdd (dSlice (dVar 4) dNo (dPart (dVar 7))) (dTup (dCons (dVar 8) dNil))) (dSlice (dVar 4) (dPart (dVar 7)) dNo)) (dCons (dBin fAdd (dSlice (dVar 4) dNo (dPart (dVar 7))) (dSlice (dVar 4) (dPart (dBin fAdd (dVar 7) (dC (.int 1)))) dNo)) (dCons (dCall spec__law_odd (dCons (dVar 1) dNil)) dNil)))))))))
  (sFor (dItems (dBin fAdd (dVar 9) (dLst (dCons (dCall fTuple (dCons (dCall (fSorted false) (dCons (dBin fAdd (dVar 4) (dTup (dCons (dCall spec__law_of (dCons (dVar 1) (dCons (dCall spec__law_pairs (dCons (dVar 3) dNil)) dNil))) dNil))) dNil)) dNil)) dNil)))) (dgName 10) (sIf (dTest (dBin (fEq true) (dCall fReprU (dCons (dCall spec_is_span_lot (dCons (dVar 3) (dCons (dVar 10) dNil))) dNil)) (dCall fReprU (dCons (dCall spec__law_is_lot (dCons (dVar 3) (dCons (dVar 10) dNil))) dNil)))) (sRet (dC (.bool false))) sNext) [10] [10])))))))) [2, 3, 4, 5, 7, 8, 9, 10] [2, 3, 4, 5, 7, 8, 9, 10])
  (sRet (dBin (fEq false) (dLst (dCons (dCall spec_free_number (dCons (dC (.int 4)) (dCons (dTup (dCons (dTup (dCons (dC (.int 0)) (dCons (dC (.int 3)) dNil))) (dCons (dTup (dCons (dC (.int 1)) (dCons (dC (.int 2)) dNil))) dNil))) dNil))) (dCons (dCall spec_free_number (dCons (dC (.int 4)) (dCons (dTup (dCons (dTup (dCons (dC (.int 0)) (dCons (dC (.int 2)) dNil))) (dCons (dTup (dCons (dC (.int 1)) (dCons (dC (.int 3)) dNil))) dNil))) dNil))) (dCons (dCall spec_plain_code (dCons (dC (.int 2)) (dCons (dTup dNil) dNil))) dNil)))) (dLst (dCons (dC (.int 1)) (dCons (dC (.int 2)) (dCons (dTup (dCons (dC (.int 2)) (dCons (dTup dNil) dNil))) dNil)))))))
theorem freeN_bound {n : Nat} {L : List (Nat × Nat)} (hn : n ≤ 100) (ok : ∀ p ∈ L, PrOk n p) (hl : L.length ≤ 1000) : (freeN L).natAbs < 10 ^ 12 := by
  have : ∀ M : List (Nat × Nat), (∀ p ∈ M, PrOk n p) → 0 ≤ (M.map fun p => (((freeP L p).length : Nat) : Int)).sum ∧ (M.map fun p => (((freeP L p).length : Nat) : Int)).sum ≤ M.length * 100 := fun M => by
    induction M with
    | nil => intro _; simp
    | cons p M ih =>
      intro h
      have := ih fun q hq => h q (List.mem_cons_of_mem _ hq)
      have l : (freeP L p).length ≤ 100 := by
        have hp := (h p (List.mem_cons_self ..)).2
        refine Nat.le_trans (List.length_filter_le ..) ?_
        rw [List.length_map, List.length_range]
        omega
      rw [List.map_cons, List.sum_cons, List.length_cons]
      omega
  have := this L ok
  unfold freeN
  have e : (10 : Nat) ^ 12 = 1000000000000 := rfl
  omega
def Part (o : D) : Prop := noFrz o ∧ solid o = true ∧ ∀ ys, o = .tuple ys → ys.length ≤ 10000000 ∧ ∀ y ∈ ys, noFrz y
theorem part_tup {ys : List D} (so : solids ys = true) (h : ys.length ≤ 10000000) (k : ∀ y ∈ ys, noFrz y) : Part (.tuple ys) := ⟨trivial, by rw [solid_tup]; exact so, fun zs e => by cases e; exact ⟨h, k⟩⟩
theorem part_pr (p : Nat × Nat) : Part (prD p) := part_tup (by simp [solids, solid_int]) (by simp) fun y hy => by
  simp only [List.mem_cons, List.not_mem_nil, or_false] at hy
  rcases hy with rfl | rfl <;> exact trivial
theorem inner3_prs {L : List (Nat × Nat)} (h : L.length ≤ 1000) : inner3 (.tuple (L.map prD)) := inner3_tup (by rw [List.length_map]; exact h) fun x hx => by
  obtain ⟨p, _, rfl⟩ := List.mem_map.mp hx
  exact part_pr p
theorem fEq_yes {x y : D} {R : D → Prop} (h1 : x.plain = true) (h2 : y.plain = true) (h3 : min x.depth y.depth ≤ 60) (h4 : PyData.eqv x y = true) (h : R (.bool true)) : fEq false x y R := ⟨h1, h2, h3, by rw [if_neg Bool.false_ne_true, h4]; exact h⟩
theorem pl_law : m_law (startL 9) lawE := by
  unfold m_law
  simp only [odd_neg]
  walk_at "h"
  refine ⟨by omega, ?_⟩
  refine forD_nx (fun i ρ => ρ = [.unk, .val srcD, .unk, .unk, .unk, .unk, .unk, .unk, .unk, .unk, .unk]) _ 0 _ rfl ?_ ?_
  · rintro i x ρ E hx rfl hN
    obtain ⟨hi, rfl⟩ := range_at hx
    walk_at "h"
    refine ⟨12, rfl, by omega, fun a a0 a1 => ?_⟩
    obtain ⟨n, rfl⟩ : ∃ n : Nat, a = (n : Int) := ⟨a.toNat, by omega⟩
    have en : (1 : Int) + n = ((n + 1 : Nat) : Int) := by omega
    walk_at "h"
    rw [en]
    walk_at "s"
    refine ⟨n + 1, rfl, by omega, by omega, fun L hL => ?_⟩
    have lL := hL.ap.len
    obtain ⟨B, hB⟩ : ∃ B, B = L.map fun p => mkRow (n + 1) [p.1, p.2] := ⟨_, rfl⟩
    have lenB : Len (n + 1) B := fun r hr => by
      rw [hB] at hr
      obtain ⟨p, _, rfl⟩ := List.mem_map.mp hr
      exact mkRow_len _ _
    have lB : B.length = L.length := by rw [hB, List.length_map]
    walk_at "s"
    refine ⟨by rw [List.length_map]; omega, compD_map (fun p => rowD (mkRow (n + 1) [p.1, p.2])) (fun p hp k k0 hk => ?_) ?_⟩
    · rw [show prD p = .tuple ([p.1, p.2].map natD) from rfl]
      walk_at "h"
      rw [Int.toNat_natCast, rangeD_nats]
      refine ⟨⟨by omega, by omega⟩, by rw [List.length_map, List.length_range]; omega, compD_map (fun q => .int (bI ([p.1, p.2].contains q))) (fun q hq k2 k02 hk2 => ?_) ?_⟩
      · walk_at "h"
        refine fIn_natsT (x := q) (L := [p.1, p.2]) ?_
        have e : ([p.1, p.2].contains q) = (q == p.1 || q == p.2) := by rw [List.contains_cons, List.contains_cons, List.contains_nil, Bool.or_false]
        rw [e] at hk2
        walk_at "h"
        exact hk2
      · rw [mkRow_data]
        exact ⟨solids_ints _, hk⟩
    rw [show (L.map fun p => rowD (mkRow (n + 1) [p.1, p.2])) = rowsD B by rw [hB]; unfold rowsD; rw [List.map_map]; rfl]
    obtain ⟨S, hS, _⟩ := rref_ex lenB
    have lS := hS.red.count
    have okc : Ok 40 10000000 (.list [.tuple [.int ((n + 1 : Nat) : Int), .tuple (rowsD S)], .int (freeN L)]) := by
      have o1 : Ok 3 10000 (.tuple [.int ((n + 1 : Nat) : Int), .tuple (rowsD S)]) := (Ok.tuple (k := 2) (w := 13 * (13 * 15 + 5) + 3) (n := 2) (fun d hd => by
        rcases List.mem_cons.mp hd with rfl | hd
        · exact (Ok.int (by omega)).mono (by decide) (by decide)
        · rw [List.mem_singleton.mp hd]
          exact ok_rowsD (fun r hr => by rw [hS.red.len r hr]; omega) (by omega)) (by simp)).mono (by decide) (by decide)
      refine (Ok.list (k := 3) (w := 10000) (n := 2) (fun d hd => ?_) (by simp)).mono (by decide) (by decide)
      rcases List.mem_cons.mp hd with rfl | hd
      · exact o1
      · rw [List.mem_singleton.mp hd]
        exact (Ok.int (freeN_bound (n := n + 1) (by omega) hL.ap.ok (by omega))).mono (by decide) (by decide)
    walk_at "s"
    refine ⟨n, L, rfl, by omega, by omega, fun S' hS' => ?_⟩
    rw [← hB] at hS'
    obtain rfl := hS'.unique hS
    refine ⟨n + 1, _, L, rfl, by omega, by omega, hL.ap.ok, ?_⟩
    refine ⟨okc.okT, ?_⟩
    rw [okc.thaw]
    refine ⟨n + 1, _, B, rfl, lenB, by omega, by omega, fun S' hS' => ?_⟩
    obtain rfl := hS'.unique hS
    refine ⟨n + 1, L, rfl, by omega, hL.ap, ?_⟩
    refine ⟨okc.okT, ?_⟩
    rw [okc.thaw]
    refine fEq_eq ?_
    walk_at "h"
    walk_at "s"
    refine ⟨((L.map prD).length : Nat) + 1, rfl, by rw [List.length_map]; omega, fun k k0 k1 => ?_⟩
    obtain ⟨k, rfl⟩ : ∃ m : Nat, k = (m : Int) := ⟨k.toNat, by omega⟩
    rw [List.length_map] at k1
    walk_at "s"
    refine ⟨_, .inl rfl, by simp [solids, solid_int, solid, solid_frz], by simp, by simp, fun o ho => ?_⟩
    have po : Part o := by
      simp only [List.mem_cons, List.not_mem_nil, or_false] at ho
      rcases ho with rfl | rfl | rfl | rfl | rfl | rfl | rfl | rfl | rfl | rfl | rfl
      · exact part_tup (by simp [solids, solid_int]) (by simp) (by simp [noFrz])
      · exact part_tup (by simp [solids, solid_int]) (by simp) (by simp [noFrz])
      · exact part_tup (by simp [solids, solid_int]) (by simp) (by simp [noFrz])
      · exact part_tup (by simp [solids, solid_int, solid]) (by simp) (by simp [noFrz])
      · exact ⟨.inl rfl, by rw [solid_frz], fun ys e => by cases e⟩
      · exact ⟨trivial, rfl, fun ys e => by cases e⟩
      · exact part_tup (by simp [solids, solid_int]) (by simp) (by simp [noFrz])
      · exact part_tup (by simp [solids, solid_int]) (by simp) (by simp [noFrz])
      · exact ⟨trivial, rfl, fun ys e => by cases e⟩
      · exact part_tup (by simp [solids, solid_int]) (by simp) (by simp [noFrz])
      · exact part_tup (by simp [solids, solid_int]) (by simp) (by simp [noFrz])
    clear ho
    have cT : ∀ j : Nat, cutL (L.map prD) none (some ((j : Nat) : Int)) = (L.take j).map prD := fun j => by rw [cutL_take, List.map_take]
    have cD : ∀ j : Nat, cutL (L.map prD) (some ((j : Nat) : Int)) none = (L.drop j).map prD := fun j => by rw [cutL_drop, List.map_drop]
    have c1 : cutL (L.map prD) none (some 1) = (L.take 1).map prD := cT 1
    have c2 : cutL (L.map prD) (some ((k : Int) + 1)) none = (L.drop (k + 1)).map prD := cD (k + 1)
    walk_at "s"
    rw [c1, cT k, cD k, c2]
    have lt : ∀ j, (L.take j).length ≤ 13 := fun j => by rw [List.length_take]; omega
    have ld : ∀ j, (L.drop j).length ≤ 13 := fun j => by rw [List.length_drop]; omega
    have sol : ∀ M : List (Nat × Nat), solids (M.map prD) = true := solids_prD
    have so1 : solids ((L.take k).map prD ++ [o]) = true := by
      rw [solids_iff]
      intro y hy
      rcases List.mem_append.mp hy with hy | hy
      · exact solids_iff.mp (sol _) y hy
      · rw [List.mem_singleton.mp hy]
        exact po.2.1
    have t1 := lt 1
    have t2 := lt k
    have t3 := ld k
    have t4 := ld (k + 1)
    refine ⟨sol _, sol _, sol _, sol _, sol _, by rw [List.length_map, List.length_map]; omega, sol _, sol _, sol _, sol _, po.2.1, by rw [List.length_map]; omega, sol _, so1, sol _, by rw [List.length_append, List.length_map, List.length_map, List.length_singleton]; omega, sol _, sol _, sol _, sol _, by rw [List.length_map, List.length_map]; omega, ?_⟩
    refine ⟨rfl, fun v sv iv => ?_⟩
    walk_at "s"
    refine ⟨n + 1, rfl, by omega, ?_⟩
    have pl := pairsN_len (n + 1)
    have pl2 : (n + 1) * (n + 1) ≤ 100 * 100 := Nat.mul_le_mul (by omega) (by omega)
    refine ⟨_, .inl rfl, sol _, fun z => pairsN_zero (n := n + 1) (by omega) (List.map_eq_nil_iff.mp z), by rw [List.length_map]; omega, fun d hd => ?_⟩
    obtain ⟨q, hq, rfl⟩ := List.mem_map.mp hd
    have eq1 : L.map prD ++ [prD q] = (L ++ [q]).map prD := by rw [List.map_append]; rfl
    rw [eq1, sortD_pr]
    have lq : (L ++ [q]).length ≤ 14 := by rw [List.length_append, List.length_singleton]; omega
    have lu : (upP (L ++ [q])).length ≤ 14 := by rw [(upP_perm (L ++ [q])).length_eq]; exact lq
    have so2 : solids ((L.take k).map prD ++ [o] ++ (L.drop k).map prD) = true := by
      rw [solids_iff]
      intro y hy
      rcases List.mem_append.mp hy with hy | hy
      · exact solids_iff.mp so1 y hy
      · exact solids_iff.mp (sol _) y hy
    have so3 : solids (L.map prD).reverse = true := by rw [← List.map_reverse]; exact sol _
    have so4 : solids (L.map prD ++ (L.take 1).map prD) = true := by rw [← List.map_append]; exact sol _
    have so5 : solids ((L.take k).map prD ++ (L.drop (k + 1)).map prD) = true := by rw [← List.map_append]; exact sol _
    refine ⟨sol _, solid_prD q, by rw [List.length_map]; omega, sol _, sortOk_pr (by omega), sol _, by rw [sol, so3, so4, so2, so5, sv]; rfl, sol _, ?_⟩
    have all : ∀ x ∈ ([.tuple (L.map prD), .tuple (L.map prD).reverse, .tuple (L.map prD ++ (L.take 1).map prD), frzD (L.map prD), .tuple ((L.take k).map prD ++ [o] ++ (L.drop k).map prD), .tuple ((L.take k).map prD ++ (L.drop (k + 1)).map prD), v, .tuple ((upP (L ++ [q])).map prD)] : List D), inner3 x := by
      intro x hx
      simp only [List.mem_cons, List.not_mem_nil, or_false] at hx
      rcases hx with rfl | rfl | rfl | rfl | rfl | rfl | rfl | rfl
      · exact inner3_prs (by omega)
      · rw [← List.map_reverse]
        exact inner3_prs (by rw [List.length_reverse]; omega)
      · rw [← List.map_append]
        exact inner3_prs (by rw [List.length_append]; omega)
      · exact ⟨.inl rfl, fun xs e => by cases e⟩
      · refine inner3_tup (by rw [List.length_append, List.length_append, List.length_map, List.length_map, List.length_singleton]; omega) fun x hx => ?_
        rcases List.mem_append.mp hx with hx | hx
        · rcases List.mem_append.mp hx with hx | hx
          · obtain ⟨p, _, rfl⟩ := List.mem_map.mp hx
            exact part_pr p
          · rw [List.mem_singleton.mp hx]
            exact po
        · obtain ⟨p, _, rfl⟩ := List.mem_map.mp hx
          exact part_pr p
      · rw [← List.map_append]
        exact inner3_prs (by rw [List.length_append]; omega)
      · exact iv
      · exact inner3_prs (by omega)
    refine forD_nx (fun _ ρ => ρ = _) _ 0 _ rfl ?_ ?_
    · rintro j x ρ E2 hx rfl hN2
      have ix := all x (List.mem_of_getElem? hx)
      have ob : ∀ b : Bool, OkT 40 10000000 (.bool b) ∧ thaw (.bool b) = .bool b := fun b => ⟨(Ok.bool.mono (by decide) (by decide)).okT, Ok.bool.thaw⟩
      walk_at "h"
      refine ⟨n + 1, x, rfl, ix, fun b1 h1 => ?_⟩
      refine ⟨(ob b1).1, ?_⟩
      refine ⟨n + 1, x, rfl, ix, fun b2 h2 => ?_⟩
      have e12 : b1 = b2 := by rw [Bool.eq_iff_iff, h1, h2]
      subst e12
      refine ⟨(ob b1).1, fEq_eq ?_⟩
      exact hN2 _ rfl
    · rintro ρ rfl
      exact hN _ rfl
  · rintro ρ rfl
    walk_at "h"
    rw [Z.later_cons]
    walk_at "h"
    refine ⟨4, _, [(0, 3), (1, 2)], rfl, by decide, by decide, by decide, ?_⟩
    refine ⟨4, _, [(0, 2), (1, 3)], rfl, by decide, by decide, by decide, ?_⟩
    refine ⟨1, [], rfl, by decide, by decide, fun S hS => ?_⟩
    have e0 : S = [] := hS.unique ⟨red_nil, List.Pairwise.nil, fun v => Iff.rfl⟩
    subst e0
    have e1 : freeN [(0, 3), (1, 2)] = 1 := by decide
    have e2 : freeN [(0, 2), (1, 3)] = 2 := by decide
    rw [e1, e2]
    exact fEq_yes (by decide +kernel) (by decide +kernel) (by decide +kernel) (by decide +kernel) rfl
set_option maxHeartbeats 0 in
theorem fn_law (T : Tx K mg) {f : Addr} {fd : FuncData} (F : Fun K "law" "law" s_law f fd) : FnG P w K mg base 5 f fd ["script"] (spLaw K) := by
  refine fnG_of F sc_law (fun vs H Q E h => by obtain ⟨a, ns, rfl, _⟩ := h; rfl) fun cdv A outer s H vs Q E hr hg h => ?_
  exact law_of (K := K) (m := m_law) ["script", "source", "lap", "n", "lot", "plain", "span", "k", "odd", "some", "value"] rfl
    (pss_cons (ps_set (i := 1) sc_law.nd rfl (by first | exact Or.inl rfl | exact Or.inr rfl) (pe_callG (at__law_source T) (hr.mono (by decide)) hg (by rfl) (pa_cons (pv 0) pa_nil)))
      (pss_cons (ps_for PassesOwn.never rfl (pi_range1 (by rfl) T.b_range (pa_cons pe_int pa_nil)) (pg_name (i := 2) sc_law.nd rfl (by first | exact Or.inl rfl | exact Or.inr rfl)) (pss_cons (ps_set (i := 3) sc_law.nd rfl (by first | exact Or.inl rfl | exact Or.inr rfl) (pe_op op_addZ pe_int (pe_callG (at__law_pick T) (hr.mono (by decide)) hg (by rfl) (pa_cons (pv 1) (pa_cons pe_int pa_nil)))))
      (pss_cons (ps_set (i := 4) sc_law.nd rfl (by first | exact Or.inl rfl | exact Or.inr rfl) (pe_callG (at__law_lot T) (hr.mono (by decide)) hg (by rfl) (pa_cons (pv 1) (pa_cons (pv 3) pa_nil))))
      (pss_cons (ps_setLc (i := 5) (own := [("span", 6)]) rfl sc_law.nd rfl rfl (sw_true rfl rfl rfl (by decide +kernel)) (pi_seq (pv 4)) (blkOk_by (N := ["script", "source", "lap", "n", "lot", "plain", "span", "k", "odd", "some", "value"]) (sc := defScope s_law) (by decide +kernel)) (fun _ _ _ _ _ => (pg_name (i := 6) sc_law.nd rfl (by first | exact Or.inl rfl | exact Or.inr rfl))) (fun _ _ _ _ _ => pts_nil) (fun _ _ _ _ _ => (pe_callTy call_tupF (by rfl) T.b_tuple (by decide +kernel) (pa_cons (pe_lc (own := [("k", 7)]) rfl sc_law.nd (pi_range1 (by rfl) T.b_range (pa_cons (pv 3) pa_nil)) (blkOk_by (by rfl)) (fun _ _ _ _ _ => (pg_name (i := 7) sc_law.nd rfl (by first | exact Or.inl rfl | exact Or.inr rfl))) (fun _ _ _ _ _ => pts_nil) (fun _ _ _ _ _ => (pe_callTy call_int1 (by rfl) T.b_int (by decide +kernel) (pa_cons (pe_cmpR (op_inZ hr.units) (pv 7) (pv 6) (by with_unfolding_all rfl)) pa_nil)))) pa_nil))))
      (pss_cons (ps_if (pt_cmpR (op_neZ hr.units) (pe_callB (cr_reprU hg hr.units) (by rfl) T.b_repr (by decide +kernel) (pa_cons (pe_lst (pa_cons (pe_callG (at_plain_code T) (hr.mono (by decide)) hg (by rfl) (pa_cons (pv 3) (pa_cons (pv 4) pa_nil))) (pa_cons (pe_callG (at_free_number T) (hr.mono (by decide)) hg (by rfl) (pa_cons (pv 3) (pa_cons (pv 4) pa_nil))) pa_nil))) pa_nil)) (pe_callB (cr_reprU hg hr.units) (by rfl) T.b_repr (by decide +kernel) (pa_cons (pe_lst (pa_cons (pe_tupF (pa_cons (pv 3) (pa_cons (pe_callG (at__law_leads T) (hr.mono (by decide)) hg (by rfl) (pa_cons (pv 3) (pa_cons (pv 5) pa_nil))) pa_nil))) (pa_cons (pe_callG (at__law_free T) (hr.mono (by decide)) hg (by rfl) (pa_cons (pv 4) pa_nil)) pa_nil))) pa_nil)) (nomark _)) (pss_one (ps_ret pe_bl)) pss_nil)
      (pss_cons (ps_set (i := 7) sc_law.nd rfl (by first | exact Or.inl rfl | exact Or.inr rfl) (pe_callG (at__law_pick T) (hr.mono (by decide)) hg (by rfl) (pa_cons (pv 1) (pa_cons (pe_op op_addZ (pe_callB call_len (by rfl) T.b_len PySem.boot_len (pa_cons (pv 4) pa_nil)) pe_int) pa_nil))))
      (pss_cons (ps_set (i := 8) sc_law.nd rfl (by first | exact Or.inl rfl | exact Or.inr rfl) (pe_callG (at__law_of T) (hr.mono (by decide)) hg (by rfl) (pa_cons (pv 1) (pa_cons (pe_lst (pa_cons (pe_tupF (pa_cons pe_int (pa_cons (pv 3) pa_nil))) (pa_cons (pe_tupF (pa_cons pe_int (pa_cons pe_int pa_nil))) (pa_cons (pe_tupF (pa_cons (pe_op op_sub (pv 3) pe_int) (pa_cons (pe_op op_sub (pv 3) pe_int) pa_nil))) (pa_cons (pe_tupF (pa_cons pe_int (pa_cons pe_bl pa_nil))) (pa_cons (pe_frz (pe_lst (pa_cons pe_int (pa_cons pe_int pa_nil)))) (pa_cons pe_non (pa_cons (pe_tupF (pa_cons pe_int pa_nil)) (pa_cons (pe_tupF (pa_cons pe_int (pa_cons pe_int (pa_cons pe_int pa_nil)))) (pa_cons pe_str (pa_cons (pe_tupF (pa_cons (pe_un un_neg pe_int) (pa_cons pe_int pa_nil))) (pa_cons (pe_tupF (pa_cons pe_int (pa_cons (pe_op op_sub (pv 3) pe_int) pa_nil))) pa_nil)))))))))))) pa_nil))))
      (pss_cons (ps_set (i := 9) sc_law.nd rfl (by first | exact Or.inl rfl | exact Or.inr rfl) (pe_lst (pa_cons (pv 4) (pa_cons (pe_revZ (pv 4)) (pa_cons (pe_op op_addZ (pv 4) (pe_slice sl_cut (pv 4) po_none (po_some pe_int))) (pa_cons (pe_frz (pe_callTy call_list_of (by rfl) T.b_list (by decide +kernel) (pa_cons (pv 4) pa_nil))) (pa_cons (pe_op op_addZ (pe_op op_addZ (pe_slice sl_cut (pv 4) po_none (po_some (pv 7))) (pe_tupF (pa_cons (pv 8) pa_nil))) (pe_slice sl_cut (pv 4) (po_some (pv 7)) po_none)) (pa_cons (pe_op op_addZ (pe_slice sl_cut (pv 4) po_none (po_some (pv 7))) (pe_slice sl_cut (pv 4) (po_some (pe_op op_addZ (pv 7) pe_int)) po_none)) (pa_cons (pe_callG (at__law_odd T) (hr.mono (by decide)) hg (by rfl) (pa_cons (pv 1) pa_nil)) pa_nil)))))))))
      (pss_one (ps_for PassesOwn.never rfl (pi_seq (pe_op op_addZ (pv 9) (pe_lst (pa_cons (pe_callTy call_tupF (by rfl) T.b_tuple (by decide +kernel) (pa_cons (pe_callB (cr_sortZ hr.units) (by rfl) T.b_sorted (by decide +kernel) (pa_cons (pe_op op_addZ (pv 4) (pe_tupF (pa_cons (pe_callG (at__law_of T) (hr.mono (by decide)) hg (by rfl) (pa_cons (pv 1) (pa_cons (pe_callG (at__law_pairs T) (hr.mono (by decide)) hg (by rfl) (pa_cons (pv 3) pa_nil)) pa_nil))) pa_nil))) pa_nil)) pa_nil)) pa_nil)))) (pg_name (i := 10) sc_law.nd rfl (by first | exact Or.inl rfl | exact Or.inr rfl)) (pss_one (ps_if (pt_cmpR (op_neZ hr.units) (pe_callB (cr_reprU hg hr.units) (by rfl) T.b_repr (by decide +kernel) (pa_cons (pe_callG (at_is_span_lot T) (hr.mono (by decide)) hg (by rfl) (pa_cons (pv 3) (pa_cons (pv 10) pa_nil))) pa_nil)) (pe_callB (cr_reprU hg hr.units) (by rfl) T.b_repr (by decide +kernel) (pa_cons (pe_callG (at__law_is_lot T) (hr.mono (by decide)) hg (by rfl) (pa_cons (pv 3) (pa_cons (pv 10) pa_nil))) pa_nil)) (nomark _)) (pss_one (ps_ret pe_bl)) pss_nil))))))))))))
      (pss_one (ps_ret (pe_cmpR (op_eqZ hr.units) (pe_lst (pa_cons (pe_callG (at_free_number T) (hr.mono (by decide)) hg (by rfl) (pa_cons pe_int (pa_cons (pe_tupF (pa_cons (pe_tupF (pa_cons pe_int (pa_cons pe_int pa_nil))) (pa_cons (pe_tupF (pa_cons pe_int (pa_cons pe_int pa_nil))) pa_nil))) pa_nil))) (pa_cons (pe_callG (at_free_number T) (hr.mono (by decide)) hg (by rfl) (pa_cons pe_int (pa_cons (pe_tupF (pa_cons (pe_tupF (pa_cons pe_int (pa_cons pe_int pa_nil))) (pa_cons (pe_tupF (pa_cons pe_int (pa_cons pe_int pa_nil))) pa_nil))) pa_nil))) (pa_cons (pe_callG (at_plain_code T) (hr.mono (by decide)) hg (by rfl) (pa_cons pe_int (pa_cons (pe_tupF pa_nil) pa_nil))) pa_nil)))) (pe_lst (pa_cons pe_int (pa_cons pe_int (pa_cons (pe_tupF (pa_cons pe_int (pa_cons (pe_tupF pa_nil) pa_nil))) pa_nil)))) (nomark _))))))
    (fun S => (ds_seq (ds_for (Wg := [2]) (Wb := [3, 4, 5, 7, 8, 9, 10]) (F := [2, 3, 4, 5, 7, 8, 9, 10]) (di_rng1 (da_cons de_int da_nil)) (dg_name 2) (ds_seq (ds_asg 3 (de_op od_add de_int (de_call (da_cons (de_var 1) (da_cons de_int da_nil)))))
      (ds_seq (ds_asg 4 (de_call (da_cons (de_var 1) (da_cons (de_var 3) da_nil))))
      (ds_seq (ds_asg 5 (de_lc (di_seq (de_var 4)) (dg_name 6) dt_yes (de_cb cd_tuple (da_cons (de_lc (di_rng1 (da_cons (de_var 3) da_nil)) (dg_name 7) dt_yes (de_cb cd_int (da_cons (de_op od_in (de_var 7) (de_var 6)) da_nil)) (by decide)) da_nil)) (by decide)))
      (ds_seq (ds_if (dt_val (de_op od_eq (de_cb cd_reprU (da_cons (de_lst (da_cons (de_call (da_cons (de_var 3) (da_cons (de_var 4) da_nil))) (da_cons (de_call (da_cons (de_var 3) (da_cons (de_var 4) da_nil))) da_nil))) da_nil)) (de_cb cd_reprU (da_cons (de_lst (da_cons (de_tup (da_cons (de_var 3) (da_cons (de_call (da_cons (de_var 3) (da_cons (de_var 5) da_nil))) da_nil))) (da_cons (de_call (da_cons (de_var 4) da_nil)) da_nil))) da_nil)))) (ds_ret de_bl) ds_next)
      (ds_seq (ds_asg 7 (de_call (da_cons (de_var 1) (da_cons (de_op od_add (de_cb cd_len (da_cons (de_var 4) da_nil)) de_int) da_nil))))
      (ds_seq (ds_asg 8 (de_call (da_cons (de_var 1) (da_cons (de_lst (da_cons (de_tup (da_cons de_int (da_cons (de_var 3) da_nil))) (da_cons (de_tup (da_cons de_int (da_cons de_int da_nil))) (da_cons (de_tup (da_cons (de_op od_I0 (de_var 3) de_int) (da_cons (de_op od_I0 (de_var 3) de_int) da_nil))) (da_cons (de_tup (da_cons de_int (da_cons de_bl da_nil))) (da_cons (de_frz (de_lst (da_cons de_int (da_cons de_int da_nil)))) (da_cons de_non (da_cons (de_tup (da_cons de_int da_nil)) (da_cons (de_tup (da_cons de_int (da_cons de_int (da_cons de_int da_nil)))) (da_cons de_str (da_cons (de_tup (da_cons (de_un ud_I de_int) (da_cons de_int da_nil))) (da_cons (de_tup (da_cons de_int (da_cons (de_op od_I0 (de_var 3) de_int) da_nil))) da_nil)))))))))))) da_nil))))
      (ds_seq (ds_asg 9 (de_lst (da_cons (de_solid (de_var 4)) (da_cons (de_rev (de_var 4)) (da_cons (de_op od_add (de_var 4) (de_slice (de_var 4) do_no (do_part de_int))) (da_cons (de_frz (de_cb cd_list (da_cons (de_var 4) da_nil))) (da_cons (de_op od_add (de_op od_add (de_slice (de_var 4) do_no (do_part (de_var 7))) (de_tup (da_cons (de_var 8) da_nil))) (de_slice (de_var 4) (do_part (de_var 7)) do_no)) (da_cons (de_op od_add (de_slice (de_var 4) do_no (do_part (de_var 7))) (de_slice (de_var 4) (do_part (de_op od_add (de_var 7) de_int)) do_no)) (da_cons (de_call (da_cons (de_var 1) da_nil)) da_nil)))))))))
      (ds_for (Wg := [10]) (Wb := []) (F := [10]) (di_seq (de_op od_add (de_var 9) (de_lst (da_cons (de_cb cd_tuple (da_cons (de_cb cd_sorted (da_cons (de_op od_add (de_var 4) (de_tup (da_cons (de_call (da_cons (de_var 1) (da_cons (de_call (da_cons (de_var 3) da_nil)) da_nil))) da_nil))) da_nil)) da_nil)) da_nil)))) (dg_name 10) (ds_if (dt_val (de_op od_eq (de_cb cd_reprU (da_cons (de_call (da_cons (de_var 3) (da_cons (de_var 10) da_nil))) da_nil)) (de_cb cd_reprU (da_cons (de_call (da_cons (de_var 3) (da_cons (de_var 10) da_nil))) da_nil)))) (ds_ret de_bl) ds_next) (by decide))))))))) (by decide))
      (ds_ret (de_op od_eq (de_lst (da_cons (de_call (da_cons de_int (da_cons (de_tup (da_cons (de_tup (da_cons de_int (da_cons de_int da_nil))) (da_cons (de_tup (da_cons de_int (da_cons de_int da_nil))) da_nil))) da_nil))) (da_cons (de_call (da_cons de_int (da_cons (de_tup (da_cons (de_tup (da_cons de_int (da_cons de_int da_nil))) (da_cons (de_tup (da_cons de_int (da_cons de_int da_nil))) da_nil))) da_nil))) (da_cons (de_call (da_cons de_int (da_cons (de_tup da_nil) da_nil))) da_nil)))) (de_lst (da_cons de_int (da_cons de_int (da_cons (de_tup (da_cons de_int (da_cons (de_tup da_nil) da_nil))) da_nil)))))))) pl_law h
end
/-! ### the end -/
theorem all_mk {l : PySem.W.OpenLaw} {w : World} {K : PySem.W.Frag} {h : Heap} {mg : Str → Option Value} {fa : Addr} (X : K.In h) (G : h.Ns mainGlobals mg) (hfa : mg "law" = some (.ref fa))
    {f0 : Addr} {od0 an0 : Option Addr} {sl0 : Array (Option Value)} {oc0 kV0 dc0 pm0 cd0 ct0 : Value}
    (a0 : PySem.W.nsIn K mainGlobals "sum_of" = some (some (.ref f0))) (l0 : K.lookup f0 = some ⟨oc0, od0, .func (PySem.W.fnOf "sum_of" "sum_of" (defArgs s_sum_of) (defBody s_sum_of) (defScope s_sum_of) .none kV0 dc0 pm0 an0 cd0 ct0), sl0⟩) (c0 : PySem.W.codeIn K cd0 "sum_of" = true) (k0 : PySem.W.keepIn K (.ref f0) = true)
    {f1 : Addr} {od1 an1 : Option Addr} {sl1 : Array (Option Value)} {oc1 kV1 dc1 pm1 cd1 ct1 : Value}
    (a1 : PySem.W.nsIn K mainGlobals "first_one" = some (some (.ref f1))) (l1 : K.lookup f1 = some ⟨oc1, od1, .func (PySem.W.fnOf "first_one" "first_one" (defArgs s_first_one) (defBody s_first_one) (defScope s_first_one) .none kV1 dc1 pm1 an1 cd1 ct1), sl1⟩) (c1 : PySem.W.codeIn K cd1 "first_one" = true) (k1 : PySem.W.keepIn K (.ref f1) = true)
    {f2 : Addr} {od2 an2 : Option Addr} {sl2 : Array (Option Value)} {oc2 kV2 dc2 pm2 cd2 ct2 : Value}
    (a2 : PySem.W.nsIn K mainGlobals "told_rows" = some (some (.ref f2))) (l2 : K.lookup f2 = some ⟨oc2, od2, .func (PySem.W.fnOf "told_rows" "told_rows" (defArgs s_told_rows) (defBody s_told_rows) (defScope s_told_rows) .none kV2 dc2 pm2 an2 cd2 ct2), sl2⟩) (c2 : PySem.W.codeIn K cd2 "told_rows" = true) (k2 : PySem.W.keepIn K (.ref f2) = true)
    {f3 : Addr} {od3 an3 : Option Addr} {sl3 : Array (Option Value)} {oc3 kV3 dc3 pm3 cd3 ct3 : Value}
    (a3 : PySem.W.nsIn K mainGlobals "told_code" = some (some (.ref f3))) (l3 : K.lookup f3 = some ⟨oc3, od3, .func (PySem.W.fnOf "told_code" "told_code" (defArgs s_told_code) (defBody s_told_code) (defScope s_told_code) .none kV3 dc3 pm3 an3 cd3 ct3), sl3⟩) (c3 : PySem.W.codeIn K cd3 "told_code" = true) (k3 : PySem.W.keepIn K (.ref f3) = true)
    {f4 : Addr} {od4 an4 : Option Addr} {sl4 : Array (Option Value)} {oc4 kV4 dc4 pm4 cd4 ct4 : Value}
    (a4 : PySem.W.nsIn K mainGlobals "lies_within" = some (some (.ref f4))) (l4 : K.lookup f4 = some ⟨oc4, od4, .func (PySem.W.fnOf "lies_within" "lies_within" (defArgs s_lies_within) (defBody s_lies_within) (defScope s_lies_within) .none kV4 dc4 pm4 an4 cd4 ct4), sl4⟩) (c4 : PySem.W.codeIn K cd4 "lies_within" = true) (k4 : PySem.W.keepIn K (.ref f4) = true)
    {f5 : Addr} {od5 an5 : Option Addr} {sl5 : Array (Option Value)} {oc5 kV5 dc5 pm5 cd5 ct5 : Value}
    (a5 : PySem.W.nsIn K mainGlobals "are_unlike" = some (some (.ref f5))) (l5 : K.lookup f5 = some ⟨oc5, od5, .func (PySem.W.fnOf "are_unlike" "are_unlike" (defArgs s_are_unlike) (defBody s_are_unlike) (defScope s_are_unlike) .none kV5 dc5 pm5 an5 cd5 ct5), sl5⟩) (c5 : PySem.W.codeIn K cd5 "are_unlike" = true) (k5 : PySem.W.keepIn K (.ref f5) = true)
    {f6 : Addr} {od6 an6 : Option Addr} {sl6 : Array (Option Value)} {oc6 kV6 dc6 pm6 cd6 ct6 : Value}
    (a6 : PySem.W.nsIn K mainGlobals "is_place" = some (some (.ref f6))) (l6 : K.lookup f6 = some ⟨oc6, od6, .func (PySem.W.fnOf "is_place" "is_place" (defArgs s_is_place) (defBody s_is_place) (defScope s_is_place) .none kV6 dc6 pm6 an6 cd6 ct6), sl6⟩) (c6 : PySem.W.codeIn K cd6 "is_place" = true) (k6 : PySem.W.keepIn K (.ref f6) = true)
    {f7 : Addr} {od7 an7 : Option Addr} {sl7 : Array (Option Value)} {oc7 kV7 dc7 pm7 cd7 ct7 : Value}
    (a7 : PySem.W.nsIn K mainGlobals "is_span_lot" = some (some (.ref f7))) (l7 : K.lookup f7 = some ⟨oc7, od7, .func (PySem.W.fnOf "is_span_lot" "is_span_lot" (defArgs s_is_span_lot) (defBody s_is_span_lot) (defScope s_is_span_lot) .none kV7 dc7 pm7 an7 cd7 ct7), sl7⟩) (c7 : PySem.W.codeIn K cd7 "is_span_lot" = true) (k7 : PySem.W.keepIn K (.ref f7) = true)
    {f8 : Addr} {od8 an8 : Option Addr} {sl8 : Array (Option Value)} {oc8 kV8 dc8 pm8 cd8 ct8 : Value}
    (a8 : PySem.W.nsIn K mainGlobals "plain_row" = some (some (.ref f8))) (l8 : K.lookup f8 = some ⟨oc8, od8, .func (PySem.W.fnOf "plain_row" "plain_row" (defArgs s_plain_row) (defBody s_plain_row) (defScope s_plain_row) .none kV8 dc8 pm8 an8 cd8 ct8), sl8⟩) (c8 : PySem.W.codeIn K cd8 "plain_row" = true) (k8 : PySem.W.keepIn K (.ref f8) = true)
    {f9 : Addr} {od9 an9 : Option Addr} {sl9 : Array (Option Value)} {oc9 kV9 dc9 pm9 cd9 ct9 : Value}
    (a9 : PySem.W.nsIn K mainGlobals "plain_code" = some (some (.ref f9))) (l9 : K.lookup f9 = some ⟨oc9, od9, .func (PySem.W.fnOf "plain_code" "plain_code" (defArgs s_plain_code) (defBody s_plain_code) (defScope s_plain_code) .none kV9 dc9 pm9 an9 cd9 ct9), sl9⟩) (c9 : PySem.W.codeIn K cd9 "plain_code" = true) (k9 : PySem.W.keepIn K (.ref f9) = true)
    {f10 : Addr} {od10 an10 : Option Addr} {sl10 : Array (Option Value)} {oc10 kV10 dc10 pm10 cd10 ct10 : Value}
    (a10 : PySem.W.nsIn K mainGlobals "free_places" = some (some (.ref f10))) (l10 : K.lookup f10 = some ⟨oc10, od10, .func (PySem.W.fnOf "free_places" "free_places" (defArgs s_free_places) (defBody s_free_places) (defScope s_free_places) .none kV10 dc10 pm10 an10 cd10 ct10), sl10⟩) (c10 : PySem.W.codeIn K cd10 "free_places" = true) (k10 : PySem.W.keepIn K (.ref f10) = true)
    {f11 : Addr} {od11 an11 : Option Addr} {sl11 : Array (Option Value)} {oc11 kV11 dc11 pm11 cd11 ct11 : Value}
    (a11 : PySem.W.nsIn K mainGlobals "free_number" = some (some (.ref f11))) (l11 : K.lookup f11 = some ⟨oc11, od11, .func (PySem.W.fnOf "free_number" "free_number" (defArgs s_free_number) (defBody s_free_number) (defScope s_free_number) .none kV11 dc11 pm11 an11 cd11 ct11), sl11⟩) (c11 : PySem.W.codeIn K cd11 "free_number" = true) (k11 : PySem.W.keepIn K (.ref f11) = true)
    {f12 : Addr} {od12 an12 : Option Addr} {sl12 : Array (Option Value)} {oc12 kV12 dc12 pm12 cd12 ct12 : Value}
    (a12 : PySem.W.nsIn K mainGlobals "_law_source" = some (some (.ref f12))) (l12 : K.lookup f12 = some ⟨oc12, od12, .func (PySem.W.fnOf "_law_source" "_law_source" (defArgs s__law_source) (defBody s__law_source) (defScope s__law_source) .none kV12 dc12 pm12 an12 cd12 ct12), sl12⟩) (c12 : PySem.W.codeIn K cd12 "_law_source" = true) (k12 : PySem.W.keepIn K (.ref f12) = true)
    {f13 : Addr} {od13 an13 : Option Addr} {sl13 : Array (Option Value)} {oc13 kV13 dc13 pm13 cd13 ct13 : Value}
    (a13 : PySem.W.nsIn K mainGlobals "_law_pick" = some (some (.ref f13))) (l13 : K.lookup f13 = some ⟨oc13, od13, .func (PySem.W.fnOf "_law_pick" "_law_pick" (defArgs s__law_pick) (defBody s__law_pick) (defScope s__law_pick) .none kV13 dc13 pm13 an13 cd13 ct13), sl13⟩) (c13 : PySem.W.codeIn K cd13 "_law_pick" = true) (k13 : PySem.W.keepIn K (.ref f13) = true)
    {f14 : Addr} {od14 an14 : Option Addr} {sl14 : Array (Option Value)} {oc14 kV14 dc14 pm14 cd14 ct14 : Value}
    (a14 : PySem.W.nsIn K mainGlobals "_law_of" = some (some (.ref f14))) (l14 : K.lookup f14 = some ⟨oc14, od14, .func (PySem.W.fnOf "_law_of" "_law_of" (defArgs s__law_of) (defBody s__law_of) (defScope s__law_of) .none kV14 dc14 pm14 an14 cd14 ct14), sl14⟩) (c14 : PySem.W.codeIn K cd14 "_law_of" = true) (k14 : PySem.W.keepIn K (.ref f14) = true)
    {f15 : Addr} {od15 an15 : Option Addr} {sl15 : Array (Option Value)} {oc15 kV15 dc15 pm15 cd15 ct15 : Value}
    (a15 : PySem.W.nsIn K mainGlobals "_law_mixed" = some (some (.ref f15))) (l15 : K.lookup f15 = some ⟨oc15, od15, .func (PySem.W.fnOf "_law_mixed" "_law_mixed" (defArgs s__law_mixed) (defBody s__law_mixed) (defScope s__law_mixed) .none kV15 dc15 pm15 an15 cd15 ct15), sl15⟩) (c15 : PySem.W.codeIn K cd15 "_law_mixed" = true) (k15 : PySem.W.keepIn K (.ref f15) = true)
    {f16 : Addr} {od16 an16 : Option Addr} {sl16 : Array (Option Value)} {oc16 kV16 dc16 pm16 cd16 ct16 : Value}
    (a16 : PySem.W.nsIn K mainGlobals "_law_sum" = some (some (.ref f16))) (l16 : K.lookup f16 = some ⟨oc16, od16, .func (PySem.W.fnOf "_law_sum" "_law_sum" (defArgs s__law_sum) (defBody s__law_sum) (defScope s__law_sum) .none kV16 dc16 pm16 an16 cd16 ct16), sl16⟩) (c16 : PySem.W.codeIn K cd16 "_law_sum" = true) (k16 : PySem.W.keepIn K (.ref f16) = true)
    {f17 : Addr} {od17 an17 : Option Addr} {sl17 : Array (Option Value)} {oc17 kV17 dc17 pm17 cd17 ct17 : Value}
    (a17 : PySem.W.nsIn K mainGlobals "_law_odd" = some (some (.ref f17))) (l17 : K.lookup f17 = some ⟨oc17, od17, .func (PySem.W.fnOf "_law_odd" "_law_odd" (defArgs s__law_odd) (defBody s__law_odd) (defScope s__law_odd) .none kV17 dc17 pm17 an17 cd17 ct17), sl17⟩) (c17 : PySem.W.codeIn K cd17 "_law_odd" = true) (k17 : PySem.W.keepIn K (.ref f17) = true)
    {f18 : Addr} {od18 an18 : Option Addr} {sl18 : Array (Option Value)} {oc18 kV18 dc18 pm18 cd18 ct18 : Value}
    (a18 : PySem.W.nsIn K mainGlobals "_law_is_int" = some (some (.ref f18))) (l18 : K.lookup f18 = some ⟨oc18, od18, .func (PySem.W.fnOf "_law_is_int" "_law_is_int" (defArgs s__law_is_int) (defBody s__law_is_int) (defScope s__law_is_int) .none kV18 dc18 pm18 an18 cd18 ct18), sl18⟩) (c18 : PySem.W.codeIn K cd18 "_law_is_int" = true) (k18 : PySem.W.keepIn K (.ref f18) = true)
    {f19 : Addr} {od19 an19 : Option Addr} {sl19 : Array (Option Value)} {oc19 kV19 dc19 pm19 cd19 ct19 : Value}
    (a19 : PySem.W.nsIn K mainGlobals "_law_is_lot" = some (some (.ref f19))) (l19 : K.lookup f19 = some ⟨oc19, od19, .func (PySem.W.fnOf "_law_is_lot" "_law_is_lot" (defArgs s__law_is_lot) (defBody s__law_is_lot) (defScope s__law_is_lot) .none kV19 dc19 pm19 an19 cd19 ct19), sl19⟩) (c19 : PySem.W.codeIn K cd19 "_law_is_lot" = true) (k19 : PySem.W.keepIn K (.ref f19) = true)
    {f20 : Addr} {od20 an20 : Option Addr} {sl20 : Array (Option Value)} {oc20 kV20 dc20 pm20 cd20 ct20 : Value}
    (a20 : PySem.W.nsIn K mainGlobals "_law_pairs" = some (some (.ref f20))) (l20 : K.lookup f20 = some ⟨oc20, od20, .func (PySem.W.fnOf "_law_pairs" "_law_pairs" (defArgs s__law_pairs) (defBody s__law_pairs) (defScope s__law_pairs) .none kV20 dc20 pm20 an20 cd20 ct20), sl20⟩) (c20 : PySem.W.codeIn K cd20 "_law_pairs" = true) (k20 : PySem.W.keepIn K (.ref f20) = true)
    {f21 : Addr} {od21 an21 : Option Addr} {sl21 : Array (Option Value)} {oc21 kV21 dc21 pm21 cd21 ct21 : Value}
    (a21 : PySem.W.nsIn K mainGlobals "_law_lot" = some (some (.ref f21))) (l21 : K.lookup f21 = some ⟨oc21, od21, .func (PySem.W.fnOf "_law_lot" "_law_lot" (defArgs s__law_lot) (defBody s__law_lot) (defScope s__law_lot) .none kV21 dc21 pm21 an21 cd21 ct21), sl21⟩) (c21 : PySem.W.codeIn K cd21 "_law_lot" = true) (k21 : PySem.W.keepIn K (.ref f21) = true)
    {f22 : Addr} {od22 an22 : Option Addr} {sl22 : Array (Option Value)} {oc22 kV22 dc22 pm22 cd22 ct22 : Value}
    (a22 : PySem.W.nsIn K mainGlobals "_law_free" = some (some (.ref f22))) (l22 : K.lookup f22 = some ⟨oc22, od22, .func (PySem.W.fnOf "_law_free" "_law_free" (defArgs s__law_free) (defBody s__law_free) (defScope s__law_free) .none kV22 dc22 pm22 an22 cd22 ct22), sl22⟩) (c22 : PySem.W.codeIn K cd22 "_law_free" = true) (k22 : PySem.W.keepIn K (.ref f22) = true)
    {f23 : Addr} {od23 an23 : Option Addr} {sl23 : Array (Option Value)} {oc23 kV23 dc23 pm23 cd23 ct23 : Value}
    (a23 : PySem.W.nsIn K mainGlobals "_law_leads" = some (some (.ref f23))) (l23 : K.lookup f23 = some ⟨oc23, od23, .func (PySem.W.fnOf "_law_leads" "_law_leads" (defArgs s__law_leads) (defBody s__law_leads) (defScope s__law_leads) .none kV23 dc23 pm23 an23 cd23 ct23), sl23⟩) (c23 : PySem.W.codeIn K cd23 "_law_leads" = true) (k23 : PySem.W.keepIn K (.ref f23) = true)
    {f24 : Addr} {od24 an24 : Option Addr} {sl24 : Array (Option Value)} {oc24 kV24 dc24 pm24 cd24 ct24 : Value}
    (a24 : PySem.W.nsIn K mainGlobals "law" = some (some (.ref f24))) (l24 : K.lookup f24 = some ⟨oc24, od24, .func (PySem.W.fnOf "law" "law" (defArgs s_law) (defBody s_law) (defScope s_law) .none kV24 dc24 pm24 an24 cd24 ct24), sl24⟩) (c24 : PySem.W.codeIn K cd24 "law" = true) (k24 : PySem.W.keepIn K (.ref f24) = true)
    (z_abs : PySem.W.nsIn K mainGlobals "abs" = some none)
    (z_bool : PySem.W.nsIn K mainGlobals "bool" = some none)
    (z_dict : PySem.W.nsIn K mainGlobals "dict" = some none)
    (z_enumerate : PySem.W.nsIn K mainGlobals "enumerate" = some none)
    (z_int : PySem.W.nsIn K mainGlobals "int" = some none)
    (z_isinstance : PySem.W.nsIn K mainGlobals "isinstance" = some none)
    (z_len : PySem.W.nsIn K mainGlobals "len" = some none)
    (z_list : PySem.W.nsIn K mainGlobals "list" = some none)
    (z_max : PySem.W.nsIn K mainGlobals "max" = some none)
    (z_range : PySem.W.nsIn K mainGlobals "range" = some none)
    (z_repr : PySem.W.nsIn K mainGlobals "repr" = some none)
    (z_set : PySem.W.nsIn K mainGlobals "set" = some none)
    (z_sorted : PySem.W.nsIn K mainGlobals "sorted" = some none)
    (z_sum : PySem.W.nsIn K mainGlobals "sum" = some none)
    (z_tuple : PySem.W.nsIn K mainGlobals "tuple" = some none)
    (z_zip : PySem.W.nsIn K mainGlobals "zip" = some none)
    : ∃ fd : FuncData, (∀ (s : Shared) (v : Value), BindsTo s fd ⟨[v], []⟩ [("script", v)]) ∧ ∀ base : Heap, K.In base → base.Ns mainGlobals mg → FnG l.prog w K mg base 5 fa fd ["script"] (spLaw K) := by
  have T : Tx K mg := ⟨PySem.W.mg_none_of X G z_abs, PySem.W.mg_none_of X G z_bool, PySem.W.mg_none_of X G z_dict, PySem.W.mg_none_of X G z_enumerate, PySem.W.mg_none_of X G z_int, PySem.W.mg_none_of X G z_isinstance, PySem.W.mg_none_of X G z_len, PySem.W.mg_none_of X G z_list, PySem.W.mg_none_of X G z_max, PySem.W.mg_none_of X G z_range, PySem.W.mg_none_of X G z_repr, PySem.W.mg_none_of X G z_set, PySem.W.mg_none_of X G z_sorted, PySem.W.mg_none_of X G z_sum, PySem.W.mg_none_of X G z_tuple, PySem.W.mg_none_of X G z_zip, ⟨_, _, PySem.W.mg_of X G a0, fun_mk l0 c0 k0⟩, ⟨_, _, PySem.W.mg_of X G a1, fun_mk l1 c1 k1⟩, ⟨_, _, PySem.W.mg_of X G a2, fun_mk l2 c2 k2⟩, ⟨_, _, PySem.W.mg_of X G a3, fun_mk l3 c3 k3⟩, ⟨_, _, PySem.W.mg_of X G a4, fun_mk l4 c4 k4⟩, ⟨_, _, PySem.W.mg_of X G a5, fun_mk l5 c5 k5⟩, ⟨_, _, PySem.W.mg_of X G a6, fun_mk l6 c6 k6⟩, ⟨_, _, PySem.W.mg_of X G a7, fun_mk l7 c7 k7⟩, ⟨_, _, PySem.W.mg_of X G a8, fun_mk l8 c8 k8⟩, ⟨_, _, PySem.W.mg_of X G a9, fun_mk l9 c9 k9⟩, ⟨_, _, PySem.W.mg_of X G a10, fun_mk l10 c10 k10⟩, ⟨_, _, PySem.W.mg_of X G a11, fun_mk l11 c11 k11⟩, ⟨_, _, PySem.W.mg_of X G a12, fun_mk l12 c12 k12⟩, ⟨_, _, PySem.W.mg_of X G a13, fun_mk l13 c13 k13⟩, ⟨_, _, PySem.W.mg_of X G a14, fun_mk l14 c14 k14⟩, ⟨_, _, PySem.W.mg_of X G a15, fun_mk l15 c15 k15⟩, ⟨_, _, PySem.W.mg_of X G a16, fun_mk l16 c16 k16⟩, ⟨_, _, PySem.W.mg_of X G a17, fun_mk l17 c17 k17⟩, ⟨_, _, PySem.W.mg_of X G a18, fun_mk l18 c18 k18⟩, ⟨_, _, PySem.W.mg_of X G a19, fun_mk l19 c19 k19⟩, ⟨_, _, PySem.W.mg_of X G a20, fun_mk l20 c20 k20⟩, ⟨_, _, PySem.W.mg_of X G a21, fun_mk l21 c21 k21⟩, ⟨_, _, PySem.W.mg_of X G a22, fun_mk l22 c22 k22⟩, ⟨_, _, PySem.W.mg_of X G a23, fun_mk l23 c23 k23⟩, ⟨_, _, PySem.W.mg_of X G a24, fun_mk l24 c24 k24⟩⟩
  have e := hfa.symm.trans (PySem.W.mg_of X G a24)
  cases e
  refine ⟨PySem.W.fnOf "law" "law" (defArgs s_law) (defBody s_law) (defScope s_law) .none kV24 dc24 pm24 an24 cd24 ct24, fun s v => .of_eq rfl, fun base _ _ => ?_⟩
  exact fn_law (P := l.prog) (w := w) (base := base) T (fun_mk l24 c24 k24)
end Z
open PySem PySem.W PyProof.Rows
set_option maxHeartbeats 0 in
theorem PySem.Challenge.cw_spancodes_k41_span_lots_holds : PySem.Challenge.rw_spancodes_k41_span_lots.Holds := by
  w_on; o_law; k_head; (case hw => w_witness2)
  k_fill
  refine Z.walkG (l := PySem.Challenge.rw_spancodes_k41_span_lots) (n := 63) (k := 5) (x := "script") (sp := Z.spLaw) rfl (Z.lim_ok (by decide)) rfl ⟨rfl, by decide, by decide⟩ (fun w h Y => PySem.W.kIn_of Y) ?F (fun K H a ns hl _ hS => ⟨a, ns, rfl, hS, hl, fun _ => rfl⟩)
  case F =>
    intro w mg fa h KX G hmg
    refine' Z.all_mk KX G hmg ?a0 ?l0 ?c0 ?k0 ?a1 ?l1 ?c1 ?k1 ?a2 ?l2 ?c2 ?k2 ?a3 ?l3 ?c3 ?k3 ?a4 ?l4 ?c4 ?k4 ?a5 ?l5 ?c5 ?k5 ?a6 ?l6 ?c6 ?k6 ?a7 ?l7 ?c7 ?k7 ?a8 ?l8 ?c8 ?k8 ?a9 ?l9 ?c9 ?k9 ?a10 ?l10 ?c10 ?k10 ?a11 ?l11 ?c11 ?k11 ?a12 ?l12 ?c12 ?k12 ?a13 ?l13 ?c13 ?k13 ?a14 ?l14 ?c14 ?k14 ?a15 ?l15 ?c15 ?k15 ?a16 ?l16 ?c16 ?k16 ?a17 ?l17 ?c17 ?k17 ?a18 ?l18 ?c18 ?k18 ?a19 ?l19 ?c19 ?k19 ?a20 ?l20 ?c20 ?k20 ?a21 ?l21 ?c21 ?k21 ?a22 ?l22 ?c22 ?k22 ?a23 ?l23 ?c23 ?k23 ?a24 ?l24 ?c24 ?k24 ?z_abs ?z_bool ?z_dict ?z_enumerate ?z_int ?z_isinstance ?z_len ?z_list ?z_max ?z_range ?z_repr ?z_set ?z_sorted ?z_sum ?z_tuple ?z_zip
    (case a0 => k_is)
    (case l0 => k_is)
    (case c0 => k_is)
    (case k0 => k_is)
    (case a1 => k_is)
    (case l1 => k_is)
    (case c1 => k_is)
    (case k1 => k_is)
    (case a2 => k_is)
    (case l2 => k_is)
    (case c2 => k_is)
    (case k2 => k_is)
    (case a3 => k_is)
    (case l3 => k_is)
    (case c3 => k_is)
    (case k3 => k_is)
    (case a4 => k_is)
    (case l4 => k_is)
    (case c4 => k_is)
    (case k4 => k_is)
    (case a5 => k_is)
    (case l5 => k_is)
    (case c5 => k_is)
    (case k5 => k_is)
    (case a6 => k_is)
    (case l6 => k_is)
    (case c6 => k_is)
    (case k6 => k_is)
    (case a7 => k_is)
    (case l7 => k_is)
    (case c7 => k_is)
    (case k7 => k_is)
    (case a8 => k_is)
    (case l8 => k_is)
    (case c8 => k_is)
    (case k8 => k_is)
    (case a9 => k_is)
    (case l9 => k_is)
    (case c9 => k_is)
    (case k9 => k_is)
    (case a10 => k_is)
    (case l10 => k_is)
    (case c10 => k_is)
    (case k10 => k_is)
    (case a11 => k_is)
    (case l11 => k_is)
    (case c11 => k_is)
    (case k11 => k_is)
    (case a12 => k_is)
    (case l12 => k_is)
    (case c12 => k_is)
    (case k12 => k_is)
    (case a13 => k_is)
    (case l13 => k_is)
    (case c13 => k_is)
    (case k13 => k_is)
    (case a14 => k_is)
    (case l14 => k_is)
    (case c14 => k_is)
    (case k14 => k_is)
    (case a15 => k_is)
    (case l15 => k_is)
    (case c15 => k_is)
    (case k15 => k_is)
    (case a16 => k_is)
    (case l16 => k_is)
    (case c16 => k_is)
    (case k16 => k_is)
    (case a17 => k_is)
    (case l17 => k_is)
    (case c17 => k_is)
    (case k17 => k_is)
    (case a18 => k_is)
    (case l18 => k_is)
    (case c18 => k_is)
    (case k18 => k_is)
    (case a19 => k_is)
    (case l19 => k_is)
    (case c19 => k_is)
    (case k19 => k_is)
    (case a20 => k_is)
    (case l20 => k_is)
    (case c20 => k_is)
    (case k20 => k_is)
    (case a21 => k_is)
    (case l21 => k_is)
    (case c21 => k_is)
    (case k21 => k_is)
    (case a22 => k_is)
    (case l22 => k_is)
    (case c22 => k_is)
    (case k22 => k_is)
    (case a23 => k_is)
    (case l23 => k_is)
    (case c23 => k_is)
    (case k23 => k_is)
    (case a24 => k_is)
    (case l24 => k_is)
    (case c24 => k_is)
    (case k24 => k_is)
    (case z_abs => k_is)
    (case z_bool => k_is)
    (case z_dict => k_is)
    (case z_enumerate => k_is)
    (case z_int => k_is)
    (case z_isinstance => k_is)
    (case z_len => k_is)
    (case z_list => k_is)
    (case z_max => k_is)
    (case z_range => k_is)
    (case z_repr => k_is)
    (case z_set => k_is)
    (case z_sorted => k_is)
    (case z_sum => k_is)
    (case z_tuple => k_is)
    (case z_zip => k_is)
