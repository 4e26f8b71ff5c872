import PyProof.Rows.All
import Wide.All
import OpenK.AllK
import Wide.FinOn
import HandS.ForMost
import HandS.ForExc
import HandS.Defaults
import HandS.Conv
import HandS.Flow
import HandS.Style
import HandS.TupAny
import HandS.TupMul
import HandS.TryMany
import HandS.IsInst
import HandS.Wide
import HandS.SortInts
import HandS.HeadHook3
import HandS.Strs
import HandS.Iter
import KE.GoesEnum
import KE.KTupSum
import HandS.Head0
import HandS.Head1
import HandS.Head2
import HandS.HeadEnd
import HandS.HeadHook1
import HandS.HeadHook2
import PySem.Challenge.RW_queuehold_k04_rows
set_option Elab.async false
set_option linter.all false
set_option maxRecDepth 100000
set_option maxHeartbeats 4000000
/-! G1: the ghost store: data, cells, worlds; what a value denotes. -/
namespace G
open PySem PySem.Spec PyProof.Rows L2

/-- data; ref k: the mutable object number k -/
inductive D where
  | non | bl (b : Bool) | int (i : Int) | str (x : Str) | ref (k : Nat) | tup (ds : List D) | lst (ds : List D) | scr (ns : List Int)
/-- what a mutable object holds; lock: a dict while it is walked -/
inductive Cell where
  | ins (C : Str) (fs : List (Str × D)) | dict (kvs : List (Key × D)) | lock (kvs : List (Key × D)) | list (ds : List D) | xtup (ss : List Str) | dead
abbrev Store := List Cell
abbrev Env' := List (Option D)
/-- whose an object is -/
inductive Col where
  | data | tmp | cell (k : Nat)
  deriving DecidableEq
structure Gw where
  n : Nat
  ι : Nat → Addr
  own : Addr → Col
  H : Hp

/-- a tuple of texts, just as it was laid -/
def XTo (h : Heap) (a : Addr) (ss : List Str) : Prop := ∃ (its : List Value) (n : Nat) (sl : Array (Option Value)), h.get? a = some ⟨.type "tuple", none, .seq its.toArray n, sl⟩ ∧ Vals (ss.map V.str) its
/-- a list, a tuple of the written part -/
def KL (K : PySem.W.Frag) (a : Addr) (xs : List V) : Prop := ∃ (o : Obj) (its : Array Value) (n : Nat), K.lookup a = some o ∧ o.cls = .type "list" ∧ o.dict = none ∧ o.data = .seq its n ∧ its.size ≤ sizeLine ∧ Vals xs its.toList
def KT (K : PySem.W.Frag) (a : Addr) (xs : List V) : Prop := ∃ (o : Obj) (its : Array Value) (n : Nat), K.lookup a = some o ∧ o.cls = .type "tuple" ∧ o.data = .seq its n ∧ its.size ≤ sizeLine ∧ Vals xs its.toList
def DLst (K : PySem.W.Frag) (g : Gw) (a : Addr) (xs : List V) : Prop := g.H a = some (.lst xs) ∧ g.own a = .data
def DScr (K : PySem.W.Frag) (g : Gw) (a : Addr) (xs : List V) : Prop := (Rd g.H a (.lst xs) ∧ g.own a = .data) ∨ KL K a xs
theorem DScr.sq {K : PySem.W.Frag} {g : Gw} {a : Addr} {xs : List V} (h : DScr K g a xs) : SqL K g.H a xs := h.elim (fun z => .inl z.1) .inr
def DTup (K : PySem.W.Frag) (g : Gw) (a : Addr) (xs : List V) : Prop := (Rd g.H a (.tup xs) ∧ g.own a = .data) ∨ KT K a xs
theorem DLst.sq {K : PySem.W.Frag} {g : Gw} {a : Addr} {xs : List V} (h : DLst K g a xs) : SqL K g.H a xs := .inl (.inl h.1)
theorem DTup.sq {K : PySem.W.Frag} {g : Gw} {a : Addr} {xs : List V} (h : DTup K g a xs) : SqT K g.H a xs := h.elim (fun z => .inl z.1) .inr

mutual
/-- v denotes d -/
inductive Dt (K : PySem.W.Frag) (g : Gw) : V → D → Prop
  | non : Dt K g .non .non
  | bl (b : Bool) : Dt K g (.bl b) (.bl b)
  | int (i : Int) : Dt K g (.int i) (.int i)
  | str (x : Str) : Dt K g (.str x) (.str x)
  | ref {k : Nat} (h : k < g.n) : Dt K g (.ref (g.ι k)) (.ref k)
  | tup {a : Addr} {xs : List V} {ds : List D} (h : DTup K g a xs) (l : DtL K g xs ds) : Dt K g (.ref a) (.tup ds)
  | lst {a : Addr} {xs : List V} {ds : List D} (h : DLst K g a xs) (l : DtL K g xs ds) : Dt K g (.ref a) (.lst ds)
  | scr {a : Addr} {ns : List Int} (h : DScr K g a (ns.map V.int)) : Dt K g (.ref a) (.scr ns)
inductive DtL (K : PySem.W.Frag) (g : Gw) : List V → List D → Prop
  | nil : DtL K g [] []
  | cons {v : V} {vs : List V} {d : D} {ds : List D} (h : Dt K g v d) (r : DtL K g vs ds) : DtL K g (v :: vs) (d :: ds)
end

/-- from world to world: data and temporaries stay, ids stay -/
structure Ext (g g' : Gw) : Prop where
  n : g.n ≤ g'.n
  ι : ∀ k, k < g.n → g'.ι k = g.ι k
  keep : ∀ a o, g.H a = some o → (g.own a = .data ∨ g.own a = .tmp) → g'.H a = some o ∧ g'.own a = g.own a
theorem Ext.refl (g : Gw) : Ext g g := ⟨Nat.le_refl _, fun _ _ => rfl, fun _ _ h _ => ⟨h, rfl⟩⟩
theorem Ext.trans {a b c : Gw} (x : Ext a b) (y : Ext b c) : Ext a c :=
  ⟨Nat.le_trans x.n y.n, fun k hk => (y.ι k (Nat.lt_of_lt_of_le hk x.n)).trans (x.ι k hk), fun p o h w => by
    obtain ⟨h1, w1⟩ := x.keep p o h w
    obtain ⟨h2, w2⟩ := y.keep p o h1 (by rw [w1]; exact w)
    exact ⟨h2, w2.trans w1⟩⟩
/-- the same of data alone -/
structure ExtD (g g' : Gw) : Prop where
  n : g.n ≤ g'.n
  ι : ∀ k, k < g.n → g'.ι k = g.ι k
  keep : ∀ a o, g.H a = some o → g.own a = .data → g'.H a = some o ∧ g'.own a = .data
theorem Ext.d {g g' : Gw} (e : Ext g g') : ExtD g g' := ⟨e.n, e.ι, fun a o h w => let ⟨h1, w1⟩ := e.keep a o h (.inl w); ⟨h1, w1.trans w⟩⟩
section
variable {K : PySem.W.Frag} {g g' : Gw}
theorem Rd.extD {a : Addr} {u : HO} (e : ExtD g g') (h : Rd g.H a u) (w : g.own a = .data) : Rd g'.H a u ∧ g'.own a = .data := by
  rcases h with h | ⟨o, h⟩
  · obtain ⟨h1, w1⟩ := e.keep a _ h w
    exact ⟨.inl h1, w1⟩
  · obtain ⟨h1, w1⟩ := e.keep a _ h w
    exact ⟨.inr ⟨o, h1⟩, w1⟩
theorem DLst.extD {a : Addr} {xs : List V} (e : ExtD g g') (h : DLst K g a xs) : DLst K g' a xs := e.keep a _ h.1 h.2
theorem DScr.extD {a : Addr} {xs : List V} (e : ExtD g g') (h : DScr K g a xs) : DScr K g' a xs := h.elim (fun z => .inl (Rd.extD e z.1 z.2)) .inr
theorem DTup.extD {a : Addr} {xs : List V} (e : ExtD g g') (h : DTup K g a xs) : DTup K g' a xs := h.elim (fun z => .inl (Rd.extD e z.1 z.2)) .inr
theorem DLst.ext {a : Addr} {xs : List V} (e : Ext g g') (h : DLst K g a xs) : DLst K g' a xs := h.extD e.d
theorem DScr.ext {a : Addr} {xs : List V} (e : Ext g g') (h : DScr K g a xs) : DScr K g' a xs := h.extD e.d
theorem DTup.ext {a : Addr} {xs : List V} (e : Ext g g') (h : DTup K g a xs) : DTup K g' a xs := h.extD e.d
mutual
theorem Dt.extD (e : ExtD g g') : ∀ {v : V} {d : D}, Dt K g v d → Dt K g' v d
  | _, _, .non => .non
  | _, _, .bl b => .bl b
  | _, _, .int i => .int i
  | _, _, .str x => .str x
  | _, _, .ref (k := k) h => by
    have q := e.ι k h
    rw [← q]
    exact .ref (Nat.lt_of_lt_of_le h e.n)
  | _, _, .tup h l => .tup (h.extD e) (DtL.extD e l)
  | _, _, .lst h l => .lst (h.extD e) (DtL.extD e l)
  | _, _, .scr h => .scr (h.extD e)
theorem DtL.extD (e : ExtD g g') : ∀ {vs : List V} {ds : List D}, DtL K g vs ds → DtL K g' vs ds
  | _, _, .nil => .nil
  | _, _, .cons h r => .cons (Dt.extD e h) (DtL.extD e r)
end
theorem Dt.ext (e : Ext g g') {v : V} {d : D} (h : Dt K g v d) : Dt K g' v d := h.extD e.d
theorem DtL.ext (e : Ext g g') {vs : List V} {ds : List D} (h : DtL K g vs ds) : DtL K g' vs ds := h.extD e.d
theorem DtL.len : ∀ {vs : List V} {ds : List D}, DtL K g vs ds → vs.length = ds.length
  | _, _, .nil => rfl
  | _, _, .cons _ r => congrArg Nat.succ (DtL.len r)
theorem DtL.get : ∀ {vs : List V} {ds : List D} {i : Nat} {d : D}, DtL K g vs ds → ds[i]? = some d → ∃ v, vs[i]? = some v ∧ Dt K g v d
  | _, _, _, _, .nil, e => by simp at e
  | _, _, 0, _, .cons h _, e => by simp at e; subst e; exact ⟨_, rfl, h⟩
  | _, _, i + 1, d, .cons _ r, e => by
    obtain ⟨v, h1, h2⟩ := DtL.get (i := i) (d := d) r (by simpa using e)
    exact ⟨v, by simpa using h1, h2⟩
theorem DtL.getV : ∀ {vs : List V} {ds : List D} {i : Nat} {v : V}, DtL K g vs ds → vs[i]? = some v → ∃ d, ds[i]? = some d ∧ Dt K g v d
  | _, _, _, _, .nil, e => by simp at e
  | _, _, 0, _, .cons h _, e => by simp at e; subst e; exact ⟨_, rfl, h⟩
  | _, _, i + 1, d, .cons _ r, e => by
    obtain ⟨v, h1, h2⟩ := DtL.getV (i := i) (v := d) r (by simpa using e)
    exact ⟨v, by simpa using h1, h2⟩
theorem DtL.append : ∀ {vs ws : List V} {ds es : List D}, DtL K g vs ds → DtL K g ws es → DtL K g (vs ++ ws) (ds ++ es)
  | _, _, _, _, .nil, s => s
  | _, _, _, _, .cons h r, s => .cons h (DtL.append r s)
theorem DtL.take : ∀ {vs : List V} {ds : List D} (n : Nat), DtL K g vs ds → DtL K g (vs.take n) (ds.take n)
  | _, _, 0, _ => .nil
  | _, _, _ + 1, .nil => .nil
  | _, _, n + 1, .cons h r => .cons h (DtL.take n r)
theorem DtL.drop : ∀ {vs : List V} {ds : List D} (n : Nat), DtL K g vs ds → DtL K g (vs.drop n) (ds.drop n)
  | _, _, 0, r => r
  | _, _, _ + 1, .nil => .nil
  | _, _, n + 1, .cons _ r => DtL.drop n r
theorem DtL.reverse : ∀ {vs : List V} {ds : List D}, DtL K g vs ds → DtL K g vs.reverse ds.reverse
  | _, _, .nil => .nil
  | _, _, .cons h r => by
    rw [List.reverse_cons, List.reverse_cons]
    exact DtL.append (DtL.reverse r) (.cons h .nil)
theorem DtL.snoc {vs : List V} {ds : List D} {v : V} {d : D} (h : DtL K g vs ds) (x : Dt K g v d) : DtL K g (vs ++ [v]) (ds ++ [d]) := h.append (.cons x .nil)
theorem DtL.ints : ∀ (ns : List Int), DtL K g (ns.map V.int) (ns.map D.int)
  | [] => .nil
  | n :: r => .cons (.int n) (DtL.ints r)
theorem DtL.ints_eq : ∀ {ns : List Int} {xs : List V}, DtL K g xs (ns.map D.int) → xs = ns.map V.int
  | [], _, h => by cases h; rfl
  | n :: r, _, h => by
    cases h with
    | cons h1 h2 =>
      cases h1
      rw [DtL.ints_eq h2]
      rfl
end

/-! ### cells -/
section
variable (K : PySem.W.Frag) (g : Gw)
def FldR : List (Str × V) → List (Str × D) → Prop := Paired fun p q => p.1 = q.1 ∧ Dt K g p.2 q.2
def KvR : List (Key × V) → List (Key × D) → Prop := Paired fun p q => p.1 = q.1 ∧ Dt K g p.2 q.2
def CellOk (k : Nat) : Cell → Prop
  | .ins C fs => g.own (g.ι k) = .cell k ∧ ∃ dx fv, g.H (g.ι k) = some (.ins (He.ga K C) dx fv) ∧ FldR K g fv fs
  | .dict kvs => g.own (g.ι k) = .cell k ∧ ∃ kv, g.H (g.ι k) = some (.dK kv) ∧ KvR K g kv kvs
  | .lock kvs => g.own (g.ι k) = .cell k ∧ ∃ kv, Rd g.H (g.ι k) (.dK kv) ∧ KvR K g kv kvs
  | .list ds => g.own (g.ι k) = .cell k ∧ ∃ xs, g.H (g.ι k) = some (.lst xs) ∧ DtL K g xs ds
  | .xtup ss => g.own (g.ι k) = .cell k ∧ ∃ φ, g.H (g.ι k) = some (.ext φ) ∧ ∀ h, φ h → XTo h (g.ι k) ss
  | .dead => True
structure Wo (L : Store) : Prop where
  n : g.n = L.length
  at_ : ∀ k c, L[k]? = some c → CellOk K g k c
def EnvOk (σ : L2.St) (δ : Env') : Prop := σ.length = δ.length ∧ ∀ (i : Nat) (d : D), δ[i]? = some (some d) → ∃ v, σ[i]? = some (some v) ∧ Dt K g v d
end
section
variable {K : PySem.W.Frag} {g g' : Gw} {L : Store} {σ : L2.St} {δ : Env'}
theorem FldR.extD (e : ExtD g g') : ∀ {a b}, FldR K g a b → FldR K g' a b
  | _, _, .nil => .nil
  | _, _, .cons h r => .cons ⟨h.1, h.2.extD e⟩ (FldR.extD e r)
theorem KvR.extD (e : ExtD g g') : ∀ {a b}, KvR K g a b → KvR K g' a b
  | _, _, .nil => .nil
  | _, _, .cons h r => .cons ⟨h.1, h.2.extD e⟩ (KvR.extD e r)
theorem EnvOk.extD (e : ExtD g g') (h : EnvOk K g σ δ) : EnvOk K g' σ δ := ⟨h.1, fun i d q => by
  obtain ⟨v, h1, h2⟩ := h.2 i d q
  exact ⟨v, h1, h2.extD e⟩⟩
/-- a cell stays: its own object does -/
theorem CellOk.stayD {k : Nat} {c : Cell} (e : ExtD g g') (hk : k < g.n) (st : ∀ o, g.own (g.ι k) = .cell k → g.H (g.ι k) = some o → g'.H (g.ι k) = some o ∧ g'.own (g.ι k) = .cell k) (h : CellOk K g k c) : CellOk K g' k c := by
  have ei := e.ι k hk
  cases c with
  | ins C fs =>
    obtain ⟨w, dx, fv, h1, h2⟩ := h
    obtain ⟨q1, q2⟩ := st _ w h1
    exact ⟨by rw [ei]; exact q2, dx, fv, by rw [ei]; exact q1, h2.extD e⟩
  | dict kvs =>
    obtain ⟨w, kv, h1, h2⟩ := h
    obtain ⟨q1, q2⟩ := st _ w h1
    exact ⟨by rw [ei]; exact q2, kv, by rw [ei]; exact q1, h2.extD e⟩
  | lock kvs =>
    obtain ⟨w, kv, h1, h2⟩ := h
    rcases h1 with h1 | ⟨o, h1⟩
    · obtain ⟨q1, q2⟩ := st _ w h1
      exact ⟨by rw [ei]; exact q2, kv, .inl (by rw [ei]; exact q1), h2.extD e⟩
    · obtain ⟨q1, q2⟩ := st _ w h1
      exact ⟨by rw [ei]; exact q2, kv, .inr ⟨o, by rw [ei]; exact q1⟩, h2.extD e⟩
  | list ds =>
    obtain ⟨w, xs, h1, h2⟩ := h
    obtain ⟨q1, q2⟩ := st _ w h1
    exact ⟨by rw [ei]; exact q2, xs, by rw [ei]; exact q1, h2.extD e⟩
  | xtup ss =>
    obtain ⟨w, φ, h1, h2⟩ := h
    obtain ⟨q1, q2⟩ := st _ w h1
    exact ⟨by rw [ei]; exact q2, φ, by rw [ei]; exact q1, by rw [ei]; exact h2⟩
  | dead => trivial
theorem FldR.ext (e : Ext g g') {a b} (h : FldR K g a b) : FldR K g' a b := h.extD e.d
theorem KvR.ext (e : Ext g g') {a b} (h : KvR K g a b) : KvR K g' a b := h.extD e.d
theorem EnvOk.ext (e : Ext g g') (h : EnvOk K g σ δ) : EnvOk K g' σ δ := h.extD e.d
theorem CellOk.stay {k : Nat} {c : Cell} (e : Ext g g') (hk : k < g.n) (st : ∀ o, g.own (g.ι k) = .cell k → g.H (g.ι k) = some o → g'.H (g.ι k) = some o ∧ g'.own (g.ι k) = .cell k) (h : CellOk K g k c) : CellOk K g' k c := h.stayD e.d hk st
theorem Wo.lt (W : Wo K g L) {k : Nat} {c : Cell} (h : L[k]? = some c) : k < g.n := by
  rw [W.n]
  exact (List.getElem?_eq_some_iff.mp h).1
/-- a new object of color c at p -/
def Gw.push (g : Gw) (p : Addr) (c : Col) (o : HO) : Gw := ⟨g.n, g.ι, fun a => if a = p then c else g.own a, upd g.H p o⟩
theorem push_ext {p : Addr} {c : Col} {o : HO} (hp : g.H p = none) : Ext g (g.push p c o) := ⟨Nat.le_refl _, fun _ _ => rfl, fun a u h _ => by
  have ne : a ≠ p := ne_of_none h hp
  exact ⟨by show upd g.H p o a = _; rw [upd_ne ne]; exact h, by show (if a = p then c else g.own a) = _; rw [if_neg ne]⟩⟩
theorem Wo.push (W : Wo K g L) {p : Addr} {c : Col} {o : HO} (hp : g.H p = none) : Wo K (g.push p c o) L := ⟨W.n, fun k u h => (W.at_ k u h).stay (push_ext hp) (W.lt h) fun o' w e => by
  have ne : g.ι k ≠ p := ne_of_none e hp
  exact ⟨by show upd g.H p o (g.ι k) = _; rw [upd_ne ne]; exact e, by show (if g.ι k = p then c else g.own _) = _; rw [if_neg ne]; exact w⟩⟩
theorem push_own {p : Addr} {c : Col} {o : HO} : (g.push p c o).own p = c := if_pos rfl
theorem push_at {p : Addr} {c : Col} {o : HO} : (g.push p c o).H p = some o := upd_same
/-- a new cell, the object at p -/
def Gw.cell (g : Gw) (p : Addr) (o : HO) : Gw := ⟨g.n + 1, fun k => if k = g.n then p else g.ι k, fun a => if a = p then .cell g.n else g.own a, upd g.H p o⟩
theorem cell_ext {p : Addr} {o : HO} (hp : g.H p = none) : Ext g (g.cell p o) := ⟨Nat.le_succ _, fun k hk => by
  show (if k = g.n then p else g.ι k) = _
  rw [if_neg (Nat.ne_of_lt hk)], fun a u h _ => by
  have ne : a ≠ p := ne_of_none h hp
  exact ⟨by show upd g.H p o a = _; rw [upd_ne ne]; exact h, by show (if a = p then _ else g.own a) = _; rw [if_neg ne]⟩⟩
theorem cell_ι {p : Addr} {o : HO} : (g.cell p o).ι g.n = p := if_pos rfl
theorem cell_own {p : Addr} {o : HO} : (g.cell p o).own p = .cell g.n := if_pos rfl
theorem Wo.cell (W : Wo K g L) {p : Addr} {o : HO} {c : Cell} (hp : g.H p = none) (hc : CellOk K (g.cell p o) g.n c) : Wo K (g.cell p o) (L ++ [c]) := by
  refine ⟨by show g.n + 1 = _; rw [List.length_append, W.n]; rfl, fun k u h => ?_⟩
  by_cases hk : k < L.length
  · rw [List.getElem?_append_left hk] at h
    refine (W.at_ k u h).stay (cell_ext hp) (W.lt h) fun o' w e => ?_
    have ne : g.ι k ≠ p := ne_of_none e hp
    exact ⟨by show upd g.H p o (g.ι k) = _; rw [upd_ne ne]; exact e, by show (if g.ι k = p then _ else g.own _) = _; rw [if_neg ne]; exact w⟩
  · have e : k = L.length := by
      have := (List.getElem?_eq_some_iff.mp h).1
      rw [List.length_append] at this
      simp at this
      omega
    subst e
    rw [List.getElem?_append_right (Nat.le_refl _), Nat.sub_self] at h
    cases h
    rw [← W.n]
    exact hc
/-- the object of cell k is written -/
def Gw.put (g : Gw) (k : Nat) (o : HO) : Gw := ⟨g.n, g.ι, g.own, upd g.H (g.ι k) o⟩
theorem put_ext {k : Nat} {o : HO} (w : g.own (g.ι k) = .cell k) : Ext g (g.put k o) := ⟨Nat.le_refl _, fun _ _ => rfl, fun a u h z => by
  have ne : a ≠ g.ι k := by
    intro e
    rw [e, w] at z
    rcases z with z | z <;> cases z
  exact ⟨by show upd g.H _ o a = _; rw [upd_ne ne]; exact h, rfl⟩⟩
theorem Wo.put (W : Wo K g L) {k : Nat} {o : HO} {c c' : Cell} (h : L[k]? = some c) (w : g.own (g.ι k) = .cell k) (hc : CellOk K (g.put k o) k c') : Wo K (g.put k o) (L.set k c') := by
  refine ⟨by show g.n = _; rw [List.length_set]; exact W.n, fun j u q => ?_⟩
  by_cases hj : k = j
  · subst hj
    rw [List.getElem?_set_self (List.getElem?_eq_some_iff.mp h).1] at q
    cases q
    exact hc
  · rw [List.getElem?_set_ne hj] at q
    refine (W.at_ j u q).stay (put_ext w) (W.lt q) fun o' wj e => ?_
    have ne : g.ι j ≠ g.ι k := by
      intro z
      rw [z, w] at wj
      injection wj with wj
      exact hj wj
    exact ⟨by show upd g.H _ o _ = _; rw [upd_ne ne]; exact e, wj⟩
end
end G
set_option Elab.async false
set_option linter.all false
set_option maxRecDepth 100000
set_option maxHeartbeats 4000000
/-! G2: the judgements; names, constants, arithmetic, tests, tuples, lists; calls. -/
namespace G
open PySem PySem.Spec PyProof.Rows L2

/-- what is fixed of the program -/
structure Sta where
  P : Program
  w : World
  K : PySem.W.Frag
  mg : Str → Option Value
  base : Heap
/-- a body: its slots, its scope, the room left, whether nothing is handled -/
structure GC where
  N : List Str
  sc : Scope
  k : Nat
  c : Bool
structure Fit (T : Sta) (Γ : GC) (X : Cx) : Prop where
  P : X.prog = T.P
  w : X.w = T.w
  K : X.K = T.K
  mg : X.mg = T.mg
  base : X.base = T.base
  N : X.N = Γ.N
  sc : X.env.scope = Γ.sc
  calm : X.calm = Γ.c
  room : Γ.c = true → Room Γ.k X.A
  nd : X.N.Nodup
/-- a def's own body -/
structure FitF (T : Sta) (Γ : GC) (X : Cx) : Prop extends Fit T Γ X where
  stk : X.stack = X.env :: X.outer
  fr : X.env.frame = some X.env.locals
  ex : X.ex = []
  fn : ∀ x, X.fn x = true
  po : PassesOwn (model X.prog X.w) X.A X.env X.xe

/-! ### runs as readings -/
structure EXV (X : Cx) (e : Expr) (σ : L2.St) (H : Hp) (Q : VK) : Prop where
  run : ∀ (pins : List (Addr × Obj)) (s : Shared), Inv X pins σ H s → wpAny (model X.prog X.w) X.A (eval e X.env) (EP X pins σ Q) X.xe s
structure TXV (X : Cx) (e : Expr) (σ : L2.St) (H : Hp) (Q : Bool → Hp → Prop) : Prop where
  run : ∀ (pins : List (Addr × Obj)) (s : Shared), Inv X pins σ H s → wpAny (model X.prog X.w) X.A (isTrue e X.env (eval e X.env)) (TP X pins σ Q) X.xe s
structure WXV (X : Cx) (e : Expr) (σ : L2.St) (H : Hp) (Q : Bool → Hp → Prop) : Prop where
  run : ∀ (whole : Sem Value) (pins : List (Addr × Obj)) (s : Shared), Inv X pins σ H s → wpAny (model X.prog X.w) X.A (isTrue e X.env whole) (TP X pins σ Q) X.xe s
structure AXV (X : Cx) (es : List Expr) (σ : L2.St) (H : Hp) (Q : List V → Hp → Prop) : Prop where
  run : ∀ (pos : Pos) (pins : List (Addr × Obj)) (s : Shared), Inv X pins σ H s → wpAny (model X.prog X.w) X.A (spliced (backTo pos (starEach es X.env))) (AP X pins σ Q) X.xe s
structure SXV (X : Cx) (st : Stmt) (D : Ends) (σ : L2.St) (H : Hp) : Prop where
  run : ∀ (pins : List (Addr × Obj)) (s : Shared), Inv X pins σ H s → wpAny (model X.prog X.w) X.A (exec st X.env) (SP X pins D) X.xe s
structure BXV (X : Cx) (st : List Stmt) (D : Ends) (σ : L2.St) (H : Hp) : Prop where
  run : ∀ (pins : List (Addr × Obj)) (s : Shared), Inv X pins σ H s → wpAny (model X.prog X.w) X.A (execs st X.env) (SP X pins D) X.xe s
section
variable {X : Cx} {e : Expr} {es : List Expr} {st : Stmt} {sts : List Stmt} {σ : L2.St} {H : Hp}
theorem eself : PE X e (EXV X e) := ⟨fun pins s σ H Q I h => h.run pins s I⟩
theorem tself : PT X e (TXV X e) := ⟨fun pins s σ H Q I h => h.run pins s I⟩
theorem wself : PW X e (WXV X e) := ⟨fun wh pins s σ H Q I h => h.run wh pins s I⟩
theorem aself : PA X es (AXV X es) := ⟨fun pos pins s σ H Q I h => h.run pos pins s I⟩
theorem sself : PS X st (SXV X st) := ⟨fun pins s σ H D I h => h.run pins s I⟩
theorem bself : PSs X sts (BXV X sts) := ⟨fun pins s σ H D I h => h.run pins s I⟩
theorem eby {t : TE} {Q : VK} (p : PE X e t) (h : t σ H Q) : EXV X e σ H Q := ⟨fun pins s I => p.run pins s σ H Q I h⟩
theorem tby {t : TT} {Q : Bool → Hp → Prop} (p : PT X e t) (h : t σ H Q) : TXV X e σ H Q := ⟨fun pins s I => p.run pins s σ H Q I h⟩
theorem wby {t : TT} {Q : Bool → Hp → Prop} (p : PW X e t) (h : t σ H Q) : WXV X e σ H Q := ⟨fun wh pins s I => p.run wh pins s σ H Q I h⟩
theorem aby {t : TA} {Q : List V → Hp → Prop} (p : PA X es t) (h : t σ H Q) : AXV X es σ H Q := ⟨fun pos pins s I => p.run pos pins s σ H Q I h⟩
theorem sby {t : TS} {D : Ends} (p : PS X st t) (h : t D σ H) : SXV X st D σ H := ⟨fun pins s I => p.run pins s σ H D I h⟩
theorem bby {t : TS} {D : Ends} (p : PSs X sts t) (h : t D σ H) : BXV X sts D σ H := ⟨fun pins s I => p.run pins s σ H D I h⟩
end

/-! ### the judgements -/
section
variable (T : Sta) (Γ : GC)
/-- e gives d, the store goes from L to L' -/
def EV (e : Expr) (δ : Env') (L : Store) (d : D) (L' : Store) : Prop := ∀ X, Fit T Γ X → ∀ (g : Gw) (σ : L2.St), Wo T.K g L → EnvOk T.K g σ δ → ∀ Q : VK, (∀ v g', Ext g g' → Wo T.K g' L' → Dt T.K g' v d → Q v g'.H) → EXV X e σ g.H Q
/-- e raises C -/
def EX (e : Expr) (δ : Env') (L : Store) (C : Str) (L' : Store) : Prop := ∀ X, Fit T Γ X → ∀ W : WX, Takes X W → ∀ (g : Gw) (σ : L2.St), Wo T.K g L → EnvOk T.K g σ δ → (∀ g', Ext g g' → Wo T.K g' L' → W (.ref (He.ga T.K C)) none σ g'.H) → ∀ Q : VK, EXV X e σ g.H Q
def TV (e : Expr) (δ : Env') (L : Store) (b : Bool) (L' : Store) : Prop := ∀ X, Fit T Γ X → ∀ (g : Gw) (σ : L2.St), Wo T.K g L → EnvOk T.K g σ δ → ∀ Q : Bool → Hp → Prop, (∀ g', Ext g g' → Wo T.K g' L' → Q b g'.H) → TXV X e σ g.H Q
def WV (e : Expr) (δ : Env') (L : Store) (b : Bool) (L' : Store) : Prop := ∀ X, Fit T Γ X → ∀ (g : Gw) (σ : L2.St), Wo T.K g L → EnvOk T.K g σ δ → ∀ Q : Bool → Hp → Prop, (∀ g', Ext g g' → Wo T.K g' L' → Q b g'.H) → WXV X e σ g.H Q
def AV (es : List Expr) (δ : Env') (L : Store) (ds : List D) (L' : Store) : Prop := ∀ X, Fit T Γ X → ∀ (g : Gw) (σ : L2.St), Wo T.K g L → EnvOk T.K g σ δ → ∀ Q : List V → Hp → Prop, (∀ vs g', Ext g g' → Wo T.K g' L' → DtL T.K g' vs ds → Q vs g'.H) → AXV X es σ g.H Q
end
/-- how a body ends -/
inductive Oc where
  | nx (δ : Env') | rt (d : D) | bk (δ : Env') | ct (δ : Env') | ex (C : Str) (δ : Env')
/-- what must hold for an end o, L' from the world g -/
def PostS (K : PySem.W.Frag) (D : Ends) (W : WX) (g : Gw) (o : Oc) (L' : Store) : Prop := match o with
  | .nx δ => ∀ g' σ', Ext g g' → Wo K g' L' → EnvOk K g' σ' δ → D.nx σ' g'.H
  | .bk δ => ∀ g' σ', Ext g g' → Wo K g' L' → EnvOk K g' σ' δ → D.bk σ' g'.H
  | .ct δ => ∀ g' σ', Ext g g' → Wo K g' L' → EnvOk K g' σ' δ → D.ct σ' g'.H
  | .rt d => ∀ g' v, Ext g g' → Wo K g' L' → Dt K g' v d → D.rt v g'.H
  | .ex C δ => ∀ g' σ', Ext g g' → Wo K g' L' → EnvOk K g' σ' δ → W (.ref (He.ga K C)) none σ' g'.H
section
variable (T : Sta) (Γ : GC)
def S1 (st : Stmt) (δ : Env') (L : Store) (o : Oc) (L' : Store) : Prop := ∀ X, FitF T Γ X → ∀ W : WX, Takes X W → ∀ (g : Gw) (σ : L2.St), Wo T.K g L → EnvOk T.K g σ δ → ∀ D : Ends, PostS T.K D W g o L' → SXV X st D σ g.H
def SV (st : List Stmt) (δ : Env') (L : Store) (o : Oc) (L' : Store) : Prop := ∀ X, FitF T Γ X → ∀ W : WX, Takes X W → ∀ (g : Gw) (σ : L2.St), Wo T.K g L → EnvOk T.K g σ δ → ∀ D : Ends, PostS T.K D W g o L' → BXV X st D σ g.H
end
end G
set_option Elab.async false
set_option linter.all false
set_option maxRecDepth 100000
set_option maxHeartbeats 4000000
/-! G3: expressions. -/
namespace G
open PySem PySem.Spec PyProof.Rows L2
/-! ### names by their scope -/
def kindB (sc : Scope) (x : Str) (n : Nat) : Bool := match sc.names.lookup x with
  | some .local => decide (n ≤ 2)
  | some .cell => decide (n = 1 ∨ n = 0)
  | some .free => decide (n = 0)
  | some .globalImplicit => decide (n = 3)
  | _ => false
theorem vis_of {sc : Scope} {x : Str} (h : kindB sc x 0 = true) : Vis sc x := by
  unfold kindB at h
  unfold L2.Vis
  split at h <;> first | (rename_i e; rw [e]; simp; done) | cases h
theorem loc_of {sc : Scope} {x : Str} (h : kindB sc x 1 = true) : Loc sc x := by
  unfold kindB at h
  unfold L2.Loc
  split at h <;> first | (rename_i e; rw [e]; simp; done) | cases h
theorem lol_of {sc : Scope} {x : Str} (h : kindB sc x 2 = true) : sc.names.lookup x = some .local := by
  unfold kindB at h
  split at h <;> first | assumption | cases h
theorem gls_of {sc : Scope} {x : Str} (h : kindB sc x 3 = true) : sc.names.lookup x = some .globalImplicit := by
  unfold kindB at h
  split at h <;> first | assumption | cases h
/-! ### arguments without stars -/
def plainE : Expr → Bool
  | .Starred _ _ => false
  | _ => true
theorem star_cons {e : Expr} {es : List Expr} {env : Env} (h : plainE e = true) : starEach (e :: es) env = (false, eval e env) :: starEach es env := by
  cases e <;> first | rfl | cases h
theorem star_one {e : Expr} {env : Env} (h : plainE e = true) : starEach [e] env = [(false, eval e env)] := star_cons h
theorem star_any {pos : Pos} {env : Env} : ∀ {es : List Expr}, es.all plainE = true → (backTo pos (starEach es env)).any (·.1) = false
  | [], _ => rfl
  | e :: es, h => by
    rw [List.all_cons, Bool.and_eq_true] at h
    rw [star_cons h.1]
    exact star_any h.2
section
variable {T : Sta} {Γ : GC} {δ : Env'} {L M1 M2 M3 L' : Store}

/-! ### names, constants -/
theorem ev_name {x : Str} {pos : Pos} {d : D} (i : Nat) (hN : Γ.N[i]? = some x := by rfl) (hd : δ[i]? = some (some d) := by rfl) (hv : Vis Γ.sc x := by exact vis_of (by decide +kernel)) (h1 : (x == ("__debug__" : Str)) = false := by decide +kernel)
    (h2 : (x == ("__classdict__" : Str)) = false := by decide +kernel) : EV T Γ (.Name x pos) δ L d L := fun X F g σ W E Q q => by
  obtain ⟨v, e1, e2⟩ := E.2 i d hd
  exact eby (pe_var (by rw [F.N]; exact hN) (by rw [F.sc]; exact hv) h1 h2) ⟨v, e1, q v g (.refl g) W e2⟩
theorem ev_int {i : Int} {j : Nat} {pos : Pos} : EV T Γ (.Constant (.int i) j pos) δ L (.int i) L := fun X F g σ W E Q q => eby pe_int (q _ g (.refl g) W (.int i))
theorem ev_bl {b : Bool} {j : Nat} {pos : Pos} : EV T Γ (.Constant (.bool b) j pos) δ L (.bl b) L := fun X F g σ W E Q q => eby pe_bl (q _ g (.refl g) W (.bl b))
theorem ev_non {j : Nat} {pos : Pos} : EV T Γ (.Constant .none j pos) δ L .non L := fun X F g σ W E Q q => eby pe_non (q _ g (.refl g) W .non)
theorem ev_str {x : Str} {j : Nat} {pos : Pos} : EV T Γ (.Constant (.str x) j pos) δ L (.str x) L := fun X F g σ W E Q q => eby pe_str (q _ g (.refl g) W (.str x))
abbrev GlS (sc : Scope) (x : Str) : Prop := sc.names.lookup x = some .globalImplicit
theorem Fit.gl {X : Cx} (F : Fit T Γ X) {x : Str} (h : GlS Γ.sc x) : Gl X x := by
  show X.env.scope.names.lookup x = _
  rw [F.sc]
  exact h
theorem ev_glob {x : Str} {pos : Pos} {v : V} {u : Value} {d : D} (hm : T.mg x = some u) (r : RelV v u) (hd : ∀ g : Gw, Dt T.K g v d) (hg : GlS Γ.sc x := by exact gls_of (by decide +kernel)) (h1 : (x == ("__debug__" : Str)) = false := by decide +kernel) : EV T Γ (.Name x pos) δ L d L := fun X F g σ W E Q q =>
  eby (pe_glob (F.gl hg) (by rw [F.mg]; exact hm) r h1) (q v g (.refl g) W (hd g))

/-! ### operators -/
theorem ev_op {a b : Expr} {op : Operator} {pos : Pos} {x y d : D} (r : R2) (ho : ∀ X, Fit T Γ X → OpR X (binaryOp op) r) (ha : EV T Γ a δ L x M1) (hb : EV T Γ b δ M1 y M2)
    (hr : ∀ (g : Gw) v u, Wo T.K g M2 → Dt T.K g v x → Dt T.K g u y → ∀ Q : VK, (∀ z g', Ext g g' → Wo T.K g' M3 → Dt T.K g' z d → Q z g'.H) → r v u g.H Q) : EV T Γ (.BinOp a op b pos) δ L d M3 := fun X F g σ W E Q q => by
  refine eby (pe_op (ho X F) eself eself) ?_
  refine ha X F g σ W E _ fun v g1 e1 W1 d1 => ?_
  refine hb X F g1 σ W1 (E.ext e1) _ fun u g2 e2 W2 d2 => ?_
  exact hr g2 v u W2 (d1.ext e2) d2 Q fun z g3 e3 W3 d3 => q z g3 ((e1.trans e2).trans e3) W3 d3
theorem ev_cmp {a b : Expr} {op : CmpOp} {pos : Pos} {x y d : D} (r : R2) (ho : ∀ X, Fit T Γ X → OpR X (compareOp op) r) (ha : EV T Γ a δ L x M1) (hb : EV T Γ b δ M1 y M2)
    (hr : ∀ (g : Gw) v u, Wo T.K g M2 → Dt T.K g v x → Dt T.K g u y → ∀ Q : VK, (∀ z g', Ext g g' → Wo T.K g' M3 → Dt T.K g' z d → Q z g'.H) → r v u g.H Q) (hm : behindInMarks op b = false) : EV T Γ (.Compare a [op] [b] pos) δ L d M3 := fun X F g σ W E Q q => by
  refine eby (pe_cmpR (ho X F) eself eself hm) ?_
  refine ha X F g σ W E _ fun v g1 e1 W1 d1 => ?_
  refine hb X F g1 σ W1 (E.ext e1) _ fun u g2 e2 W2 d2 => ?_
  exact hr g2 v u W2 (d1.ext e2) d2 Q fun z g3 e3 W3 d3 => q z g3 ((e1.trans e2).trans e3) W3 d3
theorem tv_cmp {a b : Expr} {op : CmpOp} {pos : Pos} {x y : D} {k : Bool} (r : R2) (ho : ∀ X, Fit T Γ X → OpR X (compareOp op) r) (ha : EV T Γ a δ L x M1) (hb : EV T Γ b δ M1 y M2)
    (hr : ∀ (g : Gw) v u, Wo T.K g M2 → Dt T.K g v x → Dt T.K g u y → ∀ Q : VK, (∀ z g', Ext g g' → Wo T.K g' M3 → Dt T.K g' z (.bl k) → Q z g'.H) → r v u g.H Q) (hm : behindInMarks op b = false) : TV T Γ (.Compare a [op] [b] pos) δ L k M3 := fun X F g σ W E Q q => by
  refine tby (pt_cmpR (ho X F) eself eself hm) ?_
  refine ha X F g σ W E _ fun v g1 e1 W1 d1 => ?_
  refine hb X F g1 σ W1 (E.ext e1) _ fun u g2 e2 W2 d2 => ?_
  refine hr g2 v u W2 (d1.ext e2) d2 _ fun z g3 e3 W3 d3 => ?_
  cases d3
  exact ⟨k, rfl, q g3 ((e1.trans e2).trans e3) W3⟩
/-- a pure rule: the value alone -/
def Pu (T : Sta) (r : R2) (x y d : D) : Prop := ∀ (g : Gw) v u, Dt T.K g v x → Dt T.K g u y → ∀ Q : VK, (∀ z, Dt T.K g z d → Q z g.H) → r v u g.H Q
theorem Pu.to {r : R2} {x y d : D} (h : Pu T r x y d) : ∀ (g : Gw) v u, Wo T.K g L → Dt T.K g v x → Dt T.K g u y → ∀ Q : VK, (∀ z g', Ext g g' → Wo T.K g' L → Dt T.K g' z d → Q z g'.H) → r v u g.H Q :=
  fun g v u W a b Q q => h g v u a b Q fun z dz => q z g (.refl g) W dz
theorem pu_I0 {f : Int → Int → V} {k : Int → Int → D} (h : ∀ g i j, Dt T.K g (f i j) (k i j)) {i j : Int} : Pu T (rI0 f) (.int i) (.int j) (k i j) := fun g v u a b Q q => by
  cases a; cases b
  exact ⟨i, j, rfl, rfl, q _ (h g i j)⟩
theorem pu_I {C : Int → Int → Prop} {f : Int → Int → V} {k : Int → Int → D} (h : ∀ g i j, Dt T.K g (f i j) (k i j)) {i j : Int} (c : C i j) : Pu T (rI C f) (.int i) (.int j) (k i j) := fun g v u a b Q q => by
  cases a; cases b
  exact ⟨i, j, rfl, rfl, c, q _ (h g i j)⟩
section
variable {a b : Expr} {pos : Pos} {i j : Int}
theorem ev_add (ha : EV T Γ a δ L (.int i) M1) (hb : EV T Γ b δ M1 (.int j) M2) : EV T Γ (.BinOp a .Add b pos) δ L (.int (i + j)) M2 := ev_op _ (fun _ _ => op_add) ha hb (pu_I0 (k := fun i j => .int (i + j)) fun _ _ _ => .int _).to
theorem ev_sub (ha : EV T Γ a δ L (.int i) M1) (hb : EV T Γ b δ M1 (.int j) M2) : EV T Γ (.BinOp a .Sub b pos) δ L (.int (i - j)) M2 := ev_op _ (fun _ _ => op_sub) ha hb (pu_I0 (k := fun i j => .int (i - j)) fun _ _ _ => .int _).to
theorem ev_mul (ha : EV T Γ a δ L (.int i) M1) (hb : EV T Γ b δ M1 (.int j) M2) (h : CMul i j) : EV T Γ (.BinOp a .Mult b pos) δ L (.int (i * j)) M2 := ev_op _ (fun _ _ => op_mul) ha hb (pu_I (k := fun i j => .int (i * j)) (fun _ _ _ => .int _) h).to
theorem ev_mod (ha : EV T Γ a δ L (.int i) M1) (hb : EV T Γ b δ M1 (.int j) M2) (h : 0 < j) : EV T Γ (.BinOp a .Mod b pos) δ L (.int (i % j)) M2 := ev_op _ (fun _ _ => op_mod) ha hb (pu_I (C := fun _ j => 0 < j) (k := fun i j => .int (i % j)) (fun _ _ _ => .int _) h).to
theorem ev_div (ha : EV T Γ a δ L (.int i) M1) (hb : EV T Γ b δ M1 (.int j) M2) (h : CDiv i j) : EV T Γ (.BinOp a .FloorDiv b pos) δ L (.int (i / j)) M2 := ev_op _ (fun _ _ => op_fdiv) ha hb (pu_I (k := fun i j => .int (i / j)) (fun _ _ _ => .int _) h).to
theorem ev_pow (ha : EV T Γ a δ L (.int i) M1) (hb : EV T Γ b δ M1 (.int j) M2) (h : CPow i j) : EV T Γ (.BinOp a .Pow b pos) δ L (.int (i ^ j.toNat)) M2 := ev_op _ (fun _ _ => op_pow) ha hb (pu_I (k := fun i j => .int (i ^ j.toNat)) (fun _ _ _ => .int _) h).to
theorem ev_neg (ha : EV T Γ a δ L (.int i) M1) : EV T Γ (.UnaryOp .USub a pos) δ L (.int (-i)) M1 := fun X F g σ W E Q q => by
  refine eby (pe_un un_neg eself) ?_
  refine ha X F g σ W E _ fun v g1 e1 W1 d1 => ?_
  cases d1
  exact ⟨i, rfl, q _ g1 e1 W1 (.int _)⟩
theorem ev_addS {x y : Str} (ha : EV T Γ a δ L (.str x) M1) (hb : EV T Γ b δ M1 (.str y) M2) (h : x.length + y.length ≤ sizeLine) : EV T Γ (.BinOp a .Add b pos) δ L (.str (x ++ y)) M2 := ev_op _ (fun _ _ => op_add_str) ha hb fun g v u W a b Q q => by
  cases a; cases b
  exact ⟨x, y, rfl, rfl, h, q _ g (.refl g) W (.str _)⟩
/-! comparisons of ints: op_lt .. by the operator -/
def ropI : CmpOp → Int → Int → Bool
  | .Lt, i, j => decide (i < j)
  | .LtE, i, j => decide (i ≤ j)
  | .Gt, i, j => decide (j < i)
  | .GtE, i, j => decide (j ≤ i)
  | _, _, _ => false
theorem tv_lt (ha : EV T Γ a δ L (.int i) M1) (hb : EV T Γ b δ M1 (.int j) M2) : TV T Γ (.Compare a [.Lt] [b] pos) δ L (decide (i < j)) M2 := tv_cmp _ (fun _ _ => op_lt) ha hb (pu_I0 (k := fun i j => .bl (decide (i < j))) fun _ _ _ => .bl _).to (nomark _)
theorem tv_le (ha : EV T Γ a δ L (.int i) M1) (hb : EV T Γ b δ M1 (.int j) M2) : TV T Γ (.Compare a [.LtE] [b] pos) δ L (decide (i ≤ j)) M2 := tv_cmp _ (fun _ _ => op_le) ha hb (pu_I0 (k := fun i j => .bl (decide (i ≤ j))) fun _ _ _ => .bl _).to (nomark _)
theorem tv_gt (ha : EV T Γ a δ L (.int i) M1) (hb : EV T Γ b δ M1 (.int j) M2) : TV T Γ (.Compare a [.Gt] [b] pos) δ L (decide (j < i)) M2 := tv_cmp _ (fun _ _ => op_gt) ha hb (pu_I0 (k := fun i j => .bl (decide (j < i))) fun _ _ _ => .bl _).to (nomark _)
theorem tv_ge (ha : EV T Γ a δ L (.int i) M1) (hb : EV T Γ b δ M1 (.int j) M2) : TV T Γ (.Compare a [.GtE] [b] pos) δ L (decide (j ≤ i)) M2 := tv_cmp _ (fun _ _ => op_ge) ha hb (pu_I0 (k := fun i j => .bl (decide (j ≤ i))) fun _ _ _ => .bl _).to (nomark _)
theorem ev_lt (ha : EV T Γ a δ L (.int i) M1) (hb : EV T Γ b δ M1 (.int j) M2) : EV T Γ (.Compare a [.Lt] [b] pos) δ L (.bl (decide (i < j))) M2 := ev_cmp _ (fun _ _ => op_lt) ha hb (pu_I0 (k := fun i j => .bl (decide (i < j))) fun _ _ _ => .bl _).to (nomark _)
theorem ev_le (ha : EV T Γ a δ L (.int i) M1) (hb : EV T Γ b δ M1 (.int j) M2) : EV T Γ (.Compare a [.LtE] [b] pos) δ L (.bl (decide (i ≤ j))) M2 := ev_cmp _ (fun _ _ => op_le) ha hb (pu_I0 (k := fun i j => .bl (decide (i ≤ j))) fun _ _ _ => .bl _).to (nomark _)
theorem ev_gt (ha : EV T Γ a δ L (.int i) M1) (hb : EV T Γ b δ M1 (.int j) M2) : EV T Γ (.Compare a [.Gt] [b] pos) δ L (.bl (decide (j < i))) M2 := ev_cmp _ (fun _ _ => op_gt) ha hb (pu_I0 (k := fun i j => .bl (decide (j < i))) fun _ _ _ => .bl _).to (nomark _)
theorem ev_ge (ha : EV T Γ a δ L (.int i) M1) (hb : EV T Γ b δ M1 (.int j) M2) : EV T Γ (.Compare a [.GtE] [b] pos) δ L (.bl (decide (j ≤ i))) M2 := ev_cmp _ (fun _ _ => op_ge) ha hb (pu_I0 (k := fun i j => .bl (decide (j ≤ i))) fun _ _ _ => .bl _).to (nomark _)
/-- a <= b <= c of ints -/
theorem ev_chain {c : Expr} {op op' : CmpOp} {f f' : Int → Int → Bool} {l : Int} (ho : ∀ X : Cx, OpR X (compareOp op) (rI0 fun i j => .bl (f i j))) (ho' : ∀ X : Cx, OpR X (compareOp op') (rI0 fun i j => .bl (f' i j)))
    (ha : EV T Γ a δ L (.int i) M1) (hb : EV T Γ b δ M1 (.int j) M2) (hc : EV T Γ c δ M2 (.int l) M2) (hm : lastMarks [op, op'] [b, c] = false := by with_unfolding_all rfl) : EV T Γ (.Compare a [op, op'] [b, c] pos) δ L (.bl (f i j && f' j l)) M2 := fun X F g σ W E Q q => by
  refine eby (pe_chain (ho X) (ho' X) eself eself eself hm) ?_
  refine ha X F g σ W E _ fun v g1 e1 W1 d1 => ?_
  refine hb X F g1 σ W1 (E.ext e1) _ fun u g2 e2 W2 d2 => ?_
  cases d1; cases d2
  refine ⟨i, j, rfl, rfl, f i j, rfl, ?_⟩
  cases h : f i j with
  | true =>
    rw [if_pos rfl]
    refine hc X F g2 σ W2 ((E.ext e1).ext e2) _ fun w g3 e3 W3 d3 => ?_
    cases d3
    refine ⟨j, l, rfl, rfl, ?_⟩
    rw [h, Bool.true_and] at q
    exact q _ g3 ((e1.trans e2).trans e3) W3 (.bl _)
  | false =>
    rw [if_neg Bool.false_ne_true]
    rw [h, Bool.false_and] at q
    exact q _ g2 (e1.trans e2) W2 (.bl false)
end

/-! ### logic -/
section
variable {a b : Expr} {rest : List Expr} {pos : Pos} {x y : Bool}
theorem ev_and (ha : EV T Γ a δ L (.bl x) L) (hb : x = true → EV T Γ (.BoolOp .And (b :: rest) pos) δ L (.bl y) L) : EV T Γ (.BoolOp .And (a :: b :: rest) pos) δ L (.bl (x && y)) L := fun X F g σ W E Q q => by
  refine eby (pe_and eself eself) ?_
  refine ha X F g σ W E _ fun v g1 e1 W1 d1 => ?_
  cases d1
  refine ⟨x, rfl, ?_⟩
  cases x with
  | true =>
    rw [if_pos rfl]
    rw [Bool.true_and] at q
    exact hb rfl X F g1 σ W1 (E.ext e1) _ fun w g2 e2 W2 d2 => q w g2 (e1.trans e2) W2 d2
  | false =>
    rw [if_neg Bool.false_ne_true]
    rw [Bool.false_and] at q
    exact q _ g1 e1 W1 (.bl _)
theorem ev_or (ha : EV T Γ a δ L (.bl x) L) (hb : x = false → EV T Γ (.BoolOp .Or (b :: rest) pos) δ L (.bl y) L) : EV T Γ (.BoolOp .Or (a :: b :: rest) pos) δ L (.bl (x || y)) L := fun X F g σ W E Q q => by
  refine eby (pe_or eself eself) ?_
  refine ha X F g σ W E _ fun v g1 e1 W1 d1 => ?_
  cases d1
  refine ⟨x, rfl, ?_⟩
  cases x with
  | true =>
    rw [if_pos rfl]
    rw [Bool.true_or] at q
    exact q _ g1 e1 W1 (.bl _)
  | false =>
    rw [if_neg Bool.false_ne_true]
    rw [Bool.false_or] at q
    exact hb rfl X F g1 σ W1 (E.ext e1) _ fun w g2 e2 W2 d2 => q w g2 (e1.trans e2) W2 d2
theorem ev_one {op : BoolOp} {d : D} (ha : EV T Γ a δ L d M1) : EV T Γ (.BoolOp op [a] pos) δ L d M1 := fun X F g σ W E Q q => eby (pe_one eself) (ha X F g σ W E Q q)
theorem ev_not {b : Bool} (ha : TV T Γ a δ L b M1) (hn : ∀ X : Cx, PT X a (TXV X a) → PE X (.UnaryOp .Not a pos) (fun σ H Q => TXV X a σ H fun b H' => Q (.bl (!b)) H')) : EV T Γ (.UnaryOp .Not a pos) δ L (.bl (!b)) M1 := fun X F g σ W E Q q =>
  eby (hn X tself) (ha X F g σ W E _ fun g1 e1 W1 => q _ g1 e1 W1 (.bl _))
theorem tv_and (ha : TV T Γ a δ L x M1) (hb : x = true → WV T Γ (.BoolOp .And (b :: rest) pos) δ M1 y M2) (h0 : x = false → M2 = M1) : WV T Γ (.BoolOp .And (a :: b :: rest) pos) δ L (x && y) M2 := fun X F g σ W E Q q => by
  refine wby (pw_and tself wself) ?_
  refine ha X F g σ W E _ fun g1 e1 W1 => ?_
  cases x with
  | true =>
    rw [if_pos rfl]
    rw [Bool.true_and] at q
    exact hb rfl X F g1 σ W1 (E.ext e1) _ fun g2 e2 W2 => q g2 (e1.trans e2) W2
  | false =>
    rw [if_neg Bool.false_ne_true]
    rw [Bool.false_and] at q
    exact q g1 e1 (by rw [h0 rfl]; exact W1)
theorem tv_or (ha : TV T Γ a δ L x M1) (hb : x = false → WV T Γ (.BoolOp .Or (b :: rest) pos) δ M1 y M2) (h0 : x = true → M2 = M1) : WV T Γ (.BoolOp .Or (a :: b :: rest) pos) δ L (x || y) M2 := fun X F g σ W E Q q => by
  refine wby (pw_or tself wself) ?_
  refine ha X F g σ W E _ fun g1 e1 W1 => ?_
  cases x with
  | true =>
    rw [if_pos rfl]
    rw [Bool.true_or] at q
    exact q g1 e1 (by rw [h0 rfl]; exact W1)
  | false =>
    rw [if_neg Bool.false_ne_true]
    rw [Bool.false_or] at q
    exact hb rfl X F g1 σ W1 (E.ext e1) _ fun g2 e2 W2 => q g2 (e1.trans e2) W2
theorem wv_and1 (ha : TV T Γ a δ L x M1) : WV T Γ (.BoolOp .And [a] pos) δ L x M1 := fun X F g σ W E Q q => wby (pw_and1 tself) (ha X F g σ W E Q q)
theorem wv_or1 (ha : TV T Γ a δ L x M1) : WV T Γ (.BoolOp .Or [a] pos) δ L x M1 := fun X F g σ W E Q q => wby (pw_or1 tself) (ha X F g σ W E Q q)
theorem tv_w (h : WV T Γ a δ L x M1) : TV T Γ a δ L x M1 := fun X F g σ W E Q q => tby wself.pt (h X F g σ W E Q q)
theorem tv_not (ha : TV T Γ a δ L x M1) : TV T Γ (.UnaryOp .Not a pos) δ L (!x) M1 := fun X F g σ W E Q q => tby (pt_not tself) (ha X F g σ W E _ q)
/-- a test by a value that is a bool -/
theorem tv_val (h : EV T Γ a δ L (.bl x) M1) (he : ∀ (env : Env) whole, isTrue a env whole = (do let v ← whole; standAt a.pos; holding [v] (truthy v)) := by intro _ _; rfl) : TV T Γ a δ L x M1 := fun X F g σ W E Q q =>
  tby (pt_val eself (he _)) (h X F g σ W E _ fun v g1 e1 W1 d1 => by
    cases d1
    exact ⟨x, rfl, q g1 e1 W1⟩)
/-- truth -/
def Cell.truth : Option Cell → Option Bool
  | some (.list ds) => some (!ds.isEmpty)
  | some (.dict kvs) => some (!kvs.isEmpty)
  | _ => none
def D.truth (d : D) (L : Store) : Option Bool := match d with
  | .non => some false
  | .bl b => some b
  | .int i => some (i != 0)
  | .str z => if z.length ≤ sizeLine then some ((z.length : Int) != 0) else none
  | .tup ds => some (!ds.isEmpty)
  | .lst ds => some (!ds.isEmpty)
  | .ref k => Cell.truth L[k]?
  | .scr _ => none
theorem DtL.empty {K : PySem.W.Frag} {g : Gw} : ∀ {xs : List V} {ds : List D}, DtL K g xs ds → xs.isEmpty = ds.isEmpty
  | _, _, .nil => rfl
  | _, _, .cons _ _ => rfl
theorem KvR.empty {K : PySem.W.Frag} {g : Gw} : ∀ {xs ds}, KvR K g xs ds → xs.isEmpty = ds.isEmpty
  | _, _, .nil => rfl
  | _, _, .cons _ _ => rfl
theorem truV {g : Gw} {v : V} {d : D} {b : Bool} (W : Wo T.K g L) (h : Dt T.K g v d) (e : d.truth L = some b) : TruV T.K v g.H b := by
  cases h with
  | non => cases e; rfl
  | bl c => cases e; rfl
  | int i => cases e; rfl
  | str z =>
    have e' : (if z.length ≤ sizeLine then some ((z.length : Int) != 0) else none) = some b := e
    by_cases h : z.length ≤ sizeLine
    · rw [if_pos h] at e'
      exact ⟨h, (Option.some.inj e').symm⟩
    · rw [if_neg h] at e'
      cases e'
  | tup h l =>
    cases e
    exact .inr (.inl ⟨_, h.sq, by rw [l.empty]⟩)
  | lst h l =>
    cases e
    exact .inl ⟨_, h.sq, by rw [l.empty]⟩
  | scr h => cases e
  | ref hk =>
    rename_i k
    have e' : Cell.truth L[k]? = some b := e
    cases q : L[k]? with
    | none => rw [q] at e'; cases e'
    | some c =>
      rw [q] at e'
      cases c with
      | list ds =>
        obtain ⟨_, xs, h1, h2⟩ := W.at_ k _ q
        exact .inl ⟨xs, .inl (.inl h1), by rw [h2.empty]; exact (Option.some.inj e').symm⟩
      | dict kvs =>
        obtain ⟨_, xs, h1, h2⟩ := W.at_ k _ q
        exact .inr (.inr ⟨xs, h1, by rw [h2.empty]; exact (Option.some.inj e').symm⟩)
      | ins C fs => cases e'
      | lock kvs => cases e'
      | xtup ss => cases e'
      | dead => cases e'
theorem tv_truth {d : D} (h : EV T Γ a δ L d M1) (ht : d.truth M1 = some x) (he : ∀ (env : Env) whole, isTrue a env whole = (do let v ← whole; standAt a.pos; holding [v] (truthy v)) := by intro _ _; rfl) : TV T Γ a δ L x M1 := fun X F g σ W E Q q =>
  tby (pt_truth eself (he _)) (h X F g σ W E _ fun v g1 e1 W1 d1 => ⟨x, by rw [F.K]; exact truV W1 d1 ht, q g1 e1 W1⟩)
theorem ev_notV {d : D} (h : EV T Γ a δ L d M1) (ht : d.truth M1 = some x) : EV T Γ (.UnaryOp .Not a pos) δ L (.bl (!x)) M1 := fun X F g σ W E Q q =>
  eby (pe_notT eself) (h X F g σ W E _ fun v g1 e1 W1 d1 => ⟨x, by rw [F.K]; exact truV W1 d1 ht, q _ g1 e1 W1 (.bl _)⟩)
theorem ev_if {c : Expr} {d : D} (hc : TV T Γ c δ L x M1) (ha : x = true → EV T Γ a δ M1 d M2) (hb : x = false → EV T Γ b δ M1 d M2) : EV T Γ (.IfExp c a b pos) δ L d M2 := fun X F g σ W E Q q =>
  eby (pe_ifExp tself eself eself) (hc X F g σ W E _ fun g1 e1 W1 => by
    cases x with
    | true =>
      rw [if_pos rfl]
      exact ha rfl X F g1 σ W1 (E.ext e1) _ fun w g2 e2 W2 d2 => q w g2 (e1.trans e2) W2 d2
    | false =>
      rw [if_neg Bool.false_ne_true]
      exact hb rfl X F g1 σ W1 (E.ext e1) _ fun w g2 e2 W2 d2 => q w g2 (e1.trans e2) W2 d2)
end

/-! ### argument lists, displays -/
theorem av_nil : AV T Γ [] δ L [] L := fun X F g σ W E Q q => aby pa_nil (q [] g (.refl g) W .nil)
theorem av_cons {e : Expr} {es : List Expr} {d : D} {ds : List D} (h : EV T Γ e δ L d M1) (r : AV T Γ es δ M1 ds M2) (hs : ∀ env : Env, starEach (e :: es) env = (false, eval e env) :: starEach es env := by intro _; exact star_cons rfl) : AV T Γ (e :: es) δ L (d :: ds) M2 := fun X F g σ W E Q q =>
  aby (pa_cons eself aself (hs _)) (h X F g σ W E _ fun v g1 e1 W1 d1 => r X F g1 σ W1 (E.ext e1) _ fun vs g2 e2 W2 d2 => q (v :: vs) g2 (e1.trans e2) W2 (.cons (d1.ext e2) d2))
theorem ev_tup {es : List Expr} {n : Nat} {pos : Pos} {ds : List D} (h : AV T Γ es δ L ds M1) (hl : ds.length ≤ sizeLine) : EV T Γ (.Tuple es n pos) δ L (.tup ds) M1 := fun X F g σ W E Q q =>
  eby (pe_tup aself) (h X F g σ W E _ fun vs g1 e1 W1 d1 => ⟨by rw [d1.len]; exact hl, fun p hp => q (.ref p) (g1.push p .data (.tup vs)) (e1.trans (push_ext hp)) (W1.push hp) (.tup (.inl ⟨.inl push_at, push_own⟩) (d1.ext (push_ext hp)))⟩)
theorem ev_lst {es : List Expr} {pos : Pos} {ds : List D} (h : AV T Γ es δ L ds M1) (hl : ds.length ≤ sizeLine) : EV T Γ (.List es pos) δ L (.lst ds) M1 := fun X F g σ W E Q q =>
  eby (pe_lst aself) (h X F g σ W E _ fun vs g1 e1 W1 d1 => ⟨by rw [d1.len]; exact hl, fun p hp => q (.ref p) (g1.push p .data (.lst vs)) (e1.trans (push_ext hp)) (W1.push hp) (.lst ⟨push_at, push_own⟩ (d1.ext (push_ext hp)))⟩)
/-- the same as a new cell -/
theorem en_lst {es : List Expr} {pos : Pos} {ds : List D} (h : AV T Γ es δ L ds M1) (hl : ds.length ≤ sizeLine) : EV T Γ (.List es pos) δ L (.ref M1.length) (M1 ++ [.list ds]) := fun X F g σ W E Q q =>
  eby (pe_lst aself) (h X F g σ W E _ fun vs g1 e1 W1 d1 => ⟨by rw [d1.len]; exact hl, fun p hp => by
    have z := q (.ref p) (g1.cell p (.lst vs)) (e1.trans (cell_ext hp)) (W1.cell hp ⟨by rw [cell_ι]; exact cell_own, vs, by rw [cell_ι]; exact upd_same, d1.ext (cell_ext hp)⟩) (by
      have hn : M1.length < (g1.cell p (.lst vs)).n := by
        show M1.length < g1.n + 1
        rw [W1.n]
        exact Nat.lt_succ_self _
      have r := Dt.ref (K := T.K) (g := g1.cell p (.lst vs)) hn
      rw [← W1.n] at r ⊢
      rw [cell_ι] at r
      exact r)
    exact z⟩)
theorem en_dict {pos : Pos} : EV T Γ (.Dict [] [] pos) δ L (.ref L.length) (L ++ [.dict []]) := fun X F g σ W E Q q =>
  eby pe_dnewK fun p hp => by
    exact q (.ref p) (g.cell p (.dK [])) (cell_ext hp) (W.cell hp ⟨by rw [cell_ι]; exact cell_own, [], by rw [cell_ι]; exact upd_same, .nil⟩) (by
      have hn : L.length < (g.cell p (.dK [])).n := by
        show L.length < g.n + 1
        rw [W.n]
        exact Nat.lt_succ_self _
      have r := Dt.ref (K := T.K) (g := g.cell p (.dK [])) hn
      rw [← W.n] at r ⊢
      rw [cell_ι] at r
      exact r)
end
end G
set_option Elab.async false
set_option linter.all false
set_option maxRecDepth 100000
set_option maxHeartbeats 4000000
/-! G4: what a def keeps; calls; statements. -/
namespace G
open PySem PySem.Spec PyProof.Rows L2
/-- how a call ends -/
inductive Out where
  | rt (d : D) | ex (C : Str)
def PostF (K : PySem.W.Frag) (g : Gw) (o : Out) (L' : Store) (Q : VK) (E : XK) : Prop := match o with
  | .rt d => ∀ v g', Ext g g' → Wo K g' L' → Dt K g' v d → Q v g'.H
  | .ex C => ∀ g', Ext g g' → Wo K g' L' → E (.ref (He.ga K C)) none g'.H
def spG (K : PySem.W.Frag) (ds : List D) (L : Store) (o : Out) (L' : Store) : Sp := fun vs H Q E => ∃ g : Gw, g.H = H ∧ Wo K g L ∧ DtL K g vs ds ∧ PostF K g o L' Q E
/-- the def at f, with room for k calls: called with ds, L it ends with o, L' -/
structure Fn (T : Sta) (k : Nat) (f : Addr) (ds : List D) (L : Store) (o : Out) (L' : Store) : Prop where
  ex : ∃ (fd : FuncData) (ps : List Str), Binds T.K fd ps [] ∧ FnOk T.P T.w T.K T.mg T.base (L2.CX T.P T.w) k f fd ps (spG T.K ds L o L')
  kp : PySem.W.keepIn T.K (.ref f) = true
/-- a module's def x -/
structure FC (T : Sta) (k : Nat) (x : Str) (ds : List D) (L : Store) (o : Out) (L' : Store) : Prop where
  fn : Fn T k (He.ga T.K x) ds L o L'
  mg : T.mg x = some (.ref (He.ga T.K x))
/-- the method m of the class C; ds: with self -/
structure MC (T : Sta) (k : Nat) (C m : Str) (ds : List D) (L : Store) (o : Out) (L' : Store) : Prop where
  fn : Fn T k (He.ma T.K (He.ga T.K C) m) ds L o L'
  cls : Cls T.K (He.ga T.K C)
  meth : Meth T.K (He.ga T.K C) m (He.ma T.K (He.ga T.K C) m)
section
variable {T : Sta} {Γ : GC} {δ : Env'} {L M1 M2 M3 L' : Store}
theorem Fn.mono {j k : Nat} {f : Addr} {ds : List D} {o : Out} (h : Fn T j f ds L o L') (hk : j ≤ k) : Fn T k f ds L o L' := ⟨by
  obtain ⟨fd, ps, b, F⟩ := h.ex
  exact ⟨fd, ps, b, F.mono hk⟩, h.kp⟩
theorem FC.mono {j k : Nat} {x : Str} {ds : List D} {o : Out} (h : FC T j x ds L o L') (hk : j ≤ k) : FC T k x ds L o L' := ⟨h.fn.mono hk, h.mg⟩
theorem MC.mono {j k : Nat} {C x : Str} {ds : List D} {o : Out} (h : MC T j C x ds L o L') (hk : j ≤ k) : MC T k C x ds L o L' := ⟨h.fn.mono hk, h.cls, h.meth⟩
/-- the facts of one def of the text -/
structure Df (T : Sta) (f : Addr) (name qual : Str) (st : Stmt) : Prop where
  ex : ∃ fd, FunD T.K name qual (defArgs st) (defBody st) (defScope st) [] [] f fd
def Fin (o' : Oc) (o : Out) : Prop := match o' with | .nx _ => o = .rt .non | .rt d => o = .rt d | .ex C _ => o = .ex C | _ => False
/-- the code of a def, by its body -/
theorem fn_ok {f : Addr} {fd : FuncData} {name qual : Str} {st : Stmt} {N ps : List Str} {k : Nat} {ds : List D} {o : Out} {δ0 : Env'} (S : FnScope N ps (defScope st)) (hl : ds.length = ps.length) (hδ : δ0 = ds.map some ++ List.replicate (N.length - ds.length) none)
    (body : ∃ o', SV T ⟨N, defScope st, k, true⟩ (defBody st) δ0 L o' L' ∧ Fin o' o) (F : FunD T.K name qual (defArgs st) (defBody st) (defScope st) [] [] f fd) : FnOk T.P T.w T.K T.mg T.base (L2.CX T.P T.w) (k + 1) f fd ps (spG T.K ds L o L') := by
  obtain ⟨oc, od, dV, kV, doc, pm, an, cdv, ct, osl, rfl, lk, hcd, hdv, hkv⟩ := F.ex
  refine fn_of lk hcd S (fun vs H Q E h => ?_) fun A outer s H vs Q E hr h => ?_
  · obtain ⟨g, _, _, d, _⟩ := h
    rw [d.len, hl]
  · obtain ⟨g, rfl, W, d, post⟩ := h
    obtain ⟨o', hS, ho⟩ := body
    refine ⟨_, bself, ?_⟩
    refine hS _ ⟨⟨rfl, rfl, rfl, rfl, rfl, rfl, rfl, rfl, fun _ => hr, S.nd⟩, rfl, rfl, rfl, fun _ => rfl, ?_⟩ (fun cls d _ H => E cls d H) (takes_of rfl rfl rfl rfl) g _ W ?_ _ ?_
    · exact PassesOwn.leaving
    · rw [hδ]
      refine ⟨?_, fun i x q => ?_⟩
      · unfold L2.start
        rw [List.length_append, List.length_append, List.length_map, List.length_map, List.length_replicate, List.length_replicate, d.len]
      · by_cases hi : i < ds.length
        · rw [List.getElem?_append_left (by rw [List.length_map]; exact hi), List.getElem?_map] at q
          cases e : ds[i]? with
          | none => rw [e] at q; cases q
          | some y =>
            rw [e] at q
            cases q
            obtain ⟨v, h1, h2⟩ := d.get e
            refine ⟨v, ?_, h2⟩
            unfold L2.start
            rw [List.getElem?_append_left (by rw [List.length_map, d.len]; exact hi), List.getElem?_map, h1]
            rfl
        · rw [List.getElem?_append_right (by rw [List.length_map]; omega), List.getElem?_replicate] at q
          split at q <;> cases q
    · cases o' with
      | nx δ =>
        have e : o = .rt .non := ho
        subst e
        intro g' σ' e W' _
        exact post _ g' e W' .non
      | rt d' =>
        have e : o = .rt d' := ho
        subst e
        intro g' v e W' dv
        exact post v g' e W' dv
      | ex C δ =>
        have e : o = .ex C := ho
        subst e
        intro g' σ' e W' _
        exact post g' e W'
      | bk δ => cases ho
      | ct δ => cases ho

/-! ### calls -/
/-- from a body to its def -/
theorem fn_body {f : Addr} {name qual : Str} {st : Stmt} {N ps : List Str} {k : Nat} {ds : List D} {o : Out} {δ0 : Env'} (D0 : Df T f name qual st) (S : FnScope N ps (defScope st)) (hl : ds.length = ps.length)
    (hb : ∀ fd, FunD T.K name qual (defArgs st) (defBody st) (defScope st) [] [] f fd → Binds T.K fd ps []) (hδ : δ0 = ds.map some ++ List.replicate (N.length - ds.length) none)
    (body : ∃ o', SV T ⟨N, defScope st, k, true⟩ (defBody st) δ0 L o' L' ∧ Fin o' o) : Fn T (k + 1) f ds L o L' := by
  obtain ⟨fd, F⟩ := D0.ex
  exact ⟨⟨fd, ps, hb fd F, fn_ok S hl hδ body F⟩, F.kp⟩

theorem pass_no {X : Cx} {P : Program} {w : World} {σ : L2.St} : PassesAt (L2.CX P w) X σ (fun _ _ _ => False) := fun pins H s e s' I c => by
  obtain ⟨a, B, H', cls, d, e1, fl, ho, ub, na, os, ag, z⟩ := c
  exact z.elim
theorem pass_w {X : Cx} {P : Program} {w : World} {W : WX} (eP : X.prog = P) (ew : X.w = w) (tk : Takes X W) (σ : L2.St) : PassesAt (L2.CX P w) X σ (WE W σ) := by
  rw [← eP, ← ew]
  exact passAt tk σ
theorem FnOk.at {X : Cx} {k : Nat} {f : Addr} {fd : FuncData} {ps : List Str} {sp : Sp} (F : Fit T Γ X) (h : FnOk T.P T.w T.K T.mg T.base (L2.CX T.P T.w) k f fd ps sp) : FnOk X.prog X.w X.K X.mg X.base (L2.CX T.P T.w) k f fd ps sp := by
  rw [F.P, F.w, F.K, F.mg, F.base]
  exact h
theorem Fit.rm {X : Cx} (F : Fit T Γ X) (hc : Γ.c = true) {k : Nat} (h : k ≤ Γ.k) : Room k X.A := (F.room hc).mono h
/-- f(e, ..) -/
theorem ev_call {x : Str} {e : Expr} {es : List Expr} {p pos : Pos} {ds : List D} {d : D} {k : Nat} (C : FC T k x ds M1 (.rt d) M2) (ha : AV T Γ (e :: es) δ L ds M1) (hk : k ≤ Γ.k := by decide) (hc : Γ.c = true := by rfl) (hg : GlS Γ.sc x := by exact gls_of (by decide +kernel)) (hdb : (x == ("__debug__" : Str)) = false := by decide +kernel)
    (he : ∀ env : Env, starEach (e :: es) env = (false, eval e env) :: starEach es env := by intro _; exact star_cons rfl) (hpl : ∀ env : Env, (backTo pos (starEach es env)).any (·.1) = false := by intro _; exact star_any rfl) : EV T Γ (.Call (.Name x p) (e :: es) [] pos) δ L d M2 := fun X F g σ W E Q q => by
  obtain ⟨fd, ps, b, hF⟩ := C.fn.ex
  refine eby (pe_callS (FnOk.at F hF) (F.rm hc hk) (F.gl hg) (by rw [F.mg]; exact C.mg) (by rw [F.K]; exact C.fn.kp) (by rw [F.K]; exact b) (fun σ => pass_no) aself hdb (he _) (hpl _)) ?_
  refine ha X F g σ W E _ fun vs g1 e1 W1 d1 => ?_
  exact ⟨g1, rfl, W1, d1, fun v g2 e2 W2 d2 => q v g2 (e1.trans e2) W2 d2⟩
theorem ex_call {x C' : Str} {e : Expr} {es : List Expr} {p pos : Pos} {ds : List D} {k : Nat} (C : FC T k x ds M1 (.ex C') M2) (ha : AV T Γ (e :: es) δ L ds M1) (hk : k ≤ Γ.k := by decide) (hc : Γ.c = true := by rfl) (hg : GlS Γ.sc x := by exact gls_of (by decide +kernel)) (hdb : (x == ("__debug__" : Str)) = false := by decide +kernel)
    (he : ∀ env : Env, starEach (e :: es) env = (false, eval e env) :: starEach es env := by intro _; exact star_cons rfl) (hpl : ∀ env : Env, (backTo pos (starEach es env)).any (·.1) = false := by intro _; exact star_any rfl) : EX T Γ (.Call (.Name x p) (e :: es) [] pos) δ L C' M2 := fun X F Wx tk g σ W E q Q => by
  obtain ⟨fd, ps, b, hF⟩ := C.fn.ex
  refine eby (pe_callS (FnOk.at F hF) (F.rm hc hk) (F.gl hg) (by rw [F.mg]; exact C.mg) (by rw [F.K]; exact C.fn.kp) (by rw [F.K]; exact b) (pass_w F.P F.w tk) aself hdb (he _) (hpl _)) ?_
  refine ha X F g σ W E _ fun vs g1 e1 W1 d1 => ?_
  exact ⟨g1, rfl, W1, d1, fun g2 e2 W2 => q g2 (e1.trans e2) W2⟩
end
end G
set_option Elab.async false
set_option linter.all false
set_option maxRecDepth 100000
set_option maxHeartbeats 4000000
/-! G5: methods called, instances made. -/
namespace G
open PySem PySem.Spec PyProof.Rows L2
/-- the text's o.m(es) is run as a method call -/
def MForm (o : Expr) (m : Str) (apos : Pos) (es : List Expr) (pos : Pos) : Prop := ∀ env : Env, ∃ pl : Sem Bool, eval (.Call (.Attribute o m apos) es [] pos) env = (do let ov ← eval o env; standAt apos.atName; let (f, first) ← holding [ov] (getMethod ov m pl); callWith pos f first (backTo pos (starEach es env)) (backToKw pos (keywordEach [] env)))
section
variable {X : Cx} {k : Nat} {f C : Addr} {fd : FuncData} {ps : List Str} {sp : Sp} {E : L2.St → XK} {m : Str} {pos apos p : Pos} {o : Expr} {ta : TE} {CXX : CXT}
/-- what is asked of o.m(es): CallSlots' reading behind the receiver's -/
def tMethS (C : Addr) (m : Str) (sp : Sp) (E : L2.St → XK) (ta : TE) (t : TA) : TE := fun σ H Q => ta σ H fun x H1 => ∃ a dx fs, x = .ref a ∧ H1 a = some (.ins C dx fs) ∧ fs.lookup m = none ∧ t σ H1 fun vs H2 => sp (x :: vs) H2 Q (E σ)
theorem peM (he : PE X o ta) (c : Cls X.K C) (hm : Meth X.K C m f) (F : FnOk X.prog X.w X.K X.mg X.base CXX k f fd ps sp) (hr : Room k X.A) (hb : Binds X.K fd ps []) (hx : ∀ σ, PassesAt CXX X σ (E σ)) {e : Expr} {es : List Expr} {t : TA} (ha : PA X (e :: es) t)
    (hf : MForm o m apos (e :: es) pos) (h1 : starEach (e :: es) X.env = (false, eval e X.env) :: starEach es X.env) (h2 : (backTo pos (starEach es X.env)).any (·.1) = false) : PE X (.Call (.Attribute o m apos) (e :: es) [] pos) (tMethS C m sp E ta t) := ⟨fun pins s σ H Q I h => by
  obtain ⟨pl, ht⟩ := hf X.env
  exact PySem.W.methodCall_KW (pl := pl) (thn (he.run pins s σ H _ I h) fun u s1 z => by
    obtain ⟨x, H1, I1, rx, a, dx, fs, ex, ea, l, q⟩ := z
    subst ex
    cases (show u = Value.ref a from rx)
    exact getmeth_ok I1 ea c hm l (PySem.W.callWith_K (h₀ := X.base) (first := [Value.ref a]) I.ok.mod.kin hm.kp (thn (ha.run pos pins s1 σ H1 _ I1 q) fun us s2 y => by
      obtain ⟨vs, H2, I2, r, q2⟩ := y
      exact ⟨I2.kIn, run_fnS F hr hb (hx σ) I2 (Paired.cons (show RelV (V.ref a) (Value.ref a) from rfl) r) q2⟩) h1 h2)) ht⟩
theorem peM0 (he : PE X o ta) (c : Cls X.K C) (hm : Meth X.K C m f) (F : FnOk X.prog X.w X.K X.mg X.base CXX k f fd ps sp) (hr : Room k X.A) (hb : Binds X.K fd ps []) (hx : ∀ σ, PassesAt CXX X σ (E σ))
    (hf : MForm o m apos [] pos) : PE X (.Call (.Attribute o m apos) [] [] pos) (tMethS C m sp E ta tNil) := ⟨fun pins s σ H Q I h => by
  obtain ⟨pl, ht⟩ := hf X.env
  exact PySem.W.methodCall_KW (pl := pl) (thn (he.run pins s σ H _ I h) fun u s1 z => by
    obtain ⟨x, H1, I1, rx, a, dx, fs, ex, ea, l, q⟩ := z
    subst ex
    cases (show u = Value.ref a from rx)
    exact getmeth_ok I1 ea c hm l (PySem.W.callWith_K0 (first := [Value.ref a]) I1.kIn hm.kp (run_fnS F hr hb (hx σ) I1 (Paired.cons (show RelV (V.ref a) (Value.ref a) from rfl) .nil) q))) ht⟩
/-- f() -/
theorem peC0 {x : Str} (F : FnOk X.prog X.w X.K X.mg X.base CXX k f fd ps sp) (hr : Room k X.A) (hg : Gl X x) (hm : X.mg x = some (.ref f)) (hk : PySem.W.keepIn X.K (.ref f) = true) (hb : Binds X.K fd ps []) (hx : ∀ σ, PassesAt CXX X σ (E σ)) (hdb : (x == ("__debug__" : Str)) = false) :
    PE X (.Call (.Name x p) [] [] pos) (tCallS sp E tNil) := ⟨fun pins s σ H Q I h => wpAny_Call_Name_kw (ld_glob I hg hm (PySem.W.callWith_K0 I.kIn hk (run_fnS F hr hb (hx σ) I Paired.nil h)) hdb)⟩
end

section
variable {T : Sta} {Γ : GC} {δ : Env'} {L M1 M2 M3 L' : Store}
theorem FldR.none {K : PySem.W.Frag} {g : Gw} {m : Str} : ∀ {fv fs}, FldR K g fv fs → fs.lookup m = none → fv.lookup m = none
  | _, _, .nil, _ => rfl
  | (a, v) :: r, (b, d) :: r', .cons h t, e => by
    have ea : a = b := h.1
    subst ea
    rw [List.lookup_cons] at e ⊢
    cases q : (m == a) with
    | true => rw [q] at e; cases e
    | false =>
      rw [q] at e
      exact FldR.none t e
/-- the receiver d is an instance of C without the attribute m -/
def Recv (L : Store) (d : D) (C m : Str) : Prop := ∃ k fs, d = .ref k ∧ L[k]? = some (.ins C fs) ∧ fs.lookup m = none
theorem Recv.at {g : Gw} {v : V} {d : D} {C m : Str} (r : Recv L d C m) (W : Wo T.K g L) (h : Dt T.K g v d) : ∃ a dx fv, v = .ref a ∧ g.H a = some (.ins (He.ga T.K C) dx fv) ∧ fv.lookup m = none := by
  obtain ⟨k, fs, rfl, hk, hn⟩ := r
  cases h
  obtain ⟨_, dx, fv, h1, h2⟩ := W.at_ k _ hk
  exact ⟨_, dx, fv, rfl, h1, h2.none hn⟩
theorem ev_meth {C m : Str} {o e : Expr} {es : List Expr} {apos pos : Pos} {do_ d : D} {ds : List D} {k : Nat} (ho : EV T Γ o δ L do_ M1) (hr : Recv M1 do_ C m) (ha : AV T Γ (e :: es) δ M1 ds M2) (c : MC T k C m (do_ :: ds) M2 (.rt d) M3) (hk : k ≤ Γ.k := by decide) (hc : Γ.c = true := by rfl)
    (hf : MForm o m apos (e :: es) pos := by intro _; exact ⟨_, rfl⟩) (h1 : ∀ env : Env, starEach (e :: es) env = (false, eval e env) :: starEach es env := by intro _; exact star_cons rfl) (h2 : ∀ env : Env, (backTo pos (starEach es env)).any (·.1) = false := by intro _; exact star_any rfl) : EV T Γ (.Call (.Attribute o m apos) (e :: es) [] pos) δ L d M3 := fun X F g σ W E Q q => by
  obtain ⟨fd, ps, b, hF⟩ := c.fn.ex
  refine eby (peM eself (by rw [F.K]; exact c.cls) (by rw [F.K]; exact c.meth) (FnOk.at F hF) (F.rm hc hk) (by rw [F.K]; exact b) (fun σ => pass_no) aself hf (h1 _) (h2 _)) ?_
  refine ho X F g σ W E _ fun v g1 e1 W1 d1 => ?_
  obtain ⟨a, dx, fv, rfl, x1, x2⟩ := hr.at W1 d1
  refine ⟨a, dx, fv, rfl, x1, x2, ?_⟩
  refine ha X F g1 σ W1 (E.ext e1) _ fun vs g2 e2 W2 d2 => ?_
  exact ⟨g2, rfl, W2, .cons (d1.ext e2) d2, fun v g3 e3 W3 d3 => q v g3 ((e1.trans e2).trans e3) W3 d3⟩
theorem ex_meth {C m C' : Str} {o e : Expr} {es : List Expr} {apos pos : Pos} {do_ : D} {ds : List D} {k : Nat} (ho : EV T Γ o δ L do_ M1) (hr : Recv M1 do_ C m) (ha : AV T Γ (e :: es) δ M1 ds M2) (c : MC T k C m (do_ :: ds) M2 (.ex C') M3) (hk : k ≤ Γ.k := by decide) (hc : Γ.c = true := by rfl)
    (hf : MForm o m apos (e :: es) pos := by intro _; exact ⟨_, rfl⟩) (h1 : ∀ env : Env, starEach (e :: es) env = (false, eval e env) :: starEach es env := by intro _; exact star_cons rfl) (h2 : ∀ env : Env, (backTo pos (starEach es env)).any (·.1) = false := by intro _; exact star_any rfl) : EX T Γ (.Call (.Attribute o m apos) (e :: es) [] pos) δ L C' M3 := fun X F Wx tk g σ W E q Q => by
  obtain ⟨fd, ps, b, hF⟩ := c.fn.ex
  refine eby (peM eself (by rw [F.K]; exact c.cls) (by rw [F.K]; exact c.meth) (FnOk.at F hF) (F.rm hc hk) (by rw [F.K]; exact b) (pass_w F.P F.w tk) aself hf (h1 _) (h2 _)) ?_
  refine ho X F g σ W E _ fun v g1 e1 W1 d1 => ?_
  obtain ⟨a, dx, fv, rfl, x1, x2⟩ := hr.at W1 d1
  refine ⟨a, dx, fv, rfl, x1, x2, ?_⟩
  refine ha X F g1 σ W1 (E.ext e1) _ fun vs g2 e2 W2 d2 => ?_
  exact ⟨g2, rfl, W2, .cons (d1.ext e2) d2, fun g3 e3 W3 => q g3 ((e1.trans e2).trans e3) W3⟩
theorem ev_meth0 {C m : Str} {o : Expr} {apos pos : Pos} {do_ d : D} {k : Nat} (ho : EV T Γ o δ L do_ M1) (hr : Recv M1 do_ C m) (c : MC T k C m [do_] M1 (.rt d) M3) (hk : k ≤ Γ.k := by decide) (hc : Γ.c = true := by rfl)
    (hf : MForm o m apos [] pos := by intro _; exact ⟨_, rfl⟩) : EV T Γ (.Call (.Attribute o m apos) [] [] pos) δ L d M3 := fun X F g σ W E Q q => by
  obtain ⟨fd, ps, b, hF⟩ := c.fn.ex
  refine eby (peM0 eself (by rw [F.K]; exact c.cls) (by rw [F.K]; exact c.meth) (FnOk.at F hF) (F.rm hc hk) (by rw [F.K]; exact b) (fun σ => pass_no) hf) ?_
  refine ho X F g σ W E _ fun v g1 e1 W1 d1 => ?_
  obtain ⟨a, dx, fv, rfl, x1, x2⟩ := hr.at W1 d1
  exact ⟨a, dx, fv, rfl, x1, x2, g1, rfl, W1, .cons d1 .nil, fun v g3 e3 W3 d3 => q v g3 (e1.trans e3) W3 d3⟩
theorem ex_meth0 {C m C' : Str} {o : Expr} {apos pos : Pos} {do_ : D} {k : Nat} (ho : EV T Γ o δ L do_ M1) (hr : Recv M1 do_ C m) (c : MC T k C m [do_] M1 (.ex C') M3) (hk : k ≤ Γ.k := by decide) (hc : Γ.c = true := by rfl)
    (hf : MForm o m apos [] pos := by intro _; exact ⟨_, rfl⟩) : EX T Γ (.Call (.Attribute o m apos) [] [] pos) δ L C' M3 := fun X F Wx tk g σ W E q Q => by
  obtain ⟨fd, ps, b, hF⟩ := c.fn.ex
  refine eby (peM0 eself (by rw [F.K]; exact c.cls) (by rw [F.K]; exact c.meth) (FnOk.at F hF) (F.rm hc hk) (by rw [F.K]; exact b) (pass_w F.P F.w tk) hf) ?_
  refine ho X F g σ W E _ fun v g1 e1 W1 d1 => ?_
  obtain ⟨a, dx, fv, rfl, x1, x2⟩ := hr.at W1 d1
  exact ⟨a, dx, fv, rfl, x1, x2, g1, rfl, W1, .cons d1 .nil, fun g3 e3 W3 => q g3 (e1.trans e3) W3⟩
theorem ev_call0 {x : Str} {p pos : Pos} {d : D} {k : Nat} (C : FC T k x [] L (.rt d) M2) (hk : k ≤ Γ.k := by decide) (hc : Γ.c = true := by rfl) (hg : GlS Γ.sc x := by exact gls_of (by decide +kernel)) (hdb : (x == ("__debug__" : Str)) = false := by decide +kernel) : EV T Γ (.Call (.Name x p) [] [] pos) δ L d M2 := fun X F g σ W E Q q => by
  obtain ⟨fd, ps, b, hF⟩ := C.fn.ex
  exact eby (peC0 (E := fun _ _ _ _ => False) (FnOk.at F hF) (F.rm hc hk) (F.gl hg) (by rw [F.mg]; exact C.mg) (by rw [F.K]; exact C.fn.kp) (by rw [F.K]; exact b) (fun σ => pass_no) hdb) ⟨g, rfl, W, .nil, fun v g2 e2 W2 d2 => q v g2 e2 W2 d2⟩

/-! ### instances made: C(e, ..) by the contract of C.__init__ on the new, empty instance -/
theorem Gw.made {g : Gw} {x dx : Addr} {C : Addr} (W : Wo T.K g L) {Cn : Str} (eC : C = He.ga T.K Cn) (nx : g.H x = none) (nd : g.H dx = none) (ne : dx ≠ x) :
    ∃ g' : Gw, g'.H = upd (upd g.H dx (.own x)) x (.ins C dx []) ∧ Ext g g' ∧ Wo T.K g' (L ++ [.ins Cn []]) ∧ Dt T.K g' (.ref x) (.ref L.length) := by
  have n2 : (g.push dx .tmp (.own x)).H x = none := by
    show upd g.H dx _ x = none
    rw [upd_ne (Ne.symm ne)]
    exact nx
  have e1 := push_ext (g := g) (c := .tmp) (o := .own x) nd
  have e2 := cell_ext (g := g.push dx .tmp (.own x)) (o := .ins C dx []) n2
  refine ⟨(g.push dx .tmp (.own x)).cell x (.ins C dx []), rfl, e1.trans e2, (W.push nd).cell n2 ⟨by rw [cell_ι]; exact cell_own, dx, [], by rw [cell_ι]; rw [← eC]; exact upd_same, .nil⟩, ?_⟩
  have hn : L.length < ((g.push dx .tmp (.own x)).cell x (.ins C dx [])).n := by
    show L.length < g.n + 1
    rw [W.n]
    exact Nat.lt_succ_self _
  have r := Dt.ref (K := T.K) (g := (g.push dx .tmp (.own x)).cell x (.ins C dx [])) hn
  have el : L.length = (g.push dx .tmp (.own x)).n := W.n.symm
  rw [el] at r ⊢
  rw [cell_ι] at r
  exact r
/-- the class x can be made -/
structure KC (T : Sta) (x : Str) : Prop where
  mak : Mk T.K (He.ga T.K x) (He.ma T.K (He.ga T.K x) "__init__")
  mg : T.mg x = some (.ref (He.ga T.K x))
theorem ev_make {x : Str} {e : Expr} {es : List Expr} {p pos : Pos} {ds : List D} {k : Nat} (c : KC T x) (ha : AV T Γ (e :: es) δ L ds M1) (i : MC T k x "__init__" (.ref M1.length :: ds) (M1 ++ [.ins x []]) (.rt .non) M2) (hk : k + 1 ≤ Γ.k := by decide) (hc : Γ.c = true := by rfl) (hg : GlS Γ.sc x := by exact gls_of (by decide +kernel)) (hdb : (x == ("__debug__" : Str)) = false := by decide +kernel)
    (he : ∀ env : Env, starEach (e :: es) env = (false, eval e env) :: starEach es env := by intro _; exact star_cons rfl) (hpl : ∀ env : Env, (backTo pos (starEach es env)).any (·.1) = false := by intro _; exact star_any rfl) : EV T Γ (.Call (.Name x p) (e :: es) [] pos) δ L (.ref M1.length) M2 := fun X F g σ W E Q q => by
  obtain ⟨fd, ps, b, hF⟩ := i.fn.ex
  refine eby (pe_make (E := fun _ _ _ => False) (by rw [F.K]; exact c.mak) (FnOk.at F hF) (F.rm hc hk) (F.gl hg) (by rw [F.mg]; exact c.mg) (by rw [F.K]; exact b) .nil (fun pins σ H s e s' I c => pass_no pins H s e s' I c) aself hdb (he _) (hpl _)) ?_
  refine ha X F g σ W E _ fun vs g1 e1 W1 d1 => ?_
  intro a dx na nd ne
  obtain ⟨g2, h2, e2, W2, d2⟩ := Gw.made W1 rfl na nd ne
  refine ⟨g2, h2, W2, ?_, fun v g3 e3 W3 d3 => ?_⟩
  · rw [List.append_nil]
    exact .cons d2 (d1.ext e2)
  · cases d3
    exact ⟨rfl, q _ g3 ((e1.trans e2).trans e3) W3 (d2.ext e3)⟩
theorem ev_make0 {x : Str} {p pos : Pos} {k : Nat} (c : KC T x) (i : MC T k x "__init__" [.ref L.length] (L ++ [.ins x []]) (.rt .non) M2) (hk : k + 1 ≤ Γ.k := by decide) (hc : Γ.c = true := by rfl) (hg : GlS Γ.sc x := by exact gls_of (by decide +kernel)) (hdb : (x == ("__debug__" : Str)) = false := by decide +kernel) : EV T Γ (.Call (.Name x p) [] [] pos) δ L (.ref L.length) M2 := fun X F g σ W E Q q => by
  obtain ⟨fd, ps, b, hF⟩ := i.fn.ex
  refine eby (pe_make0 (E := fun _ _ _ => False) (by rw [F.K]; exact c.mak) (FnOk.at F hF) (F.rm hc hk) (F.gl hg) (by rw [F.mg]; exact c.mg) (by rw [F.K]; exact b) .nil (fun pins σ H s e s' I c => pass_no pins H s e s' I c) hdb) ?_
  intro a dx na nd ne
  obtain ⟨g2, h2, e2, W2, d2⟩ := Gw.made W rfl na nd ne
  refine ⟨g2, h2, W2, .cons d2 .nil, fun v g3 e3 W3 d3 => ?_⟩
  cases d3
  exact ⟨rfl, q _ g3 (e2.trans e3) W3 (d2.ext e3)⟩
end
end G
set_option Elab.async false
set_option linter.all false
set_option maxRecDepth 100000
set_option maxHeartbeats 4000000
/-! G6: statements. -/
namespace G
open PySem PySem.Spec PyProof.Rows L2
section
variable {T : Sta} {Γ : GC} {δ δ' : Env'} {L M1 M2 M3 L' : Store}
theorem FitF.fit {X : Cx} (F : FitF T Γ X) : Fit T Γ X := F.toFit
/-! ### blocks -/
theorem sv_nil : SV T Γ [] δ L (.nx δ) L := fun X F Wx tk g σ W E D q => bby pss_nil (q g σ (.refl g) W E)
theorem PostS.ext {K : PySem.W.Frag} {D : Ends} {W : WX} {g g1 : Gw} {o : Oc} {L' : Store} (e : Ext g g1) (h : PostS K D W g o L') : PostS K D W g1 o L' := by
  cases o with
  | nx δ => exact fun g' σ' e' => h g' σ' (e.trans e')
  | bk δ => exact fun g' σ' e' => h g' σ' (e.trans e')
  | ct δ => exact fun g' σ' e' => h g' σ' (e.trans e')
  | rt d => exact fun g' v e' => h g' v (e.trans e')
  | ex C δ => exact fun g' σ' e' => h g' σ' (e.trans e')
/-- the ends that leave the rest alone -/
def Oc.out : Oc → Prop
  | .nx _ => False
  | _ => True
theorem PostS.nx {K : PySem.W.Frag} {D : Ends} {W : WX} {g : Gw} {o : Oc} {L' : Store} (h : PostS K D W g o L') (ho : o.out) (N : L2.St → Hp → Prop) : PostS K { D with nx := N } W g o L' := by
  cases o with
  | nx δ => exact ho.elim
  | bk δ => exact h
  | ct δ => exact h
  | rt d => exact h
  | ex C δ => exact h
theorem sv_cons {st : Stmt} {rest : List Stmt} {o : Oc} (h : S1 T Γ st δ L (.nx δ') M1) (r : SV T Γ rest δ' M1 o L') : SV T Γ (st :: rest) δ L o L' := fun X F Wx tk g σ W E D q => by
  refine bby (pss_cons sself bself) ?_
  refine h X F Wx tk g σ W E _ fun g1 σ1 e1 W1 E1 => ?_
  exact r X F Wx tk g1 σ1 W1 E1 D (q.ext e1)
theorem sv_out {st : Stmt} {rest : List Stmt} {o : Oc} (h : S1 T Γ st δ L o L') (ho : o.out) : SV T Γ (st :: rest) δ L o L' := fun X F Wx tk g σ W E D q => by
  refine bby (pss_cons sself bself) ?_
  exact h X F Wx tk g σ W E _ (q.nx ho _)
theorem sv_one {st : Stmt} {o : Oc} (h : S1 T Γ st δ L o L') : SV T Γ [st] δ L o L' := fun X F Wx tk g σ W E D q => bby (pss_one sself) (h X F Wx tk g σ W E D q)

/-! ### return, expression statements, pass -/
theorem s_ret {e : Expr} {pos : Pos} {d : D} (h : EV T Γ e δ L d L') : S1 T Γ (.Return (some e) pos) δ L (.rt d) L' := fun X F Wx tk g σ W E D q => sby (ps_ret eself) (h X F.fit g σ W E _ fun v g1 e1 W1 d1 => q g1 v e1 W1 d1)
theorem s_retN {pos : Pos} : S1 T Γ (.Return none pos) δ L (.rt .non) L := fun X F Wx tk g σ W E D q => sby ps_retN (q g .non (.refl g) W .non)
theorem s_retX {e : Expr} {pos : Pos} {C : Str} (h : EX T Γ e δ L C L') : S1 T Γ (.Return (some e) pos) δ L (.ex C δ) L' := fun X F Wx tk g σ W E D q => sby (ps_ret eself) (h X F.fit Wx tk g σ W E (fun g1 e1 W1 => q g1 σ e1 W1 (E.ext e1)) _)
theorem s_expr {e : Expr} {pos : Pos} {d : D} (h : EV T Γ e δ L d L') (hs : ∀ env : Env, swapsWith e none pos.line env = pure false := by intro _; rfl) : S1 T Γ (.Expr e pos) δ L (.nx δ) L' := fun X F Wx tk g σ W E D q => sby (ps_expr eself (hs _)) (h X F.fit g σ W E _ fun v g1 e1 W1 d1 => q g1 σ e1 W1 (E.ext e1))
theorem s_exprX {e : Expr} {pos : Pos} {C : Str} (h : EX T Γ e δ L C L') (hs : ∀ env : Env, swapsWith e none pos.line env = pure false := by intro _; rfl) : S1 T Γ (.Expr e pos) δ L (.ex C δ) L' := fun X F Wx tk g σ W E D q => sby (ps_expr eself (hs _)) (h X F.fit Wx tk g σ W E (fun g1 e1 W1 => q g1 σ e1 W1 (E.ext e1)) _)
theorem s_pass {pos : Pos} : S1 T Γ (.Pass pos) δ L (.nx δ) L := fun X F Wx tk g σ W E D q => sby ps_pass (q g σ (.refl g) W E)
theorem s_cont {pos : Pos} : S1 T Γ (.Continue pos) δ L (.ct δ) L := fun X F Wx tk g σ W E D q => sby ps_continue (q g σ (.refl g) W E)

/-! ### if -/
theorem s_if {c : Expr} {a b : List Stmt} {pos : Pos} {x : Bool} {o : Oc} (hc : TV T Γ c δ L x M1) (ha : x = true → SV T Γ a δ M1 o L') (hb : x = false → SV T Γ b δ M1 o L') : S1 T Γ (.If c a b pos) δ L o L' := fun X F Wx tk g σ W E D q => by
  refine sby (ps_if tself bself bself) ?_
  refine hc X F.fit g σ W E _ fun g1 e1 W1 => ?_
  cases x with
  | true =>
    rw [if_pos rfl]
    exact ha rfl X F Wx tk g1 σ W1 (E.ext e1) D (q.ext e1)
  | false =>
    rw [if_neg Bool.false_ne_true]
    exact hb rfl X F Wx tk g1 σ W1 (E.ext e1) D (q.ext e1)
theorem s_ifT {c : Expr} {a b : List Stmt} {pos : Pos} {o : Oc} (hc : TV T Γ c δ L true M1) (ha : SV T Γ a δ M1 o L') : S1 T Γ (.If c a b pos) δ L o L' := s_if hc (fun _ => ha) fun e => nomatch e
theorem s_ifF {c : Expr} {a b : List Stmt} {pos : Pos} {o : Oc} (hc : TV T Γ c δ L false M1) (hb : SV T Γ b δ M1 o L') : S1 T Γ (.If c a b pos) δ L o L' := s_if hc (fun e => nomatch e) fun _ => hb

/-! ### targets -/
theorem EnvOk.set {K : PySem.W.Frag} {g : Gw} {σ : L2.St} {v : V} {d : D} (h : EnvOk K g σ δ) (i : Nat) (r : Dt K g v d) : EnvOk K g (σ.set i (some v)) (δ.set i (some d)) := by
  refine ⟨by rw [List.length_set, List.length_set]; exact h.1, fun j y q => ?_⟩
  by_cases hj : i = j
  · subst hj
    have hl : i < δ.length := by
      have := (List.getElem?_eq_some_iff.mp q).1
      rw [List.length_set] at this
      exact this
    rw [List.getElem?_set_self hl] at q
    cases q
    exact ⟨v, List.getElem?_set_self (by rw [h.1]; exact hl), r⟩
  · rw [List.getElem?_set_ne hj] at q
    obtain ⟨u, h1, h2⟩ := h.2 j y q
    exact ⟨u, by rw [List.getElem?_set_ne hj]; exact h1, h2⟩
/-- names may be stored, cells too -/
def StOk (X : Cx) : Prop := ∀ x, X.fn x = true
/-- the target's reading -/
def Tgt (T : Sta) (Γ : GC) (tg : Expr) (t : TG) : Prop := ∀ X, Fit T Γ X → StOk X → PG X tg t
def Tgs (T : Sta) (Γ : GC) (tgs : List Expr) (t : TGs) : Prop := ∀ X, Fit T Γ X → StOk X → PGs X tgs t
/-- σ' is σ but for the slots ix -/
def But (ix : List Nat) (σ σ' : L2.St) : Prop := σ'.length = σ.length ∧ ∀ j, j ∉ ix → σ'[j]? = σ[j]?
/-- d bound: from δ to δ', at the slots ix -/
def GB (T : Sta) (t : TG) (ix : List Nat) (d : D) (δ δ' : Env') : Prop := ∀ (g : Gw) (σ : L2.St) (v : V), EnvOk T.K g σ δ → Dt T.K g v d → ∀ Q : L2.St → Hp → Prop, (∀ σ', EnvOk T.K g σ' δ' → But ix σ σ' → Q σ' g.H) → t v σ g.H Q
def GBs (T : Sta) (t : TGs) (ix : List Nat) (ds : List D) (δ δ' : Env') : Prop := ∀ (g : Gw) (σ : L2.St) (vs : List V), EnvOk T.K g σ δ → DtL T.K g vs ds → ∀ Q : L2.St → Hp → Prop, (∀ σ', EnvOk T.K g σ' δ' → But ix σ σ' → Q σ' g.H) → t vs σ g.H Q
theorem tg_name {x : Str} {pos : Pos} (i : Nat) (hi : Γ.N[i]? = some x := by rfl) (hx : Loc Γ.sc x := by exact loc_of (by decide +kernel)) : Tgt T Γ (.Name x pos) (gName i) := fun X F hf => pg_name F.nd (by rw [F.N]; exact hi) (by rw [F.sc]; exact hx) (.inl (hf x))
theorem gb_name {d : D} {i : Nat} : GB T (gName i) [i] d δ (δ.set i (some d)) := fun g σ v E r Q q => q _ (E.set i r) ⟨List.length_set, fun j hj => List.getElem?_set_ne (fun e => hj (by simp [e]))⟩
theorem tg_nil : Tgs T Γ [] gNil := fun X F hf => pgs_nil
theorem tg_cons {tg : Expr} {tgs : List Expr} {t : TG} {u : TGs} (h : Tgt T Γ tg t) (r : Tgs T Γ tgs u) (hs : ∀ env : Env, (assignEach (tg :: tgs) env).map (·.2) = assign tg env :: (assignEach tgs env).map (·.2) := by intro _; rfl) : Tgs T Γ (tg :: tgs) (gCons t u) := fun X F hf => pgs_cons (h X F hf) (r X F hf) (hs _)
theorem gb_nil : GBs T gNil [] [] δ δ := fun g σ vs E r Q q => by
  cases r
  exact ⟨rfl, q σ E ⟨rfl, fun _ _ => rfl⟩⟩
theorem gb_cons {t : TG} {u : TGs} {ix iy : List Nat} {d : D} {ds : List D} {δ1 : Env'} (h : GB T t ix d δ δ1) (r : GBs T u iy ds δ1 δ') : GBs T (gCons t u) (ix ++ iy) (d :: ds) δ δ' := fun g σ vs E r' Q q => by
  cases r' with
  | cons r1 r2 => exact ⟨_, _, rfl, h g σ _ E r1 _ fun σ1 E1 b1 => r g σ1 _ E1 r2 Q fun σ2 E2 b2 => q σ2 E2 ⟨b2.1.trans b1.1, fun j hj => by
      rw [List.mem_append, not_or] at hj
      rw [b2.2 j hj.2, b1.2 j hj.1]⟩⟩
theorem tg_tup {tgs : List Expr} {n m : Nat} {pos : Pos} {t : TGs} (h : Tgs T Γ tgs t) (hc : Γ.c = true := by rfl) (hn : ∀ env : Env, (assignEach tgs env).length = n := by intro _; rfl) (hst : ∀ env : Env, (assignEach tgs env).findIdx? (·.1) = none := by intro _; rfl) : Tgt T Γ (.Tuple tgs m pos) (gTup T.K n t) := fun X F hf => by
  have z := pg_tup (X := X) (k := m) (pos := pos) (by rw [F.calm]; exact hc) (h X F hf) (hn _) (hst _)
  rw [F.K] at z
  exact z
theorem gb_tup {t : TGs} {ix : List Nat} {ds : List D} (h : GBs T t ix ds δ δ') : GB T (gTup T.K ds.length t) ix (.tup ds) δ δ' := fun g σ v E r Q q => by
  cases r with
  | tup hp hl => exact ⟨_, _, rfl, hp.sq, hl.len, h g σ _ E hl Q q⟩

/-! targets that are locals alone (a comprehension's) -/
def TgL (T : Sta) (Γ : GC) (tg : Expr) (t : TG) : Prop := ∀ X, Fit T Γ X → PG X tg t
def TgLs (T : Sta) (Γ : GC) (tgs : List Expr) (t : TGs) : Prop := ∀ X, Fit T Γ X → PGs X tgs t
theorem tl_name {x : Str} {pos : Pos} (i : Nat) (hi : Γ.N[i]? = some x := by rfl) (hx : Γ.sc.names.lookup x = some .local := by exact lol_of (by decide +kernel)) : TgL T Γ (.Name x pos) (gName i) := fun X F => pg_name F.nd (by rw [F.N]; exact hi) (by rw [F.sc]; exact .inl hx) (.inr (by rw [F.sc]; exact hx))
theorem tl_nil : TgLs T Γ [] gNil := fun X F => pgs_nil
theorem tl_cons {tg : Expr} {tgs : List Expr} {t : TG} {u : TGs} (h : TgL T Γ tg t) (r : TgLs T Γ tgs u) (hs : ∀ env : Env, (assignEach (tg :: tgs) env).map (·.2) = assign tg env :: (assignEach tgs env).map (·.2) := by intro _; rfl) : TgLs T Γ (tg :: tgs) (gCons t u) := fun X F => pgs_cons (h X F) (r X F) (hs _)
theorem tl_tup {tgs : List Expr} {n m : Nat} {pos : Pos} {t : TGs} (h : TgLs T Γ tgs t) (hc : Γ.c = true := by rfl) (hn : ∀ env : Env, (assignEach tgs env).length = n := by intro _; rfl) (hst : ∀ env : Env, (assignEach tgs env).findIdx? (·.1) = none := by intro _; rfl) : TgL T Γ (.Tuple tgs m pos) (gTup T.K n t) := fun X F => by
  have z := pg_tup (X := X) (k := m) (pos := pos) (by rw [F.calm]; exact hc) (h X F) (hn _) (hst _)
  rw [F.K] at z
  exact z

/-! ### assignments -/
theorem FitF.st {X : Cx} (F : FitF T Γ X) : StOk X := F.fn
theorem s_asg {tg e : Expr} {pos : Pos} {d : D} {t : TG} {ix : List Nat} (h : EV T Γ e δ L d L') (ht : Tgt T Γ tg t) (hg : GB T t ix d δ δ') (hs : ∀ env : Env, swapsWithSole [tg] e pos.line env = pure false := by intro _; rfl) (hw : ∀ env : Env, swappedStores [tg] e env = pure none := by intro _; rfl) (h1 : ∀ env : Env, (assignEach [tg] env).map (·.2) = [assign tg env] := by intro _; rfl) : S1 T Γ (.Assign [tg] e pos) δ L (.nx δ') L' := fun X F Wx tk g σ W E D q => by
  refine sby (ps_asg eself (ht X F.fit F.st) (hs _) (hw _) (h1 _)) ?_
  refine h X F.fit g σ W E _ fun v g1 e1 W1 d1 => ?_
  exact hg g1 σ v (E.ext e1) d1 D.nx fun σ' E' _ => q g1 σ' e1 W1 E'
theorem s_set {x : Str} {e : Expr} {pos pos' : Pos} {d : D} (i : Nat) (h : EV T Γ e δ L d L') (hi : Γ.N[i]? = some x := by rfl) (hx : Loc Γ.sc x := by exact loc_of (by decide +kernel)) (hs : ∀ env : Env, swapsWith e (some (.Name x pos')) pos.line env = pure false := by intro _; rfl) : S1 T Γ (.Assign [.Name x pos'] e pos) δ L (.nx (δ.set i (some d))) L' := fun X F Wx tk g σ W E D q => by
  refine sby (ps_set (i := i) F.nd (by rw [F.N]; exact hi) (by rw [F.sc]; exact hx) eself (hs _) (.inl (F.fn x))) ?_
  exact h X F.fit g σ W E _ fun v g1 e1 W1 d1 => q g1 _ e1 W1 ((E.ext e1).set i d1)
theorem s_setX {x C : Str} {e : Expr} {pos pos' : Pos} (i : Nat) (h : EX T Γ e δ L C L') (hi : Γ.N[i]? = some x := by rfl) (hx : Loc Γ.sc x := by exact loc_of (by decide +kernel)) (hs : ∀ env : Env, swapsWith e (some (.Name x pos')) pos.line env = pure false := by intro _; rfl) : S1 T Γ (.Assign [.Name x pos'] e pos) δ L (.ex C δ) L' := fun X F Wx tk g σ W E D q => by
  refine sby (ps_set (i := i) F.nd (by rw [F.N]; exact hi) (by rw [F.sc]; exact hx) eself (hs _) (.inl (F.fn x))) ?_
  exact h X F.fit Wx tk g σ W E (fun g1 e1 W1 => q g1 σ e1 W1 (E.ext e1)) _
theorem s_asgX {tg e : Expr} {pos : Pos} {C : Str} {t : TG} (h : EX T Γ e δ L C L') (ht : Tgt T Γ tg t) (hs : ∀ env : Env, swapsWithSole [tg] e pos.line env = pure false := by intro _; rfl) (hw : ∀ env : Env, swappedStores [tg] e env = pure none := by intro _; rfl) (h1 : ∀ env : Env, (assignEach [tg] env).map (·.2) = [assign tg env] := by intro _; rfl) : S1 T Γ (.Assign [tg] e pos) δ L (.ex C δ) L' := fun X F Wx tk g σ W E D q => by
  refine sby (ps_asg eself (ht X F.fit F.st) (hs _) (hw _) (h1 _)) ?_
  exact h X F.fit Wx tk g σ W E (fun g1 e1 W1 => q g1 σ e1 W1 (E.ext e1)) _
/-- x += e, two ints -/
theorem s_augI {x : Str} {e : Expr} {pos pos' : Pos} {a b : Int} {op : Operator} {f : Int → Int → Int} (i : Nat) (ho : ∀ X : Cx, PIp X op (ipI f)) (hd : δ[i]? = some (some (.int a))) (h : EV T Γ e δ L (.int b) L') (hi : Γ.N[i]? = some x := by rfl) (hx : Loc Γ.sc x := by exact loc_of (by decide +kernel)) : S1 T Γ (.AugAssign (.Name x pos') op e pos) δ L (.nx (δ.set i (some (.int (f a b))))) L' := fun X F Wx tk g σ W E D q => by
  refine sby (ps_aug (i := i) F.nd (by rw [F.N]; exact hi) (by rw [F.sc]; exact hx) eself (ho X) (.inl (F.fn x))) ?_
  obtain ⟨v, h1, h2⟩ := E.2 i _ hd
  cases h2
  refine ⟨_, h1, h X F.fit g σ W E _ fun u g1 e1 W1 d1 => ?_⟩
  cases d1
  exact ⟨a, b, rfl, rfl, q g1 _ e1 W1 ((E.ext e1).set i (.int _))⟩

/-! ### raise -/
/-- the class x is an exception of one's own -/
structure XC (T : Sta) (x : Str) : Prop where
  mg : T.mg x = some (.ref (He.ga T.K x))
  exc : PySem.W.excIn T.K (He.ga T.K x) He.veBase "ValueError.__new__" = true
  kp : PySem.W.keepIn T.K (.ref (He.ga T.K x)) = true
  sub : PySem.W.subIn T.K (.ref (He.ga T.K x)) (.type "BaseException") = some true
  ty : PySem.W.typeIn T.K (.ref (He.ga T.K x)) = some (.type "type")
theorem s_raise {x m : Str} {j : Nat} {p p2 pos pos2 : Pos} (c : XC T x) (hc : Γ.c = true := by rfl) (hg : GlS Γ.sc x := by exact gls_of (by decide +kernel)) (hdb : (x == ("__debug__" : Str)) = false := by decide +kernel) : S1 T Γ (.Raise (some (.Call (.Name x p) [.Constant (.str m) j p2] [] pos)) none pos2) δ L (.ex x δ) L := fun X F Wx tk g σ W E D q =>
  sby (ps_raise (by rw [F.calm]; exact hc) tk (pmk_own PySem.F.excBase_ValueError (by rw [F.K]; exact c.exc) (by rw [F.mg]; exact c.mg) (by rw [F.K]; exact c.kp) (raises_own (by rw [F.K]; exact c.sub) (by rw [F.K]; exact c.ty)) (F.fit.gl hg) hdb)) (q g σ (.refl g) W E)
end
end G
set_option Elab.async false
set_option linter.all false
set_option maxRecDepth 100000
set_option maxHeartbeats 4000000
/-! G7: instances, dicts, lists that change. -/
namespace G
open PySem PySem.Spec PyProof.Rows L2
section
variable {κ α : Type} [DecidableEq κ]
/-- a dict's pairs: read, put, dropped -/
def lkA (k : κ) : List (κ × α) → Option α
  | [] => none
  | (a, x) :: r => if a = k then some x else lkA k r
def putA (k : κ) (v : α) (l : List (κ × α)) : List (κ × α) := if (l.any fun p => decide (p.1 = k)) = true then l.map (fun p => if p.1 = k then (p.1, v) else p) else l ++ [(k, v)]
def delA (k : κ) (l : List (κ × α)) : List (κ × α) := l.filter fun p => decide (p.1 ≠ k)
/-- a field put -/
def fldA (f : κ) (v : α) : List (κ × α) → List (κ × α)
  | [] => [(f, v)]
  | (g, x) :: r => if g = f then (g, v) :: r else (g, x) :: fldA f v r
end
/-- a key as data -/
def kD : Key → D
  | .inl i => .int i
  | .inr x => .str x
theorem Dt.key {K : PySem.W.Frag} {g : Gw} {v : V} {k : Key} (h : Dt K g v (kD k)) : v = kV k := by
  cases k <;> cases h <;> rfl
section
variable {K : PySem.W.Frag} {g : Gw}
theorem KvR.lk {k : Key} : ∀ {kv kvs}, KvR K g kv kvs → (∀ d, lkA k kvs = some d → ∃ v, valV kv k = some v ∧ Dt K g v d) ∧ (lkA k kvs = none → valV kv k = none)
  | _, _, .nil => ⟨fun d e => (nomatch e), fun _ => rfl⟩
  | (a, v) :: r, (b, d) :: r', .cons h t => by
    have ea : a = b := h.1
    subst ea
    have ih := KvR.lk (k := k) t
    by_cases q : a = k
    · refine ⟨fun x e => ?_, fun e => ?_⟩
      · unfold lkA at e
        rw [if_pos q] at e
        cases e
        exact ⟨v, by unfold valV; rw [List.find?_cons_of_pos (by simp [q])]; rfl, h.2⟩
      · unfold lkA at e
        rw [if_pos q] at e
        cases e
    · have z : valV ((a, v) :: r) k = valV r k := by unfold valV; rw [List.find?_cons_of_neg (by simp [q])]
      have y : lkA k ((a, d) :: r') = lkA k r' := by
        show (if a = k then some d else lkA k r') = _
        rw [if_neg q]
      rw [z, y]
      exact ih
theorem KvR.any {k : Key} : ∀ {kv kvs}, KvR K g kv kvs → (kv.any fun p => decide (p.1 = k)) = kvs.any fun p => decide (p.1 = k)
  | _, _, .nil => rfl
  | (a, v) :: r, (b, d) :: r', .cons h t => by
    have ea : a = b := h.1
    subst ea
    simp only [List.any_cons, KvR.any t]
theorem KvR.mapp {k : Key} {v : V} {d : D} (x : Dt K g v d) : ∀ {kv kvs}, KvR K g kv kvs → KvR K g (kv.map fun p => if p.1 = k then (p.1, v) else p) (kvs.map fun p => if p.1 = k then (p.1, d) else p)
  | _, _, .nil => .nil
  | (a, w) :: r, (b, e) :: r', .cons h t => by
    have ea : a = b := h.1
    subst ea
    refine .cons ?_ (KvR.mapp x t)
    by_cases q : a = k
    · have e1 : (fun p : Key × V => if p.1 = k then (p.1, v) else p) (a, w) = (a, v) := if_pos q
      have e2 : (fun p : Key × D => if p.1 = k then (p.1, d) else p) (a, e) = (a, d) := if_pos q
      rw [e1, e2]
      exact ⟨rfl, x⟩
    · have e1 : (fun p : Key × V => if p.1 = k then (p.1, v) else p) (a, w) = (a, w) := if_neg q
      have e2 : (fun p : Key × D => if p.1 = k then (p.1, d) else p) (a, e) = (a, e) := if_neg q
      rw [e1, e2]
      exact h
theorem KvR.app : ∀ {kv kvs kv2 kvs2}, KvR K g kv kvs → KvR K g kv2 kvs2 → KvR K g (kv ++ kv2) (kvs ++ kvs2)
  | _, _, _, _, .nil, s => s
  | _, _, _, _, .cons h t, s => .cons h (KvR.app t s)
theorem KvR.put {k : Key} {v : V} {d : D} {kv kvs} (x : Dt K g v d) (h : KvR K g kv kvs) : KvR K g (putK kv k v) (putA k d kvs) := by
  unfold putK putA
  rw [h.any]
  by_cases q : (kvs.any fun p => decide (p.1 = k)) = true
  · rw [if_pos q, if_pos q]
    exact h.mapp x
  · rw [if_neg q, if_neg q]
    exact h.app (.cons ⟨rfl, x⟩ .nil)
theorem KvR.del {k : Key} : ∀ {kv kvs}, KvR K g kv kvs → KvR K g (dropK kv k) (delA k kvs)
  | _, _, .nil => .nil
  | (a, w) :: r, (b, e) :: r', .cons h t => by
    have ea : a = b := h.1
    subst ea
    have ih := KvR.del (k := k) t
    unfold dropK delA at ih ⊢
    by_cases q : a = k
    · rw [List.filter_cons, List.filter_cons, if_neg (by simp [q]), if_neg (by simp [q])]
      exact ih
    · rw [List.filter_cons, List.filter_cons, if_pos (by simp [q]), if_pos (by simp [q])]
      exact .cons h ih
theorem KvR.len : ∀ {kv kvs}, KvR K g kv kvs → kv.length = kvs.length
  | _, _, .nil => rfl
  | _, _, .cons _ t => congrArg Nat.succ (KvR.len t)
theorem KvR.keys : ∀ {kv kvs}, KvR K g kv kvs → kv.map (·.1) = kvs.map (·.1)
  | _, _, .nil => rfl
  | _, _, .cons h t => by
    rw [List.map_cons, List.map_cons, KvR.keys t, h.1]
theorem FldR.lk {f : Str} {d : D} : ∀ {fv fs}, FldR K g fv fs → fs.lookup f = some d → ∃ v, fv.lookup f = some v ∧ Dt K g v d
  | _, _, .nil, e => nomatch e
  | (a, v) :: r, (b, x) :: r', .cons h t, e => by
    have ea : a = b := h.1
    subst ea
    rw [List.lookup_cons] at e ⊢
    cases q : (f == a) with
    | true =>
      rw [q] at e
      cases e
      exact ⟨v, rfl, h.2⟩
    | false =>
      rw [q] at e
      exact FldR.lk t e
theorem FldR.put {f : Str} {v : V} {d : D} (x : Dt K g v d) : ∀ {fv fs}, FldR K g fv fs → FldR K g (putF f v fv) (fldA f d fs)
  | _, _, .nil => .cons ⟨rfl, x⟩ .nil
  | (a, w) :: r, (b, y) :: r', .cons h t => by
    have ea : a = b := h.1
    subst ea
    show FldR K g (if a = f then (a, v) :: r else (a, w) :: putF f v r) (if a = f then (a, d) :: r' else (a, y) :: fldA f d r')
    by_cases q : a = f
    · rw [if_pos q, if_pos q]
      exact .cons ⟨rfl, x⟩ t
    · rw [if_neg q, if_neg q]
      exact .cons h (FldR.put x t)
theorem FldR.len : ∀ {fv fs}, FldR K g fv fs → fv.length = fs.length
  | _, _, .nil => rfl
  | _, _, .cons _ t => congrArg Nat.succ (FldR.len t)
end
/-- f is a plain attribute of C's instances -/
structure FldOk (T : Sta) (C f : Str) : Prop where
  cls : Cls T.K (He.ga T.K C)
  no : NoAttr T.K (He.ga T.K C) f
section
variable {T : Sta} {Γ : GC} {δ δ' : Env'} {L M1 M2 M3 L' : Store}
theorem Wo.ins {g : Gw} (W : Wo T.K g L) {k : Nat} {C : Str} {fs} (h : L[k]? = some (.ins C fs)) : g.own (g.ι k) = .cell k ∧ ∃ dx fv, g.H (g.ι k) = some (.ins (He.ga T.K C) dx fv) ∧ FldR T.K g fv fs := W.at_ k _ h
theorem Wo.dict {g : Gw} (W : Wo T.K g L) {k : Nat} {kvs} (h : L[k]? = some (.dict kvs)) : g.own (g.ι k) = .cell k ∧ ∃ kv, g.H (g.ι k) = some (.dK kv) ∧ KvR T.K g kv kvs := W.at_ k _ h
theorem Wo.list {g : Gw} (W : Wo T.K g L) {k : Nat} {ds} (h : L[k]? = some (.list ds)) : g.own (g.ι k) = .cell k ∧ ∃ xs, g.H (g.ι k) = some (.lst xs) ∧ DtL T.K g xs ds := W.at_ k _ h
/-- a dict that is read: as it is, or while it is walked -/
def RdDict (L : Store) (k : Nat) (kvs : List (Key × D)) : Prop := L[k]? = some (.dict kvs) ∨ L[k]? = some (.lock kvs)
theorem RdDict.at {g : Gw} (W : Wo T.K g L) {k : Nat} {kvs} (h : RdDict L k kvs) : ∃ kv, Rd g.H (g.ι k) (.dK kv) ∧ KvR T.K g kv kvs := by
  rcases h with h | h
  · obtain ⟨_, kv, h1, h2⟩ := W.dict h
    exact ⟨kv, .inl h1, h2⟩
  · obtain ⟨_, kv, h1, h2⟩ := (show CellOk T.K g k (.lock kvs) from W.at_ k _ h)
    exact ⟨kv, h1, h2⟩
/-! ### fields -/
theorem ev_fld {o : Expr} {f C : Str} {pos : Pos} {k : Nat} {fs : List (Str × D)} {d : D} (ho : EV T Γ o δ L (.ref k) M1) (hk : M1[k]? = some (.ins C fs)) (hf : fs.lookup f = some d) (c : FldOk T C f) (hb : ∀ env : Env, attributeBase o f env (eval o env) = eval o env := by intro _; rfl) : EV T Γ (.Attribute o f pos) δ L d M1 := fun X F g σ W E Q q => by
  refine eby (pe_fld eself (hb _)) ?_
  refine ho X F g σ W E _ fun v g1 e1 W1 d1 => ?_
  cases d1
  obtain ⟨_, dx, fv, h1, h2⟩ := W1.ins hk
  obtain ⟨v, h3, h4⟩ := h2.lk hf
  exact ⟨_, _, dx, fv, v, rfl, h1, by rw [F.K]; exact c.cls, by rw [F.K]; exact c.no, h3, q v g1 e1 W1 h4⟩
theorem s_fld {o v : Expr} {f C : Str} {pos pos' : Pos} {k : Nat} {fs : List (Str × D)} {d : D} (hv : EV T Γ v δ L d M1) (ho : EV T Γ o δ M1 (.ref k) M2) (hk : M2[k]? = some (.ins C fs)) (c : FldOk T C f) (hl : fs.length < 1000 := by decide) (hs : ∀ env : Env, swapsWith v (some (.Attribute o f pos')) pos.line env = pure false := by intro _; rfl) :
    S1 T Γ (.Assign [.Attribute o f pos'] v pos) δ L (.nx δ) (M2.set k (.ins C (fldA f d fs))) := fun X F Wx tk g σ W E D q => by
  refine sby (ps_fld eself eself (hs _)) ?_
  refine hv X F.fit g σ W E _ fun u g1 e1 W1 d1 => ?_
  refine ho X F.fit g1 σ W1 (E.ext e1) _ fun x g2 e2 W2 d2 => ?_
  cases d2
  obtain ⟨w, dx, fv, h1, h2⟩ := W2.ins hk
  refine ⟨_, _, dx, fv, rfl, h1, by rw [F.K]; exact c.cls, by rw [F.K]; exact c.no, by rw [h2.len]; exact hl, ?_⟩
  have e3 := put_ext (o := HO.ins (He.ga T.K C) dx (putF f u fv)) w
  exact q (g2.put k _) σ ((e1.trans e2).trans e3) (W2.put hk w ⟨w, dx, _, upd_same, (h2.ext e3).put ((d1.ext e2).ext e3)⟩) (((E.ext e1).ext e2).ext e3)
theorem s_fldX {o v : Expr} {f C' : Str} {pos pos' : Pos} (hv : EX T Γ v δ L C' M1) (hs : ∀ env : Env, swapsWith v (some (.Attribute o f pos')) pos.line env = pure false := by intro _; rfl) :
    S1 T Γ (.Assign [.Attribute o f pos'] v pos) δ L (.ex C' δ) M1 := fun X F Wx tk g σ W E D q => by
  refine sby (ps_fld eself eself (hs _)) ?_
  exact hv X F.fit Wx tk g σ W E (fun g1 e1 W1 => q g1 σ e1 W1 (E.ext e1)) _
/-- o.f += v, o.f -= v of ints -/
theorem s_fldaug {o v : Expr} {f C : Str} {op : Operator} {h : Int → Int → Int} {pos pos' : Pos} {k : Nat} {fs : List (Str × D)} {a b : Int} (hop : ∀ X : Cx, InOp X op (rI0 fun i j => .int (h i j))) (ho : EV T Γ o δ L (.ref k) M1) (hk : M1[k]? = some (.ins C fs)) (hf : fs.lookup f = some (.int a)) (hv : EV T Γ v δ M1 (.int b) M1) (c : FldOk T C f) (hl : fs.length < 1000 := by decide) :
    S1 T Γ (.AugAssign (.Attribute o f pos') op v pos) δ L (.nx δ) (M1.set k (.ins C (fldA f (.int (h a b)) fs))) := fun X F Wx tk g σ W E D q => by
  refine sby (ps_fldaug eself eself (hop X)) ?_
  refine ho X F.fit g σ W E _ fun u g1 e1 W1 d1 => ?_
  cases d1
  obtain ⟨w, dx, fv, h1, h2⟩ := W1.ins hk
  obtain ⟨x, h3, h4⟩ := h2.lk hf
  cases h4
  refine ⟨_, _, dx, fv, _, rfl, h1, by rw [F.K]; exact c.cls, by rw [F.K]; exact c.no, h3, ?_⟩
  refine hv X F.fit g1 σ W1 (E.ext e1) _ fun y g2 e2 W2 d2 => ?_
  cases d2
  obtain ⟨w2, dx2, fv2, h5, h6⟩ := W2.ins hk
  have ei : g2.ι k = g1.ι k := e2.ι k (W1.lt hk)
  refine ⟨a, b, rfl, rfl, dx2, fv2, by rw [← ei]; exact h5, by rw [h6.len]; exact hl, ?_⟩
  have e3 := put_ext (o := HO.ins (He.ga T.K C) dx2 (putF f (.int (h a b)) fv2)) w2
  have z := q (g2.put k _) σ ((e1.trans e2).trans e3) (W2.put hk w2 ⟨w2, dx2, _, upd_same, (h6.ext e3).put (.int _)⟩) (((E.ext e1).ext e2).ext e3)
  rw [← ei]
  exact z

/-! ### dicts -/
theorem ev_dget {o i : Expr} {pos : Pos} {k : Nat} {kvs} {y : Key} {d : D} (ho : EV T Γ o δ L (.ref k) M1) (hi : EV T Γ i δ M1 (kD y) M2) (hk : RdDict M2 k kvs) (hl : lkA y kvs = some d) (hc : Γ.c = true := by rfl) (hs : NoSl i := by intro _ _; rfl) : EV T Γ (.Subscript o i pos) δ L d M2 := fun X F g σ W E Q q => by
  refine eby (pe_dget (hu_of (F.room hc)) eself eself hs) ?_
  refine ho X F g σ W E _ fun v g1 e1 W1 d1 => ?_
  refine hi X F g1 σ W1 (E.ext e1) _ fun u g2 e2 W2 d2 => ?_
  have d1' := d1.ext e2
  cases d1'
  obtain ⟨kv, h1, h2⟩ := hk.at W2
  obtain ⟨w, h3, h4⟩ := h2.lk.1 d hl
  exact ⟨_, w, rfl, .inl ⟨kv, y, h1, d2.key, h3.symm⟩, q w g2 (e1.trans e2) W2 h4⟩
theorem lk_isSome {g : Gw} {kv kvs} {y : Key} (h : KvR T.K g kv kvs) : (valV kv y).isSome = (lkA y kvs).isSome := by
  cases e : lkA y kvs with
  | none => rw [h.lk.2 e]; rfl
  | some d =>
    obtain ⟨v, h1, _⟩ := h.lk.1 d e
    rw [h1]
    rfl
theorem ev_din {o i : Expr} {pos : Pos} {k : Nat} {kvs} {y : Key} (hi : EV T Γ i δ L (kD y) M1) (ho : EV T Γ o δ M1 (.ref k) M2) (hk : RdDict M2 k kvs) (hc : Γ.c = true := by rfl) (hm : behindInMarks .In o = false := by rfl) : EV T Γ (.Compare i [.In] [o] pos) δ L (.bl (lkA y kvs).isSome) M2 := fun X F g σ W E Q q => by
  refine eby (pe_cmp (pc_din (hu_of (F.room hc)) eself eself) hm) ?_
  refine hi X F g σ W E _ fun v g1 e1 W1 d1 => ?_
  refine ho X F g1 σ W1 (E.ext e1) _ fun u g2 e2 W2 d2 => ?_
  cases d2
  obtain ⟨kv, h1, h2⟩ := hk.at W2
  have z := lk_isSome (T := T) (y := y) h2
  refine ⟨_, valV kv y, rfl, .inl ⟨kv, y, h1, d1.key, rfl⟩, ?_⟩
  rw [z]
  exact q _ g2 (e1.trans e2) W2 (.bl _)
theorem ev_dnin {o i : Expr} {pos : Pos} {k : Nat} {kvs} {y : Key} (hi : EV T Γ i δ L (kD y) M1) (ho : EV T Γ o δ M1 (.ref k) M2) (hk : RdDict M2 k kvs) (hc : Γ.c = true := by rfl) (hm : behindInMarks .NotIn o = false := by rfl) : EV T Γ (.Compare i [.NotIn] [o] pos) δ L (.bl (!(lkA y kvs).isSome)) M2 := fun X F g σ W E Q q => by
  refine eby (pe_cmp (pc_dnotin (hu_of (F.room hc)) eself eself) hm) ?_
  refine hi X F g σ W E _ fun v g1 e1 W1 d1 => ?_
  refine ho X F g1 σ W1 (E.ext e1) _ fun u g2 e2 W2 d2 => ?_
  cases d2
  obtain ⟨kv, h1, h2⟩ := hk.at W2
  have z := lk_isSome (T := T) (y := y) h2
  refine ⟨_, valV kv y, rfl, .inl ⟨kv, y, h1, d1.key, rfl⟩, ?_⟩
  rw [z]
  exact q _ g2 (e1.trans e2) W2 (.bl _)
theorem s_dput {o i v : Expr} {pos pos' : Pos} {k : Nat} {kvs} {y : Key} {d : D} (hv : EV T Γ v δ L d M1) (ho : EV T Γ o δ M1 (.ref k) M2) (hi : EV T Γ i δ M2 (kD y) M3) (hk : M3[k]? = some (.dict kvs)) (hl : kvs.length < sizeLine) (hc : Γ.c = true := by rfl)
    (hs : ∀ env : Env, swapsWith v (some (.Subscript o i pos')) pos.line env = pure false := by intro _; rfl) : S1 T Γ (.Assign [.Subscript o i pos'] v pos) δ L (.nx δ) (M3.set k (.dict (putA y d kvs))) := fun X F Wx tk g σ W E D q => by
  refine sby (ps_dput (hu_of (F.room hc)) eself eself eself (hs _)) ?_
  refine hv X F.fit g σ W E _ fun u g1 e1 W1 d1 => ?_
  refine ho X F.fit g1 σ W1 (E.ext e1) _ fun x g2 e2 W2 d2 => ?_
  refine hi X F.fit g2 σ W2 ((E.ext e1).ext e2) _ fun z g3 e3 W3 d3 => ?_
  have d2' := d2.ext e3
  cases d2'
  obtain ⟨w, kv, h1, h2⟩ := W3.dict hk
  refine ⟨_, _, rfl, .inl ⟨kv, y, h1, d3.key, by rw [h2.len]; exact hl, rfl⟩, ?_⟩
  have e4 := put_ext (o := HO.dK (putK kv y u)) w
  exact q (g3.put k _) σ (((e1.trans e2).trans e3).trans e4) (W3.put hk w ⟨w, _, upd_same, (h2.ext e4).put (((d1.ext e2).ext e3).ext e4)⟩) ((((E.ext e1).ext e2).ext e3).ext e4)
/-- d[k] += e of ints -/
theorem s_daug {o i v : Expr} {op : Operator} {h : Int → Int → Int} {pos pos' : Pos} {k : Nat} {kvs} {y : Key} {a b : Int} (hop : ∀ X : Cx, InOp X op (rI0 fun i j => .int (h i j))) (ho : EV T Γ o δ L (.ref k) M1) (hi : EV T Γ i δ M1 (kD y) M2) (hk : M2[k]? = some (.dict kvs)) (hg : lkA y kvs = some (.int a)) (hv : EV T Γ v δ M2 (.int b) M2) (hl : kvs.length < sizeLine) (hc : Γ.c = true := by rfl)
    (ha : ∀ ov iv new, augStore i ov iv new = (do holding [new, ov, iv] (setItem ov iv new); release [new, ov, iv] []; pure .next) := by intro _ _ _; rfl) : S1 T Γ (.AugAssign (.Subscript o i pos') op v pos) δ L (.nx δ) (M2.set k (.dict (putA y (.int (h a b)) kvs))) := fun X F Wx tk g σ W E D q => by
  refine sby (ps_daug (hu_of (F.room hc)) eself eself eself (hop X) ha) ?_
  refine ho X F.fit g σ W E _ fun u g1 e1 W1 d1 => ?_
  refine hi X F.fit g1 σ W1 (E.ext e1) _ fun x g2 e2 W2 d2 => ?_
  have d1' := d1.ext e2
  cases d1'
  obtain ⟨w, kv, h1, h2⟩ := W2.dict hk
  obtain ⟨z, h3, h4⟩ := h2.lk.1 _ hg
  cases h4
  refine ⟨_, _, rfl, .inl ⟨kv, y, .inl h1, d2.key, h3.symm⟩, ?_⟩
  refine hv X F.fit g2 σ W2 ((E.ext e1).ext e2) _ fun t g3 e3 W3 d3 => ?_
  cases d3
  obtain ⟨w3, kv3, h5, h6⟩ := W3.dict hk
  have ei : g3.ι k = g2.ι k := e3.ι k (W2.lt hk)
  refine ⟨a, b, rfl, rfl, _, .inl ⟨kv3, y, by rw [← ei]; exact h5, d2.key, by rw [h6.len]; exact hl, rfl⟩, ?_⟩
  have e4 := put_ext (o := HO.dK (putK kv3 y (.int (h a b)))) w3
  have z := q (g3.put k _) σ (((e1.trans e2).trans e3).trans e4) (W3.put hk w3 ⟨w3, _, upd_same, (h6.ext e4).put (.int _)⟩) ((((E.ext e1).ext e2).ext e3).ext e4)
  rw [← ei]
  exact z
/-- d.pop(k), the key there -/
theorem ev_dpop {o i : Expr} {apos pos : Pos} {k : Nat} {kvs} {y : Key} {d : D} (ho : EV T Γ o δ L (.ref k) M1) (hk1 : ∃ kvs, M1[k]? = some (.dict kvs)) (hi : EV T Γ i δ M1 (kD y) M2) (hk : M2[k]? = some (.dict kvs)) (hl : lkA y kvs = some d) (m : ∀ X : Cx, L2.M1 X o "pop" apos i pos) : EV T Γ (.Call (.Attribute o "pop" apos) [i] [] pos) δ L d (M2.set k (.dict (delA y kvs))) := fun X F g σ W E Q q => by
  refine eby (pe_dpop1 eself eself (m X)) ?_
  refine ho X F g σ W E _ fun v g1 e1 W1 d1 => ?_
  have hn : k < g1.n := by cases d1; assumption
  have ev : v = .ref (g1.ι k) := by cases d1; rfl
  obtain ⟨kvs1, hk1⟩ := hk1
  obtain ⟨_, kv1, x1, _⟩ := W1.dict hk1
  refine ⟨_, ev, .inl ⟨kv1, .inl x1⟩, ?_⟩
  refine hi X F g1 σ W1 (E.ext e1) _ fun u g2 e2 W2 d2 => ?_
  obtain ⟨w, kv, h1, h2⟩ := W2.dict hk
  obtain ⟨z, h3, h4⟩ := h2.lk.1 d hl
  have ei : g2.ι k = g1.ι k := e2.ι k hn
  refine ⟨kv, y, z, by rw [← ei]; exact h1, d2.key, h3, ?_⟩
  have e3 := put_ext (o := HO.dK (dropK kv y)) w
  have r := q z (g2.put k _) ((e1.trans e2).trans e3) (W2.put hk w ⟨w, _, upd_same, (h2.ext e3).del⟩) (h4.ext e3)
  rw [← ei]
  exact r
end
end G
set_option Elab.async false
set_option linter.all false
set_option maxRecDepth 100000
set_option maxHeartbeats 4000000
/-! G8: what is walked; for, while; comprehensions. -/
namespace G
open PySem PySem.Spec PyProof.Rows L2
/-- J walks items, where P is true of the store -/
structure ItOk (K : PySem.W.Frag) (J : It) (P : Store → Prop) (items : List D) (g1 : Gw) : Prop where
  go : ∀ g L i, Ext g1 g → Wo K g L → P L → i < items.length → J.go i g.H
  yld : ∀ g L i x H' d, Ext g1 g → Wo K g L → P L → items[i]? = some d → J.yld i g.H x H' → ∃ g' : Gw, g'.H = H' ∧ Ext g g' ∧ Wo K g' L ∧ Dt K g' x d
  stop : ∀ g L i, Ext g1 g → Wo K g L → P L → items.length ≤ i → J.stop i g.H
def IV (T : Sta) (Γ : GC) (tg iter : Expr) (δ : Env') (L : Store) (P : Store → Prop) (items : List D) (M1 : Store) : Prop := ∀ X, Fit T Γ X → ∃ wi : TI, PI X tg iter wi ∧ ∀ (g : Gw) (σ : L2.St), Wo T.K g L → EnvOk T.K g σ δ → ∀ R : It → Hp → Prop, (∀ J g1, Ext g g1 → Wo T.K g1 M1 → ItOk T.K J P items g1 → R J g1.H) → wi σ g.H R
section
variable {T : Sta} {Γ : GC} {δ δ' : Env'} {L M1 M2 M3 L' : Store}
theorem itl_ok {a : Addr} {xs : List V} {ds : List D} {P : Store → Prop} {g1 : Gw} (h : ∀ g L, Ext g1 g → Wo T.K g L → P L → ∃ xs', SqL T.K g.H a xs' ∧ DtL T.K g xs' ds) : ItOk T.K (Itl T.K a) P ds g1 where
  go := fun g L i e W p hi => by
    obtain ⟨xs', h1, h2⟩ := h g L e W p
    have hl : i < xs'.length := by rw [h2.len]; exact hi
    exact ⟨xs', xs'[i], h1, List.getElem?_eq_getElem hl⟩
  yld := fun g L i x H' d e W p hd ⟨q1, q2⟩ => by
    obtain ⟨xs', h1, h2⟩ := h g L e W p
    subst q1
    obtain ⟨v, h3, h4⟩ := h2.get hd
    have z := q2 xs' h1
    rw [h3] at z
    cases z
    exact ⟨g, rfl, .refl g, W, h4⟩
  stop := fun g L i e W p hi => by
    obtain ⟨xs', h1, h2⟩ := h g L e W p
    exact ⟨xs', h1, by rw [h2.len]; exact hi⟩
theorem iv_lst {tg e : Expr} {ds : List D} (h : EV T Γ e δ L (.lst ds) M1) : IV T Γ tg e δ L (fun _ => True) ds M1 := fun X F => ⟨_, pi_list eself, fun g σ W E R r => h X F g σ W E _ fun v g1 e1 W1 d1 => by
  cases d1 with
  | lst hp hl => exact ⟨_, rfl, ⟨_, by rw [F.K]; exact hp.sq⟩, by
      rw [F.K]
      exact r _ g1 e1 W1 (itl_ok (xs := []) fun g2 L2 e2 W2 _ => ⟨_, (hp.ext e2).sq, hl.ext e2⟩)⟩⟩
theorem iv_scr {tg e : Expr} {ns : List Int} (h : EV T Γ e δ L (.scr ns) M1) : IV T Γ tg e δ L (fun _ => True) (ns.map D.int) M1 := fun X F => ⟨_, pi_list eself, fun g σ W E R r => h X F g σ W E _ fun v g1 e1 W1 d1 => by
  cases d1 with
  | scr hp => exact ⟨_, rfl, ⟨_, by rw [F.K]; exact hp.sq⟩, by
      rw [F.K]
      exact r _ g1 e1 W1 (itl_ok (xs := []) fun g2 L2 e2 W2 _ => ⟨_, (hp.ext e2).sq, DtL.ints _⟩)⟩⟩
theorem iv_cell {tg e : Expr} {k : Nat} {ds : List D} (h : EV T Γ e δ L (.ref k) M1) (hk : M1[k]? = some (.list ds)) : IV T Γ tg e δ L (fun L => L[k]? = some (.list ds)) ds M1 := fun X F => ⟨_, pi_list eself, fun g σ W E R r => h X F g σ W E _ fun v g1 e1 W1 d1 => by
  cases d1 with
  | ref hn =>
    obtain ⟨_, xs, h1, h2⟩ := W1.list hk
    exact ⟨_, rfl, ⟨xs, .inl (.inl h1)⟩, by
      rw [F.K]
      exact r _ g1 e1 W1 (itl_ok (xs := []) fun g2 L2 e2 W2 p => by
        obtain ⟨_, ys, h3, h4⟩ := W2.list p
        rw [e2.ι k hn] at h3
        exact ⟨ys, .inl (.inl h3), h4⟩)⟩⟩
theorem iv_tup {tg e : Expr} {ds : List D} (h : EV T Γ e δ L (.tup ds) M1) : IV T Γ tg e δ L (fun _ => True) ds M1 := fun X F => ⟨_, pi_tup eself, fun g σ W E R r => h X F g σ W E _ fun v g1 e1 W1 d1 => by
  cases d1 with
  | @tup a xs _ hp hl => exact ⟨_, rfl, ⟨_, by rw [F.K]; exact hp.sq⟩, by
      rw [F.K]
      refine r _ g1 e1 W1 ⟨fun g L i e W p hi => ?_, fun g L i x H' d e W p hd q => ?_, fun g L i e W p hi => ?_⟩
      · have hl' : i < xs.length := by rw [hl.len]; exact hi
        exact ⟨xs, xs[i], (hp.ext e).sq, List.getElem?_eq_getElem hl'⟩
      · obtain ⟨q1, q2⟩ := q
        subst q1
        obtain ⟨v, h3, h4⟩ := (hl.ext e).get hd
        have z := q2 xs (hp.ext e).sq
        rw [h3] at z
        cases z
        exact ⟨g, rfl, .refl g, W, h4⟩
      · exact ⟨xs, (hp.ext e).sq, by rw [hl.len]; exact hi⟩⟩⟩
def rngD (lo : Int) (n : Nat) : List D := (List.range n).map fun i : Nat => .int (lo + (i : Int))
theorem itr_ok {lo : Int} {n : Nat} {g1 : Gw} : ItOk T.K (Itr lo n) (fun _ => True) (rngD lo n) g1 where
  go := fun g L i e W p hi => by
    unfold rngD at hi
    rw [List.length_map, List.length_range] at hi
    exact hi
  yld := fun g L i x H' d e W p hd q => by
    obtain ⟨q1, q2⟩ := q
    subst q1 q2
    unfold rngD at hd
    rw [List.getElem?_map] at hd
    cases h : (List.range n)[i]? with
    | none => rw [h] at hd; cases hd
    | some j =>
      rw [h] at hd
      cases hd
      have ej : j = i := by
        obtain ⟨_, z⟩ := List.getElem?_eq_some_iff.mp h
        rw [List.getElem_range] at z
        exact z.symm
      subst ej
      exact ⟨g, rfl, .refl g, W, .int _⟩
  stop := fun g L i e W p hi => by
    unfold rngD at hi
    rw [List.length_map, List.length_range] at hi
    exact hi
theorem iv_range1 {tg a : Expr} {p pos : Pos} {n : Int} (h : EV T Γ a δ L (.int n) M1) (hm : T.mg "range" = none) (h1 : -(2 ^ 62) ≤ n) (h2 : n < 2 ^ 62) (hg : GlS Γ.sc "range" := by exact gls_of (by decide +kernel)) (hs : ∀ env : Env, starEach [a] env = [(false, eval a env)] := by intro _; exact star_one rfl) : IV T Γ tg (.Call (.Name "range" p) [a] [] pos) δ L (fun _ => True) (rngD 0 n.toNat) M1 := fun X F =>
  ⟨_, pi_range1 (F.gl hg) (by rw [F.mg]; exact hm) (pa_cons eself pa_nil (hs _)) (hs _), fun g σ W E R r => h X F g σ W E _ fun v g1 e1 W1 d1 => by
    cases d1
    exact ⟨n, rfl, h1, h2, r _ g1 e1 W1 itr_ok⟩⟩
theorem iv_range2 {tg a b : Expr} {p pos : Pos} {n m : Int} (h : EV T Γ a δ L (.int n) M1) (h' : EV T Γ b δ M1 (.int m) M2) (hm : T.mg "range" = none) (h1 : -(2 ^ 62) ≤ n ∧ n < 2 ^ 62 ∧ -(2 ^ 62) ≤ m ∧ m < 2 ^ 62) (hg : GlS Γ.sc "range" := by exact gls_of (by decide +kernel)) (hs : ∀ env : Env, starEach [a, b] env = [(false, eval a env), (false, eval b env)] := by intro _; rfl) (hs2 : ∀ env : Env, starEach [b] env = [(false, eval b env)] := by intro _; exact star_one rfl) : IV T Γ tg (.Call (.Name "range" p) [a, b] [] pos) δ L (fun _ => True) (rngD n (m - n).toNat) M2 := fun X F =>
  ⟨_, pi_range2 (F.gl hg) (by rw [F.mg]; exact hm) (pa_cons eself (pa_cons eself pa_nil (hs2 _)) (by rw [hs, hs2])) (hs _) (hs2 _), fun g σ W E R r => h X F g σ W E _ fun v g1 e1 W1 d1 => h' X F g1 σ W1 (E.ext e1) _ fun u g2 e2 W2 d2 => by
    cases d1
    cases d2
    exact ⟨n, m, rfl, h1, r _ g2 (e1.trans e2) W2 itr_ok⟩⟩
end
/-! ### for -/
inductive FV (T : Sta) (Γ : GC) (t : TG) (body : List Stmt) (P : Store → Prop) : List D → Env' → Store → Oc → Store → Prop
  | nil {a : Env'} {S : Store} : FV T Γ t body P [] a S (.nx a) S
  | step {d : D} {ds : List D} {ix : List Nat} {a a1 a2 : Env'} {S S1 S' : Store} {o : Oc} (b : GB T t ix d a a1) (s : SV T Γ body a1 S (.nx a2) S1) (p : P S1) (r : FV T Γ t body P ds a2 S1 o S') : FV T Γ t body P (d :: ds) a S o S'
  | cont {d : D} {ds : List D} {ix : List Nat} {a a1 a2 : Env'} {S S1 S' : Store} {o : Oc} (b : GB T t ix d a a1) (s : SV T Γ body a1 S (.ct a2) S1) (p : P S1) (r : FV T Γ t body P ds a2 S1 o S') : FV T Γ t body P (d :: ds) a S o S'
  | ret {d : D} {ds : List D} {ix : List Nat} {a a1 : Env'} {y : D} {S S1 : Store} (b : GB T t ix d a a1) (s : SV T Γ body a1 S (.rt y) S1) : FV T Γ t body P (d :: ds) a S (.rt y) S1
  | exc {d : D} {ds : List D} {ix : List Nat} {a a1 a2 : Env'} {C : Str} {S S1 : Store} (b : GB T t ix d a a1) (s : SV T Γ body a1 S (.ex C a2) S1) : FV T Γ t body P (d :: ds) a S (.ex C a2) S1
  | brk {d : D} {ds : List D} {ix : List Nat} {a a1 a2 : Env'} {S S1 : Store} (b : GB T t ix d a a1) (s : SV T Γ body a1 S (.bk a2) S1) : FV T Γ t body P (d :: ds) a S (.nx a2) S1
section
variable {T : Sta} {Γ : GC} {δ δ' : Env'} {L M1 M2 M3 L' : Store}
theorem s_for {tg iter : Expr} {body : List Stmt} {pos : Pos} {t : TG} {P : Store → Prop} {items : List D} {o : Oc} (hi : IV T Γ tg iter δ L P items M1) (hP : P M1) (ht : Tgt T Γ tg t) (hf : FV T Γ t body P items δ M1 o L') (hc : Γ.c = true := by rfl)
    (hs : ∀ (env : Env) x, foldedSetIterable iter env x = pure x := by intro _ _; rfl) : S1 T Γ (.For tg iter body [] pos) δ L o L' := fun X F Wx tk g σ W E Dn q => by
  obtain ⟨wi, hpi, hw⟩ := hi X F.fit
  refine sby (ps_for F.po (by rw [F.calm]; exact hc) hpi (ht X F.fit F.st) bself (hs _)) ?_
  refine hw g σ W E _ fun J g1 e1 W1 ok => ?_
  refine ⟨fun i m σ' H' => ∃ (g' : Gw) (δ' : Env') (L₁ : Store) (rest : List D), g'.H = H' ∧ Ext g1 g' ∧ Wo T.K g' L₁ ∧ EnvOk T.K g' σ' δ' ∧ P L₁ ∧ items.drop i = rest ∧ m = rest.length ∧ FV T Γ t body P rest δ' L₁ o L',
    ⟨_, g1, δ, M1, items, rfl, .refl g1, W1, E.ext e1, hP, rfl, rfl, hf⟩, ?_⟩
  rintro i m σ' H' ⟨g', δ', L₁, rest, rfl, e', W', E', p', hr, rfl, fv⟩
  have qx : PostS T.K Dn Wx g' o L' := (q.ext e1).ext e'
  have at_ : ∀ {d ds}, rest = d :: ds → i < items.length ∧ items[i]? = some d ∧ items.drop (i + 1) = ds := fun {d ds} er => by
    rw [er] at hr
    have hl : i < items.length := by
      rcases Nat.lt_or_ge i items.length with h | h
      · exact h
      · rw [List.drop_eq_nil_of_le h] at hr; cases hr
    rw [List.drop_eq_getElem_cons hl] at hr
    injection hr with h1 h2
    exact ⟨hl, by rw [List.getElem?_eq_getElem hl, h1], h2⟩
  have nxt : ∀ {d ds δ2 M} , rest = d :: ds → P M → FV T Γ t body P ds δ2 M o L' → ∀ g3 σ3, Ext g' g3 → Wo T.K g3 M → EnvOk T.K g3 σ3 δ2 →
      ∃ m', m' < rest.length ∧ ∃ (g'' : Gw) (δ'' : Env') (L₂ : Store) (rest' : List D), g''.H = g3.H ∧ Ext g1 g'' ∧ Wo T.K g'' L₂ ∧ EnvOk T.K g'' σ3 δ'' ∧ P L₂ ∧ items.drop (i + 1) = rest' ∧ m' = rest'.length ∧ FV T Γ t body P rest' δ'' L₂ o L' :=
    fun {d ds δ2 M} er p fr g3 σ3 e3 W3 E3 => ⟨ds.length, by rw [er]; exact Nat.lt_succ_self _, g3, δ2, M, ds, rfl, e'.trans e3, W3, E3, p, (at_ er).2.2, rfl, fr⟩
  cases fv with
  | nil =>
    have hl : items.length ≤ i := by
      rcases Nat.lt_or_ge i items.length with h | h
      · rw [List.drop_eq_getElem_cons h] at hr; cases hr
      · exact h
    exact .inl ⟨ok.stop g' _ i e' W' p' hl, qx g' σ' (.refl g') W' E'⟩
  | @step d ds ix _ δ1 δ2 _ M _ _ b s p r =>
    obtain ⟨hl, hd, _⟩ := at_ rfl
    refine .inr ⟨ok.go g' L₁ i e' W' p' hl, fun σ3 H3 => ∃ g3 : Gw, g3.H = H3 ∧ Ext g' g3 ∧ Wo T.K g3 M ∧ EnvOk T.K g3 σ3 δ2, ?_, fun x H2 y => ?_⟩
    · rintro σ3 H3 ⟨g3, rfl, e3, W3, E3⟩
      exact nxt rfl p r g3 σ3 e3 W3 E3
    · obtain ⟨g2, rfl, e2, W2, d2⟩ := ok.yld g' L₁ i x H2 d e' W' p' hd y
      refine b g2 σ' x (E'.ext e2) d2 _ fun σ2 E2 _ => ?_
      exact s X F Wx tk g2 σ2 W2 E2 _ fun g3 σ3 e3 W3 E3 => ⟨g3, rfl, e2.trans e3, W3, E3⟩
  | @cont d ds ix _ δ1 δ2 _ M _ _ b s p r =>
    obtain ⟨hl, hd, _⟩ := at_ rfl
    refine .inr ⟨ok.go g' L₁ i e' W' p' hl, fun σ3 H3 => ∃ g3 : Gw, g3.H = H3 ∧ Ext g' g3 ∧ Wo T.K g3 M ∧ EnvOk T.K g3 σ3 δ2, ?_, fun x H2 y => ?_⟩
    · rintro σ3 H3 ⟨g3, rfl, e3, W3, E3⟩
      exact nxt rfl p r g3 σ3 e3 W3 E3
    · obtain ⟨g2, rfl, e2, W2, d2⟩ := ok.yld g' L₁ i x H2 d e' W' p' hd y
      refine b g2 σ' x (E'.ext e2) d2 _ fun σ2 E2 _ => ?_
      exact s X F Wx tk g2 σ2 W2 E2 _ fun g3 σ3 e3 W3 E3 => ⟨g3, rfl, e2.trans e3, W3, E3⟩
  | @ret d ds ix _ δ1 y _ M b s =>
    obtain ⟨hl, hd, _⟩ := at_ rfl
    refine .inr ⟨ok.go g' L₁ i e' W' p' hl, fun _ _ => False, fun _ _ z => z.elim, fun x H2 y => ?_⟩
    obtain ⟨g2, rfl, e2, W2, d2⟩ := ok.yld g' L₁ i x H2 d e' W' p' hd y
    refine b g2 σ' x (E'.ext e2) d2 _ fun σ2 E2 _ => ?_
    exact s X F Wx tk g2 σ2 W2 E2 _ fun g3 v e3 W3 d3 => qx g3 v (e2.trans e3) W3 d3
  | @exc d ds ix _ δ1 δ2 C _ M b s =>
    obtain ⟨hl, hd, _⟩ := at_ rfl
    refine .inr ⟨ok.go g' L₁ i e' W' p' hl, fun _ _ => False, fun _ _ z => z.elim, fun x H2 y => ?_⟩
    obtain ⟨g2, rfl, e2, W2, d2⟩ := ok.yld g' L₁ i x H2 d e' W' p' hd y
    refine b g2 σ' x (E'.ext e2) d2 _ fun σ2 E2 _ => ?_
    exact s X F Wx tk g2 σ2 W2 E2 _ fun g3 σ3 e3 W3 E3 => qx g3 σ3 (e2.trans e3) W3 E3
  | @brk d ds ix _ δ1 δ2 _ M b s =>
    obtain ⟨hl, hd, _⟩ := at_ rfl
    refine .inr ⟨ok.go g' L₁ i e' W' p' hl, fun _ _ => False, fun _ _ z => z.elim, fun x H2 y => ?_⟩
    obtain ⟨g2, rfl, e2, W2, d2⟩ := ok.yld g' L₁ i x H2 d e' W' p' hd y
    refine b g2 σ' x (E'.ext e2) d2 _ fun σ2 E2 _ => ?_
    exact s X F Wx tk g2 σ2 W2 E2 _ fun g3 σ3 e3 W3 E3 => qx g3 σ3 (e2.trans e3) W3 E3
end
end G
set_option Elab.async false
set_option linter.all false
set_option maxRecDepth 100000
set_option maxHeartbeats 4000000
/-! G9: while; comprehensions. -/
namespace G
open PySem PySem.Spec PyProof.Rows L2
inductive WhV (T : Sta) (Γ : GC) (c : Expr) (body : List Stmt) : Env' → Store → Oc → Store → Nat → Prop
  | stop {a : Env'} {S S1 : Store} (h : TV T Γ c a S false S1) : WhV T Γ c body a S (.nx a) S1 0
  | step {a a2 : Env'} {S S1 S2 S' : Store} {o : Oc} {n : Nat} (h : TV T Γ c a S true S1) (s : SV T Γ body a S1 (.nx a2) S2) (r : WhV T Γ c body a2 S2 o S' n) : WhV T Γ c body a S o S' (n + 1)
  | ret {a : Env'} {S S1 S2 : Store} {y : D} (h : TV T Γ c a S true S1) (s : SV T Γ body a S1 (.rt y) S2) : WhV T Γ c body a S (.rt y) S2 0
  | exc {a a2 : Env'} {S S1 S2 : Store} {C : Str} (h : TV T Γ c a S true S1) (s : SV T Γ body a S1 (.ex C a2) S2) : WhV T Γ c body a S (.ex C a2) S2 0
section
variable {T : Sta} {Γ : GC} {δ δ' : Env'} {L M1 M2 M3 L' : Store}
theorem s_while {c : Expr} {body : List Stmt} {pos : Pos} {o : Oc} {n : Nat} (h : WhV T Γ c body δ L o L' n) : S1 T Γ (.While c body [] pos) δ L o L' := fun X F Wx tk g σ W E Dn q => by
  refine sby (ps_while F.po tself bself) ?_
  refine ⟨fun m σ' H' => ∃ (g' : Gw) (δ' : Env') (S : Store), g'.H = H' ∧ Ext g g' ∧ Wo T.K g' S ∧ EnvOk T.K g' σ' δ' ∧ WhV T Γ c body δ' S o L' m, ⟨n, g, δ, L, rfl, .refl g, W, E, h⟩, ?_⟩
  rintro m σ' H' ⟨g', δ', S, rfl, e', W', E', wv⟩
  have qx : PostS T.K Dn Wx g' o L' := q.ext e'
  cases wv with
  | stop h =>
    refine h X F.fit g' σ' W' E' _ fun g1 e1 W1 => ?_
    rw [if_neg Bool.false_ne_true]
    exact qx g1 σ' e1 W1 (E'.ext e1)
  | @step _ a2 _ S1 S2 _ _ n h s r =>
    refine h X F.fit g' σ' W' E' _ fun g1 e1 W1 => ?_
    rw [if_pos rfl]
    refine ⟨fun σ3 H3 => ∃ g3 : Gw, g3.H = H3 ∧ Ext g' g3 ∧ Wo T.K g3 S2 ∧ EnvOk T.K g3 σ3 a2, ?_, ?_⟩
    · rintro σ3 H3 ⟨g3, rfl, e3, W3, E3⟩
      exact ⟨n, Nat.lt_succ_self _, g3, a2, S2, rfl, e'.trans e3, W3, E3, r⟩
    · exact s X F Wx tk g1 σ' W1 (E'.ext e1) _ fun g3 σ3 e3 W3 E3 => ⟨g3, rfl, e1.trans e3, W3, E3⟩
  | ret h2 s =>
    refine h2 X F.fit g' σ' W' E' _ fun g1 e1 W1 => ?_
    rw [if_pos rfl]
    exact ⟨fun _ _ => False, fun _ _ z => z.elim, s X F Wx tk g1 σ' W1 (E'.ext e1) _ fun g3 v e3 W3 d3 => qx g3 v (e1.trans e3) W3 d3⟩
  | exc h2 s =>
    refine h2 X F.fit g' σ' W' E' _ fun g1 e1 W1 => ?_
    rw [if_pos rfl]
    exact ⟨fun _ _ => False, fun _ _ z => z.elim, s X F Wx tk g1 σ' W1 (E'.ext e1) _ fun g3 σ3 e3 W3 E3 => qx g3 σ3 (e1.trans e3) W3 E3⟩

/-! ### comprehensions -/
def GC.blk (Γ : GC) (scope : Scope) : GC := ⟨Γ.N, relS scope Γ.sc, Γ.k, Γ.c⟩
theorem Fit.blk {X : Cx} (F : Fit T Γ X) (s : Shared) (H : Hp) (scope : Scope) (C : Addr) (cl : List (Str × Addr)) (fp : List Addr) : Fit T (Γ.blk scope) (X.blk s H scope (compEnvC scope cl C X.env) fp) := ⟨F.P, F.w, F.K, F.mg, F.base, F.N, by
  show relS scope X.env.scope = relS scope Γ.sc
  rw [F.sc], F.calm, F.room, F.nd⟩
def wipeE (δ : Env') : List Nat → Env'
  | [] => δ
  | v :: vs => (wipeE δ vs).set v none
theorem wipeE_len (δ : Env') : ∀ vs, (wipeE δ vs).length = δ.length
  | [] => rfl
  | v :: vs => by
    unfold wipeE
    rw [List.length_set, wipeE_len δ vs]
theorem EnvOk.wipe {K : PySem.W.Frag} {g : Gw} {σ : L2.St} (h : EnvOk K g σ δ) : ∀ vs, EnvOk K g (L2.wipe σ vs) (wipeE δ vs)
  | [] => h
  | v :: vs => by
    have ih := EnvOk.wipe h vs
    refine ⟨by unfold L2.wipe wipeE; rw [List.length_set, List.length_set]; exact ih.1, fun j y q => ?_⟩
    unfold L2.wipe
    unfold wipeE at q
    by_cases hj : v = j
    · subst hj
      have hl : v < (wipeE δ vs).length := by
        have := (List.getElem?_eq_some_iff.mp q).1
        rw [List.length_set] at this
        exact this
      rw [List.getElem?_set_self hl] at q
      cases q
    · rw [List.getElem?_set_ne hj] at q
      obtain ⟨u, h1, h2⟩ := ih.2 j y q
      exact ⟨u, by rw [List.getElem?_set_ne hj]; exact h1, h2⟩
theorem wipe_at (σ : L2.St) (j : Nat) : ∀ vs, (L2.wipe σ vs)[j]? = if j ∈ vs then (if j < σ.length then some none else none) else σ[j]?
  | [] => by simp [L2.wipe]
  | v :: vs => by
    unfold L2.wipe
    by_cases hj : v = j
    · subst hj
      rw [if_pos List.mem_cons_self]
      by_cases hl : v < σ.length
      · rw [if_pos hl, List.getElem?_set_self (by rw [L2.wipe_length]; exact hl)]
      · rw [if_neg hl]
        exact List.getElem?_eq_none (by rw [List.length_set, L2.wipe_length]; omega)
    · rw [List.getElem?_set_ne hj, wipe_at σ j vs]
      have : (j ∈ v :: vs) = (j ∈ vs) := by simp [List.mem_cons, Ne.symm hj]
      simp only [this]
theorem wipe_but {σ σ2 : L2.St} {vs ix : List Nat} (b : But ix (L2.wipe σ vs) σ2) (hs : ∀ j ∈ ix, j ∈ vs) : L2.wipe σ2 vs = L2.wipe σ vs := by
  have hl : σ2.length = σ.length := b.1.trans (L2.wipe_length σ vs)
  apply List.ext_getElem?
  intro j
  rw [wipe_at, wipe_at, hl]
  by_cases hj : j ∈ vs
  · rw [if_pos hj, if_pos hj]
  · rw [if_neg hj, if_neg hj, b.2 j (fun h => hj (hs j h)), wipe_at, if_neg hj]
/-- [elt for tg in iter if c]: f tells what is given of an item -/
def testsOf : Option Expr → List Expr
  | none => []
  | some c => [c]
def TTv (T : Sta) (Γ : GC) (c : Option Expr) (δ : Env') (L : Store) (b : Bool) : Prop := match c with
  | none => b = true
  | some e => TV T Γ e δ L b L
theorem ev_lc {elt tg iter : Expr} {c : Option Expr} {scope : Scope} {pos : Pos} {P : Store → Prop} {items : List D} {t : TG} {ix : List Nat} (own : List (Str × Nat)) (f : D → Option D) (hi : IV T Γ tg iter δ L P items M1) (hP : P M1) (ht : TgL T (Γ.blk scope) tg t)
    (hx : ∀ j ∈ ix, j ∈ own.map (·.2)) (turn : ∀ (i : Nat) (d : D), items[i]? = some d → ∃ δ1, GB T t ix d (wipeE δ (own.map (·.2))) δ1 ∧ TTv T (Γ.blk scope) c δ1 M1 (f d).isSome ∧ ∀ y, f d = some y → EV T (Γ.blk scope) elt δ1 M1 y M1) (hz : items.length ≤ sizeLine) (hc : Γ.c = true := by rfl)
    (ok : blkC Γ.N Γ.sc scope own = true := by decide +kernel) (hs : ∀ (env : Env) x, foldedSetIterable iter env x = pure x := by intro _ _; rfl) : EV T Γ (.ListComp elt [⟨tg, iter, testsOf c, 0⟩] scope pos) δ L (.lst (items.filterMap f)) M1 := fun X F g σ W E Q q => by
  obtain ⟨wi, hpi, hw⟩ := hi X F
  have pts : ∀ (s : Shared) (H : Hp) (C : Addr) (cl : List (Str × Addr)) (fp : List Addr), PTs (X.blk s H scope (compEnvC scope cl C X.env) fp) (testsOf c) (match c with | none => tYes | some e => fun σ H Q => ∀ X', Fit T (Γ.blk scope) X' → TXV X' e σ H Q) := fun s H C cl fp => by
    cases c with
    | none => exact pts_nil
    | some e => exact pts_one ⟨fun pins s' σ' H' Q' I h => tself.run pins s' σ' H' Q' I (h _ (F.blk s H scope C cl fp))⟩
  refine eby (pe_lc (own := own) (te := fun σ H Q => ∀ X', Fit T (Γ.blk scope) X' → EXV X' elt σ H Q) (by rw [F.calm]; exact hc) F.nd hpi (by rw [F.N, F.sc]; exact blkOk_by ok) (fun s H C cl fp => ht _ (F.blk s H scope C cl fp)) pts
    (fun s H C cl fp => ⟨fun pins s' σ' H' Q' I h => eself.run pins s' σ' H' Q' I (h _ (F.blk s H scope C cl fp))⟩) (hs _)) ?_
  refine hw g σ W E _ fun J g1 e1 W1 iok => ?_
  intro A hA
  refine ⟨fun i m H' => ∃ g' : Gw, g'.H = H' ∧ Ext g1 g' ∧ Wo T.K g' M1 ∧ g'.own A = .tmp ∧ (∃ acc, H' A = some (.lst acc) ∧ DtL T.K g' acc ((items.take i).filterMap f)) ∧ m = items.length - i ∧ i ≤ items.length,
    ⟨_, g1.push A .tmp (.lst []), rfl, push_ext hA, W1.push hA, push_own, ⟨[], upd_same, by rw [List.take_zero]; exact .nil⟩, rfl, Nat.zero_le _⟩, ?_⟩
  rintro i m H' ⟨g', rfl, e', W', ow, ⟨acc, hacc, dacc⟩, rfl, hle⟩
  by_cases hl : i < items.length
  · refine .inr ⟨iok.go g' M1 i e' W' hP hl, fun H3 => ∃ g3 : Gw, g3.H = H3 ∧ Ext g1 g3 ∧ Wo T.K g3 M1 ∧ g3.own A = .tmp ∧ ∃ acc, H3 A = some (.lst acc) ∧ DtL T.K g3 acc ((items.take (i + 1)).filterMap f), ?_, fun x H2 y => ?_⟩
    · rintro H3 ⟨g3, rfl, e3, W3, o3, a3⟩
      exact ⟨items.length - (i + 1), by omega, g3, rfl, e3, W3, o3, a3, rfl, hl⟩
    · have hd : items[i]? = some items[i] := List.getElem?_eq_getElem hl
      obtain ⟨g2, rfl, e2, W2, d2⟩ := iok.yld g' M1 i x H2 _ e' W' hP hd y
      obtain ⟨δ1, hb, htt, hel⟩ := turn i _ hd
      have E2 : EnvOk T.K g2 (L2.wipe σ (own.map (·.2))) (wipeE δ (own.map (·.2))) := (((E.ext e1).ext e').ext e2).wipe _
      refine hb g2 _ x E2 d2 _ fun σ2 E3 b3 => ?_
      have tk1 : (items.take (i + 1)).filterMap f = (items.take i).filterMap f ++ [items[i]].filterMap f := by
        rw [← List.filterMap_append, List.take_append_getElem hl]
      refine ⟨wipe_but b3 hx, ?_⟩
      have e12 : Ext g1 g2 := e'.trans e2
      have fin : ∀ g3 : Gw, Ext g2 g3 → Wo T.K g3 M1 → if (f items[i]).isSome = true then (∀ X', Fit T (Γ.blk scope) X' → EXV X' elt σ2 g3.H fun y H4 => ∃ acc, H4 A = some (.lst acc) ∧ acc.length < sizeLine ∧ ∃ g3 : Gw, g3.H = upd H4 A (.lst (acc ++ [y])) ∧ Ext g1 g3 ∧ Wo T.K g3 M1 ∧ g3.own A = .tmp ∧ ∃ acc2, upd H4 A (.lst (acc ++ [y])) A = some (.lst acc2) ∧ DtL T.K g3 acc2 ((items.take (i + 1)).filterMap f))
          else ∃ g4 : Gw, g4.H = g3.H ∧ Ext g1 g4 ∧ Wo T.K g4 M1 ∧ g4.own A = .tmp ∧ ∃ acc, g3.H A = some (.lst acc) ∧ DtL T.K g4 acc ((items.take (i + 1)).filterMap f) := fun g3 e3 W3 => by
        cases hf : f items[i] with
        | none =>
          rw [if_neg (by simp)]
          obtain ⟨k1, k2⟩ := (e2.trans e3).keep A _ hacc (.inr ow)
          refine ⟨g3, rfl, e12.trans e3, W3, k2.trans ow, acc, k1, ?_⟩
          rw [tk1]
          simp only [List.filterMap_cons, hf, List.filterMap_nil, List.append_nil]
          exact (dacc.ext e2).ext e3
        | some y =>
          rw [if_pos (by simp)]
          intro X' F'
          refine hel y hf X' F' g3 σ2 W3 (E3.ext e3) _ fun v g4 e4 W4 d4 => ?_
          obtain ⟨k1, k2⟩ := ((e2.trans e3).trans e4).keep A _ hacc (.inr ow)
          have ow4 : g4.own A = .tmp := k2.trans ow
          refine ⟨acc, k1, ?_, ?_⟩
          · rw [dacc.len]
            have h1 := List.length_filterMap_le f (items.take i)
            have h2 : (items.take i).length ≤ i := List.length_take_le _ _
            omega
          · have ed : ExtD g4 ⟨g4.n, g4.ι, g4.own, upd g4.H A (.lst (acc ++ [v]))⟩ := ⟨Nat.le_refl _, fun _ _ => rfl, fun a o h w => by
              have ne : a ≠ A := by
                intro z
                rw [z, ow4] at w
                cases w
              exact ⟨by show upd g4.H A _ a = _; rw [upd_ne ne]; exact h, w⟩⟩
            refine ⟨⟨g4.n, g4.ι, g4.own, upd g4.H A (.lst (acc ++ [v]))⟩, rfl, ?_, ?_, ow4, acc ++ [v], upd_same, ?_⟩
            · have e14 := (e12.trans e3).trans e4
              refine ⟨e14.n, e14.ι, fun a o h w => ?_⟩
              have ne : a ≠ A := ne_of_none h hA
              obtain ⟨q1, q2⟩ := e14.keep a o h w
              exact ⟨by show upd g4.H A _ a = _; rw [upd_ne ne]; exact q1, q2⟩
            · refine ⟨W4.n, fun k u h => (W4.at_ k u h).stayD ed (W4.lt h) fun o w hh => ?_⟩
              have ne : g4.ι k ≠ A := by
                intro z
                rw [z, ow4] at w
                cases w
              exact ⟨by show upd g4.H A _ _ = _; rw [upd_ne ne]; exact hh, w⟩
            · rw [tk1]
              simp only [List.filterMap_cons, hf, List.filterMap_nil]
              exact (((dacc.ext e2).ext e3).ext e4 |>.extD ed).snoc (d4.extD ed)
      cases c with
      | none =>
        have z := fin g2 (.refl g2) W2
        have hs : (f items[i]).isSome = true := htt
        rw [hs, if_pos rfl] at z
        exact z
      | some e => exact fun X' F' => htt X' F' g2 σ2 W2 E3 _ fun g3 e3 W3 => fin g3 e3 W3
  · have hl' : items.length ≤ i := by omega
    refine .inl ⟨iok.stop g' M1 i e' W' hP hl', ?_⟩
    have ed : ExtD g' ⟨g'.n, g'.ι, fun a => if a = A then .data else g'.own a, g'.H⟩ := ⟨Nat.le_refl _, fun _ _ => rfl, fun a o h w => ⟨h, by
      show (if a = A then Col.data else g'.own a) = .data
      by_cases z : a = A
      · rw [if_pos z]
      · rw [if_neg z]
        exact w⟩⟩
    have ei : items.take i = items := List.take_of_length_le hl'
    rw [ei] at dacc
    refine q (.ref A) ⟨g'.n, g'.ι, fun a => if a = A then .data else g'.own a, g'.H⟩ (e1.trans ?_) ?_ (.lst ⟨hacc, if_pos rfl⟩ (dacc.extD ed))
    · refine ⟨e'.n, e'.ι, fun a o h w => ?_⟩
      have ne : a ≠ A := ne_of_none h hA
      obtain ⟨q1, q2⟩ := e'.keep a o h w
      exact ⟨q1, by show (if a = A then Col.data else g'.own a) = _; rw [if_neg ne]; exact q2⟩
    · refine ⟨W'.n, fun k u h => (W'.at_ k u h).stayD ed (W'.lt h) fun o w hh => ⟨hh, ?_⟩⟩
      show (if g'.ι k = A then Col.data else g'.own (g'.ι k)) = _
      have ne : g'.ι k ≠ A := by
        intro z
        rw [z, ow] at w
        cases w
      rw [if_neg ne]
      exact w
end
end G
set_option Elab.async false
set_option linter.all false
set_option maxRecDepth 100000
set_option maxHeartbeats 4000000
/-! G10: sequences, equality, built-ins. -/
namespace G
open PySem PySem.Spec PyProof.Rows L2
/-! ### equality of data -/
mutual
def D.py : D → PyData
  | .non => .none
  | .bl b => .bool b
  | .int i => .int i
  | .str x => .str x
  | .ref _ => .dict []
  | .scr _ => .dict []
  | .tup ds => .tuple (pyL ds)
  | .lst ds => .list (pyL ds)
def pyL : List D → List PyData
  | [] => []
  | d :: ds => d.py :: pyL ds
end
section
variable {K : PySem.W.Frag} {g : Gw}
mutual
theorem Dt.dp : ∀ {v : V} {d : D}, Dt K g v d → d.py.canLay0 = true → Dp K g.H v d.py
  | _, _, .non, _ => .non
  | _, _, .bl b, _ => .bl b
  | _, _, .int i, _ => .int i
  | _, _, .str x, _ => .str x
  | _, _, .ref _, h => by simp [D.py, PyData.canLay0] at h
  | _, _, .scr _, h => by simp [D.py, PyData.canLay0] at h
  | _, _, .tup (ds := ds) p l, h => by
    have h' : PyData.canLayAll0 (pyL ds) = true := by simpa [D.py, PyData.canLay0] using h
    exact .tup p.sq (DtL.dp l h')
  | _, _, .lst (ds := ds) p l, h => by
    have h' : PyData.canLayAll0 (pyL ds) = true := by simpa [D.py, PyData.canLay0] using h
    exact .lst p.sq (DtL.dp l h')
theorem DtL.dp : ∀ {vs : List V} {ds : List D}, DtL K g vs ds → PyData.canLayAll0 (pyL ds) = true → DpAll K g.H vs (pyL ds)
  | _, _, .nil, _ => .nil
  | _, _, .cons (d := d) (ds := ds) h r, q => by
    have q' : PyData.canLay0 d.py = true ∧ PyData.canLayAll0 (pyL ds) = true := by simpa [pyL, PyData.canLayAll0] using q
    exact .cons (Dt.dp h q'.1) (DtL.dp r q'.2)
end
end
section
variable {T : Sta} {Γ : GC} {δ δ' : Env'} {L M1 M2 M3 L' : Store} {a b : Expr} {pos : Pos} {x y : D}
theorem ev_eq (ha : EV T Γ a δ L x M1) (hb : EV T Γ b δ M1 y M2) (hx : SeqAt.shaped x.py = true) (hy : SeqAt.shaped y.py = true) (hc : Γ.c = true := by rfl) : EV T Γ (.Compare a [.Eq] [b] pos) δ L (.bl (PyData.eqv x.py y.py)) M2 :=
  ev_cmp (rEqD T.K) (fun X F => by rw [← F.K]; exact op_eqD (F.room hc).units) ha hb (fun g v u W dv du Q q => ⟨x.py, y.py, dv.dp (SeqAt.canLay_of_shaped hx), du.dp (SeqAt.canLay_of_shaped hy), hx, hy, q _ g (.refl g) W (.bl _)⟩) (nomark _)
theorem ev_ne (ha : EV T Γ a δ L x M1) (hb : EV T Γ b δ M1 y M2) (hx : SeqAt.shaped x.py = true) (hy : SeqAt.shaped y.py = true) (hc : Γ.c = true := by rfl) : EV T Γ (.Compare a [.NotEq] [b] pos) δ L (.bl (!PyData.eqv x.py y.py)) M2 :=
  ev_cmp (rNeD T.K) (fun X F => by rw [← F.K]; exact op_neD (F.room hc).units) ha hb (fun g v u W dv du Q q => ⟨x.py, y.py, dv.dp (SeqAt.canLay_of_shaped hx), du.dp (SeqAt.canLay_of_shaped hy), hx, hy, q _ g (.refl g) W (.bl _)⟩) (nomark _)
def D.isNon : D → Bool
  | .non => true
  | _ => false
theorem Dt.isNon {K : PySem.W.Frag} {g : Gw} {v : V} {d : D} (h : Dt K g v d) : decide (v = .non) = d.isNon := by cases h <;> rfl
theorem ev_isN {j : Nat} {p : Pos} (ha : EV T Γ a δ L x M1) : EV T Γ (.Compare a [.Is] [.Constant .none j p] pos) δ L (.bl x.isNon) M1 :=
  ev_cmp _ (fun X F => op_isN) ha ev_non (fun g v u W dv du Q q => by
    cases du
    refine ⟨rfl, ?_⟩
    rw [dv.isNon]
    exact q _ g (.refl g) W (.bl _)) (nomark _)
theorem ev_notN {j : Nat} {p : Pos} (ha : EV T Γ a δ L x M1) : EV T Γ (.Compare a [.IsNot] [.Constant .none j p] pos) δ L (.bl (!x.isNon)) M1 :=
  ev_cmp _ (fun X F => op_notN) ha ev_non (fun g v u W dv du Q q => by
    cases du
    refine ⟨rfl, ?_⟩
    rw [dv.isNon]
    exact q _ g (.refl g) W (.bl _)) (nomark _)
/-! ### items, slices -/
theorem atI_dt {K : PySem.W.Frag} {g : Gw} {xs : List V} {ds : List D} {i : Int} {d : D} (h : DtL K g xs ds) (e : atI ds i = some d) : ∃ v, atI xs i = some v ∧ Dt K g v d := by
  unfold atI at e ⊢
  rw [h.len]
  cases q : ixN ds.length i with
  | none => rw [q] at e; cases e
  | some j =>
    rw [q] at e
    exact h.get e
/-- a list or a tuple, as data or as a cell, with its items -/
inductive SeqD (L : Store) : D → List D → Prop
  | tup {ds : List D} : SeqD L (.tup ds) ds
  | lst {ds : List D} : SeqD L (.lst ds) ds
  | scr {ns : List Int} : SeqD L (.scr ns) (ns.map D.int)
  | cell {k : Nat} {ds : List D} (h : L[k]? = some (.list ds)) : SeqD L (.ref k) ds
theorem SeqD.at {g : Gw} {v : V} {d : D} {ds : List D} (s : SeqD L d ds) (W : Wo T.K g L) (h : Dt T.K g v d) : ∃ a xs, v = .ref a ∧ (SqL T.K g.H a xs ∨ SqT T.K g.H a xs) ∧ DtL T.K g xs ds := by
  cases s with
  | tup => cases h with | tup p l => exact ⟨_, _, rfl, .inr p.sq, l⟩
  | lst => cases h with | lst p l => exact ⟨_, _, rfl, .inl p.sq, l⟩
  | scr => cases h with | scr p => exact ⟨_, _, rfl, .inl p.sq, DtL.ints _⟩
  | cell hk =>
    cases h
    obtain ⟨_, xs, h1, h2⟩ := W.list hk
    exact ⟨_, xs, rfl, .inl (.inl (.inl h1)), h2⟩
theorem ev_ix {i : Int} {d : D} {ds : List D} (ha : EV T Γ a δ L x M1) (hb : EV T Γ b δ M1 (.int i) M2) (s : SeqD M2 x ds) (h : atI ds i = some d) (hp : PlainIx b := by intro _ _; rfl) : EV T Γ (.Subscript a b pos) δ L d M2 := fun X F g σ W E Q q => by
  refine eby (pe_ix ix_seq eself eself hp) ?_
  refine ha X F g σ W E _ fun v g1 e1 W1 d1 => ?_
  refine hb X F g1 σ W1 (E.ext e1) _ fun u g2 e2 W2 d2 => ?_
  cases d2
  obtain ⟨p, xs, rfl, h1, h2⟩ := s.at W2 (d1.ext e2)
  obtain ⟨w, h3, h4⟩ := atI_dt h2 h
  rw [F.K]
  rcases h1 with h1 | h1
  · exact .inl ⟨p, xs, i, w, rfl, rfl, h1, h3, q w g2 (e1.trans e2) W2 h4⟩
  · exact .inr (.inl ⟨p, xs, i, w, rfl, rfl, h1, h3, q w g2 (e1.trans e2) W2 h4⟩)
/-- an optional part of a slice -/
def OV (T : Sta) (Γ : GC) (e : Option Expr) (δ : Env') (L : Store) (i : Option Int) : Prop := match e, i with
  | none, none => True
  | some e, some i => EV T Γ e δ L (.int i) L
  | _, _ => False
def cutD (ds : List D) (lo hi : Option Int) : List D := (ds.drop (HT.sIx ds.length 0 lo)).take (HT.sIx ds.length ds.length hi - HT.sIx ds.length 0 lo)
theorem cut_dt {K : PySem.W.Frag} {g : Gw} {xs : List V} {ds : List D} {lo hi : Option Int} (h : DtL K g xs ds) : DtL K g (cutV xs lo hi) (cutD ds lo hi) := by
  unfold cutV cutD
  rw [h.len]
  exact (h.drop _).take _
theorem ov_at {X : Cx} {e : Option Expr} {i : Option Int} (F : Fit T Γ X) (h : OV T Γ e δ L i) : ∃ to : TO, PO X e to ∧ ∀ (g : Gw) (σ : L2.St), Wo T.K g L → EnvOk T.K g σ δ → ∀ Q : Option Int → Hp → Prop, (∀ g', Ext g g' → Wo T.K g' L → Q i g'.H) → to σ g.H Q := by
  cases e with
  | none =>
    cases i with
    | none => exact ⟨_, po_none, fun g σ W E Q q => q g (.refl g) W⟩
    | some i => exact h.elim
  | some e =>
    cases i with
    | none => exact h.elim
    | some i => exact ⟨_, po_some eself, fun g σ W E Q q => h X F g σ W E _ fun v g1 e1 W1 d1 => by
        cases d1
        exact ⟨i, rfl, q g1 e1 W1⟩⟩
theorem ev_slT {lo hi : Option Expr} {p2 : Pos} {i j : Option Int} {ds : List D} (ha : EV T Γ a δ L (.tup ds) M1) (hl : OV T Γ lo δ M1 i) (hh : OV T Γ hi δ M1 j) : EV T Γ (.Subscript a (.Slice lo hi none p2) pos) δ L (.tup (cutD ds i j)) M1 := fun X F g σ W E Q q => by
  obtain ⟨tl, pl, hl'⟩ := ov_at F hl
  obtain ⟨th, ph, hh'⟩ := ov_at F hh
  refine eby (pe_slice sl_tupA eself pl ph) ?_
  refine ha X F g σ W E _ fun v g1 e1 W1 d1 => ?_
  refine hl' g1 σ W1 (E.ext e1) _ fun g2 e2 W2 => ?_
  refine hh' g2 σ W2 ((E.ext e1).ext e2) _ fun g3 e3 W3 => ?_
  have d3 := (d1.ext e2).ext e3
  cases d3 with
  | @tup A xs _ hp hl =>
    refine ⟨A, xs, rfl, by rw [F.K]; exact hp.sq, fun hw => ?_, fun _ p hp' => ?_⟩
    · refine q _ g3 ((e1.trans e2).trans e3) W3 (.tup hp ?_)
      have z := cut_dt (lo := i) (hi := j) hl
      have e : cutV xs i j = xs := by
        unfold cutV
        rw [hw.1, hw.2]
        simp
      rw [e] at z
      exact z
    · have e4 := push_ext (c := .data) (o := .tup (cutV xs i j)) hp'
      exact q _ (g3.push p .data (.tup (cutV xs i j))) (((e1.trans e2).trans e3).trans e4) (W3.push hp') (.tup (.inl ⟨.inl push_at, push_own⟩) ((cut_dt hl).ext e4))
theorem ev_slL {lo hi : Option Expr} {p2 : Pos} {i j : Option Int} {ds : List D} (ha : EV T Γ a δ L x M1) (hs : SeqD M1 x ds) (ht : ∀ ds, x ≠ .tup ds) (hl : OV T Γ lo δ M1 i) (hh : OV T Γ hi δ M1 j) : EV T Γ (.Subscript a (.Slice lo hi none p2) pos) δ L (.lst (cutD ds i j)) M1 := fun X F g σ W E Q q => by
  obtain ⟨tl, pl, hl'⟩ := ov_at F hl
  obtain ⟨th, ph, hh'⟩ := ov_at F hh
  refine eby (pe_slice sl_list eself pl ph) ?_
  refine ha X F g σ W E _ fun v g1 e1 W1 d1 => ?_
  refine hl' g1 σ W1 (E.ext e1) _ fun g2 e2 W2 => ?_
  refine hh' g2 σ W2 ((E.ext e1).ext e2) _ fun g3 e3 W3 => ?_
  have d3 := (d1.ext e2).ext e3
  have key : ∃ A xs, v = .ref A ∧ SqL T.K g3.H A xs ∧ DtL T.K g3 xs ds := by
    cases hs with
    | tup => exact absurd rfl (ht _)
    | lst => cases d3 with | lst p l => exact ⟨_, _, rfl, p.sq, l⟩
    | scr => cases d3 with | scr p => exact ⟨_, _, rfl, p.sq, DtL.ints _⟩
    | cell hk =>
      cases d3
      obtain ⟨_, xs, h1, h2⟩ := W3.list hk
      exact ⟨_, xs, rfl, .inl (.inl h1), h2⟩
  obtain ⟨A, xs, rfl, h1, h2⟩ := key
  refine ⟨A, xs, rfl, by rw [F.K]; exact h1, fun p hp' => ?_⟩
  have e4 := push_ext (c := .data) (o := .lst (cutV xs i j)) hp'
  exact q _ (g3.push p .data (.lst (cutV xs i j))) (((e1.trans e2).trans e3).trans e4) (W3.push hp') (.lst ⟨push_at, push_own⟩ ((cut_dt h2).ext e4))
/-! ### +, * of sequences -/
theorem ev_catT {ds es : List D} (ha : EV T Γ a δ L (.tup ds) M1) (hb : EV T Γ b δ M1 (.tup es) M2) (hz : ds.length + es.length ≤ sizeLine) : EV T Γ (.BinOp a .Add b pos) δ L (.tup (ds ++ es)) M2 :=
  ev_op (rCatA T.K) (fun X F => by rw [← F.K]; exact op_catA) ha hb fun g v u W dv du Q q => by
    cases dv with
    | @tup A xs _ hp hl =>
      cases du with
      | @tup B ys _ hp2 hl2 =>
        refine ⟨A, B, xs, ys, rfl, rfl, hp.sq, hp2.sq, by rw [hl.len, hl2.len]; exact hz, fun e => ?_, fun _ e => ?_, fun _ _ p hp' => ?_⟩
        · subst e
          cases hl
          exact q _ g (.refl g) W (.tup hp2 hl2)
        · subst e
          cases hl2
          rw [List.append_nil] at q
          exact q _ g (.refl g) W (.tup hp hl)
        · have e4 := push_ext (c := .data) (o := .tup (xs ++ ys)) hp'
          exact q _ (g.push p .data (.tup (xs ++ ys))) e4 (W.push hp') (.tup (.inl ⟨.inl push_at, push_own⟩) ((hl.append hl2).ext e4))
/-- lists: data or cells -/
theorem ev_catL {y : D} {ds es : List D} (ha : EV T Γ a δ L x M1) (hb : EV T Γ b δ M1 y M2) (hx : x = .lst ds ∨ ∃ k, x = .ref k ∧ M2[k]? = some (.list ds)) (hy : y = .lst es ∨ ∃ k, y = .ref k ∧ M2[k]? = some (.list es)) (hz : ds.length + es.length ≤ sizeLine) : EV T Γ (.BinOp a .Add b pos) δ L (.lst (ds ++ es)) M2 :=
  ev_op rCat (fun X F => op_cat) ha hb fun g v u W dv du Q q => by
    have key : ∀ {v : V} {d : D} {ds : List D}, Dt T.K g v d → (d = .lst ds ∨ ∃ k, d = .ref k ∧ M2[k]? = some (.list ds)) → ∃ A xs, v = .ref A ∧ g.H A = some (.lst xs) ∧ DtL T.K g xs ds := fun {v d ds} h o => by
      rcases o with rfl | ⟨k, rfl, hk⟩
      · cases h with | lst p l => exact ⟨_, _, rfl, p.1, l⟩
      · cases h
        obtain ⟨_, xs, h1, h2⟩ := W.list hk
        exact ⟨_, xs, rfl, h1, h2⟩
    obtain ⟨A, xs, rfl, h1, h2⟩ := key dv hx
    obtain ⟨B, ys, rfl, h3, h4⟩ := key du hy
    refine ⟨A, B, xs, ys, rfl, rfl, h1, h3, by rw [h2.len, h4.len]; exact hz, fun p hp' => ?_⟩
    have e4 := push_ext (c := .data) (o := .lst (xs ++ ys)) hp'
    exact q _ (g.push p .data (.lst (xs ++ ys))) e4 (W.push hp') (.lst ⟨push_at, push_own⟩ ((h2.append h4).ext e4))
/-! ### in -/
def D.flat : D → Bool
  | .non | .bl _ | .int _ | .str _ => true
  | _ => false
def eqD : D → D → Bool
  | .non, .non => true
  | .bl a, .bl b => a == b
  | .bl a, .int b => (if a then 1 else 0) == b
  | .int a, .bl b => a == (if b then 1 else 0)
  | .int a, .int b => a == b
  | .str a, .str b => a == b
  | _, _ => false
theorem flat_dt {K : PySem.W.Frag} {g : Gw} {v : V} {d : D} (h : Dt K g v d) (f : d.flat = true) : flatV v = true := by
  cases h <;> first | rfl | cases f
theorem eq_dt {K : PySem.W.Frag} {g : Gw} {v u : V} {d e : D} (h : Dt K g v d) (h' : Dt K g u e) (f : d.flat = true) (f' : e.flat = true) : eqV v u = eqD d e := by
  cases h <;> cases h' <;> first | rfl | (cases f; done) | (cases f'; done)
theorem flats_dt {K : PySem.W.Frag} {g : Gw} : ∀ {xs : List V} {ds : List D}, DtL K g xs ds → ds.all D.flat = true → xs.all flatV = true
  | _, _, .nil, _ => rfl
  | _, _, .cons h r, f => by
    rw [List.all_cons, Bool.and_eq_true] at f
    rw [List.all_cons, flat_dt h f.1, flats_dt r f.2]
    rfl
theorem inV_dt {K : PySem.W.Frag} {g : Gw} {v : V} {d : D} (h : Dt K g v d) (f : d.flat = true) : ∀ {xs : List V} {ds : List D}, DtL K g xs ds → ds.all D.flat = true → inV v xs = ds.any fun y => eqD y d
  | _, _, .nil, _ => rfl
  | _, _, .cons h' r, q => by
    rw [List.all_cons, Bool.and_eq_true] at q
    have ih := inV_dt h f r q.2
    unfold inV at ih ⊢
    rw [List.any_cons, List.any_cons, ih, eq_dt h' h q.1 f]
theorem ev_in {ds : List D} (ha : EV T Γ a δ L x M1) (hb : EV T Γ b δ M1 y M2) (s : SeqD M2 y ds) (fx : x.flat = true) (fs : ds.all D.flat = true) (hm : behindInMarks .In b = false := by rfl) : EV T Γ (.Compare a [.In] [b] pos) δ L (.bl (ds.any fun y => eqD y x)) M2 :=
  ev_cmp (rIn T.K false) (fun X F => by rw [← F.K]; exact op_in_seq) ha hb (fun g v u W dv du Q q => by
    obtain ⟨A, xs, rfl, h1, h2⟩ := s.at W du
    refine ⟨A, xs, rfl, h1, flat_dt dv fx, flats_dt h2 fs, ?_⟩
    rw [if_neg Bool.false_ne_true, inV_dt dv fx h2 fs]
    exact q _ g (.refl g) W (.bl _)) hm
theorem ev_nin {ds : List D} (ha : EV T Γ a δ L x M1) (hb : EV T Γ b δ M1 y M2) (s : SeqD M2 y ds) (fx : x.flat = true) (fs : ds.all D.flat = true) (hm : behindInMarks .NotIn b = false := by rfl) : EV T Γ (.Compare a [.NotIn] [b] pos) δ L (.bl (!ds.any fun y => eqD y x)) M2 :=
  ev_cmp (rIn T.K true) (fun X F => by rw [← F.K]; exact op_notIn_seq) ha hb (fun g v u W dv du Q q => by
    obtain ⟨A, xs, rfl, h1, h2⟩ := s.at W du
    refine ⟨A, xs, rfl, h1, flat_dt dv fx, flats_dt h2 fs, ?_⟩
    rw [if_pos rfl, inV_dt dv fx h2 fs]
    exact q _ g (.refl g) W (.bl _)) hm
/-! ### built-ins -/
theorem ev_bt {n : Str} {id : String} {e : Expr} {es : List Expr} {p : Pos} {ds : List D} {d : D} (r : List V → Hp → VK → Prop) (hr : ∀ X, Fit T Γ X → CallR X (.builtin id) r) (hm : T.mg n = none) (hv : bootBuiltins n = some (.builtin id)) (ha : AV T Γ (e :: es) δ L ds M1)
    (h : ∀ (g : Gw) vs, Wo T.K g M1 → DtL T.K g vs ds → ∀ Q : VK, (∀ z g', Ext g g' → Wo T.K g' M2 → Dt T.K g' z d → Q z g'.H) → r vs g.H Q) (hg : GlS Γ.sc n := by exact gls_of (by decide +kernel)) (hn : n ≠ "__name__" := by decide +kernel) (hdb : (n == ("__debug__" : Str)) = false := by decide +kernel)
    (he : ∀ env : Env, starEach (e :: es) env = (false, eval e env) :: starEach es env := by intro _; exact star_cons rfl) (hpl : ∀ env : Env, (backTo pos (starEach es env)).any (·.1) = false := by intro _; exact star_any rfl) : EV T Γ (.Call (.Name n p) (e :: es) [] pos) δ L d M2 := fun X F g σ W E Q q => by
  refine eby (pe_callB (hr X F) (F.gl hg) (by rw [F.mg]; exact hm) hv aself hn hdb (he _) (hpl _)) ?_
  refine ha X F g σ W E _ fun vs g1 e1 W1 d1 => ?_
  exact h g1 vs W1 d1 Q fun z g2 e2 W2 d2 => q z g2 (e1.trans e2) W2 d2
theorem ev_ty {n : Str} {id : String} {e : Expr} {es : List Expr} {p : Pos} {ds : List D} {d : D} (r : List V → Hp → VK → Prop) (hr : ∀ X, Fit T Γ X → CallR X (.type id) r) (hm : T.mg n = none) (hv : bootBuiltins n = some (.type id)) (ha : AV T Γ (e :: es) δ L ds M1)
    (h : ∀ (g : Gw) vs, Wo T.K g M1 → DtL T.K g vs ds → ∀ Q : VK, (∀ z g', Ext g g' → Wo T.K g' M2 → Dt T.K g' z d → Q z g'.H) → r vs g.H Q) (hg : GlS Γ.sc n := by exact gls_of (by decide +kernel)) (hn : n ≠ "__name__" := by decide +kernel) (hdb : (n == ("__debug__" : Str)) = false := by decide +kernel)
    (he : ∀ env : Env, starEach (e :: es) env = (false, eval e env) :: starEach es env := by intro _; exact star_cons rfl) (hpl : ∀ env : Env, (backTo pos (starEach es env)).any (·.1) = false := by intro _; exact star_any rfl) : EV T Γ (.Call (.Name n p) (e :: es) [] pos) δ L d M2 := fun X F g σ W E Q q => by
  refine eby (pe_callTy (hr X F) (F.gl hg) (by rw [F.mg]; exact hm) hv aself hn hdb (he _) (hpl _)) ?_
  refine ha X F g σ W E _ fun vs g1 e1 W1 d1 => ?_
  exact h g1 vs W1 d1 Q fun z g2 e2 W2 d2 => q z g2 (e1.trans e2) W2 d2
def rLenQ (K : PySem.W.Frag) : List V → Hp → VK → Prop := fun xs H Q => ∃ p ys, xs = [.ref p] ∧ (SqL K H p ys ∨ SqT K H p ys) ∧ Q (.int ys.length) H
def rLenW (K : PySem.W.Frag) : List V → Hp → VK → Prop := fun xs H Q => ∃ x n, xs = [x] ∧ LenV K x H n ∧ Q (.int n) H
theorem ev_len {e : Expr} {p : Pos} {ds : List D} (hm : T.mg "len" = none) (ha : EV T Γ e δ L x M1) (s : SeqD M1 x ds) (hg : GlS Γ.sc "len" := by exact gls_of (by decide +kernel)) (he : ∀ env : Env, starEach [e] env = (false, eval e env) :: starEach [] env := by intro _; exact star_cons rfl) : EV T Γ (.Call (.Name "len" p) [e] [] pos) δ L (.int ds.length) M1 :=
  ev_bt (rLenQ T.K) (fun X F => by rw [← F.K]; exact call_len_seq) hm PySem.boot_len (av_cons ha av_nil he) (fun g vs W dv Q q => by
    cases dv with
    | cons h r =>
      cases r
      obtain ⟨A, xs, rfl, h1, h2⟩ := s.at W h
      refine ⟨A, xs, rfl, h1, ?_⟩
      rw [h2.len]
      exact q _ g (.refl g) W (.int _)) hg (he := he)
theorem ev_lenS {e : Expr} {p : Pos} {z : Str} (hm : T.mg "len" = none) (ha : EV T Γ e δ L (.str z) M1) (hz : z.length ≤ sizeLine) (hg : GlS Γ.sc "len" := by exact gls_of (by decide +kernel)) (he : ∀ env : Env, starEach [e] env = (false, eval e env) :: starEach [] env := by intro _; exact star_cons rfl) : EV T Γ (.Call (.Name "len" p) [e] [] pos) δ L (.int z.length) M1 :=
  ev_bt (rLenW T.K) (fun X F => by rw [← F.K]; exact call_len) hm PySem.boot_len (av_cons ha av_nil he) (fun g vs W dv Q q => by
    cases dv with
    | cons h r =>
      cases r
      cases h
      exact ⟨_, _, rfl, ⟨hz, rfl⟩, q _ g (.refl g) W (.int _)⟩) hg (he := he)
/-- isinstance: the kinds of data by built-in names -/
def D.isK : D → String → Option Bool
  | .non, n => kitB "NoneType" n
  | .bl _, n => kitB "bool" n
  | .int _, n => kitB "int" n
  | .str _, n => kitB "str" n
  | .tup _, n => kitB "tuple" n
  | .lst _, n => kitB "list" n
  | _, _ => none
theorem isK_at {K : PySem.W.Frag} {g : Gw} {v : V} {d : D} {n : String} {k : Bool} (h : Dt K g v d) (e : d.isK n = some k) : ∃ t, TyX K g.H v t ∧ PySem.W.kitOne K t (.type n) = some k := by
  cases h with
  | non => exact ⟨_, .base .non, kit_ty e⟩
  | bl b => exact ⟨_, .base (.bl b), kit_ty e⟩
  | int i => exact ⟨_, .base (.int i), kit_ty e⟩
  | str x => exact ⟨_, .base (.str x), kit_ty e⟩
  | ref h => cases e
  | scr h => cases e
  | lst p l => exact ⟨_, .base (.lst p.1), kit_ty e⟩
  | tup p l =>
    rcases p with ⟨p | ⟨o, p⟩, _⟩ | ⟨o, its, m, p, c, _⟩
    · exact ⟨_, .base (.tup p), kit_ty e⟩
    · exact ⟨_, .fTuple p, kit_ty e⟩
    · exact ⟨_, .kTuple p c, kit_ty e⟩
theorem ev_isi {e : Expr} {n : Str} {id : String} {p p2 : Pos} {k : Bool} (hm : T.mg "isinstance" = none) (ha : EV T Γ e δ L x M1) (hk : x.isK id = some k) (hm2 : T.mg n = none) (hv2 : bootBuiltins n = some (.type id)) (hg2 : GlS Γ.sc n := by exact gls_of (by decide +kernel)) (hn2 : n ≠ "__name__" := by decide +kernel) (hdb2 : (n == ("__debug__" : Str)) = false := by decide +kernel) (hg : GlS Γ.sc "isinstance" := by exact gls_of (by decide +kernel))
    (he : ∀ env : Env, starEach [e, .Name n p2] env = (false, eval e env) :: starEach [.Name n p2] env := by intro _; exact star_cons rfl) (he2 : ∀ env : Env, starEach [.Name n p2] env = (false, eval (.Name n p2) env) :: starEach [] env := by intro _; exact star_cons rfl) (hpl : ∀ env : Env, (backTo pos (starEach [.Name n p2] env)).any (·.1) = false := by intro _; exact star_any rfl) :
    EV T Γ (.Call (.Name "isinstance" p) [e, .Name n p2] [] pos) δ L (.bl k) M1 := fun X F g σ W E Q q => by
  refine eby (pe_callB call_isi (F.gl hg) (by rw [F.mg]; exact hm) (by decide +kernel) (pa_cons eself (pa_cons (pe_bltn (v := .ty id) (F.gl hg2) (by rw [F.mg]; exact hm2) hv2 rfl hn2 hdb2) pa_nil (he2 _)) (he _)) (by decide) (by decide) (he _) (hpl _)) ?_
  refine ha X F g σ W E _ fun v g1 e1 W1 d1 => ?_
  obtain ⟨t, h1, h2⟩ := isK_at d1 hk
  exact ⟨v, .ty id, t, .type id, k, rfl, .ty id, by rw [F.K]; exact h1, by rw [F.K]; exact h2, q _ g1 e1 W1 (.bl k)⟩
theorem boot_ty_int : bootBuiltins "int" = some (.type "int") := by decide +kernel
theorem ev_is_int {e : Expr} {p p2 : Pos} {k : Bool} (hm : T.mg "isinstance" = none) (hm2 : T.mg "int" = none) (ha : EV T Γ e δ L x M1) (hk : x.isK "int" = some k) (hg2 : GlS Γ.sc "int" := by exact gls_of (by decide +kernel)) (hg : GlS Γ.sc "isinstance" := by exact gls_of (by decide +kernel))
    (he : ∀ env : Env, starEach [e, .Name "int" p2] env = (false, eval e env) :: starEach [.Name "int" p2] env := by intro _; exact star_cons rfl) : EV T Γ (.Call (.Name "isinstance" p) [e, .Name "int" p2] [] pos) δ L (.bl k) M1 := ev_isi hm ha hk hm2 boot_ty_int hg2 (by decide) (by decide) hg he
theorem boot_ty_bool : bootBuiltins "bool" = some (.type "bool") := by decide +kernel
theorem ev_is_bool {e : Expr} {p p2 : Pos} {k : Bool} (hm : T.mg "isinstance" = none) (hm2 : T.mg "bool" = none) (ha : EV T Γ e δ L x M1) (hk : x.isK "bool" = some k) (hg2 : GlS Γ.sc "bool" := by exact gls_of (by decide +kernel)) (hg : GlS Γ.sc "isinstance" := by exact gls_of (by decide +kernel))
    (he : ∀ env : Env, starEach [e, .Name "bool" p2] env = (false, eval e env) :: starEach [.Name "bool" p2] env := by intro _; exact star_cons rfl) : EV T Γ (.Call (.Name "isinstance" p) [e, .Name "bool" p2] [] pos) δ L (.bl k) M1 := ev_isi hm ha hk hm2 boot_ty_bool hg2 (by decide) (by decide) hg he
theorem boot_ty_str : bootBuiltins "str" = some (.type "str") := by decide +kernel
theorem ev_is_str {e : Expr} {p p2 : Pos} {k : Bool} (hm : T.mg "isinstance" = none) (hm2 : T.mg "str" = none) (ha : EV T Γ e δ L x M1) (hk : x.isK "str" = some k) (hg2 : GlS Γ.sc "str" := by exact gls_of (by decide +kernel)) (hg : GlS Γ.sc "isinstance" := by exact gls_of (by decide +kernel))
    (he : ∀ env : Env, starEach [e, .Name "str" p2] env = (false, eval e env) :: starEach [.Name "str" p2] env := by intro _; exact star_cons rfl) : EV T Γ (.Call (.Name "isinstance" p) [e, .Name "str" p2] [] pos) δ L (.bl k) M1 := ev_isi hm ha hk hm2 boot_ty_str hg2 (by decide) (by decide) hg he
theorem boot_ty_tuple : bootBuiltins "tuple" = some (.type "tuple") := by decide +kernel
theorem ev_is_tuple {e : Expr} {p p2 : Pos} {k : Bool} (hm : T.mg "isinstance" = none) (hm2 : T.mg "tuple" = none) (ha : EV T Γ e δ L x M1) (hk : x.isK "tuple" = some k) (hg2 : GlS Γ.sc "tuple" := by exact gls_of (by decide +kernel)) (hg : GlS Γ.sc "isinstance" := by exact gls_of (by decide +kernel))
    (he : ∀ env : Env, starEach [e, .Name "tuple" p2] env = (false, eval e env) :: starEach [.Name "tuple" p2] env := by intro _; exact star_cons rfl) : EV T Γ (.Call (.Name "isinstance" p) [e, .Name "tuple" p2] [] pos) δ L (.bl k) M1 := ev_isi hm ha hk hm2 boot_ty_tuple hg2 (by decide) (by decide) hg he
theorem boot_ty_list : bootBuiltins "list" = some (.type "list") := by decide +kernel
theorem ev_is_list {e : Expr} {p p2 : Pos} {k : Bool} (hm : T.mg "isinstance" = none) (hm2 : T.mg "list" = none) (ha : EV T Γ e δ L x M1) (hk : x.isK "list" = some k) (hg2 : GlS Γ.sc "list" := by exact gls_of (by decide +kernel)) (hg : GlS Γ.sc "isinstance" := by exact gls_of (by decide +kernel))
    (he : ∀ env : Env, starEach [e, .Name "list" p2] env = (false, eval e env) :: starEach [.Name "list" p2] env := by intro _; exact star_cons rfl) : EV T Γ (.Call (.Name "isinstance" p) [e, .Name "list" p2] [] pos) δ L (.bl k) M1 := ev_isi hm ha hk hm2 boot_ty_list hg2 (by decide) (by decide) hg he
theorem EV.to {e : Expr} {d d' : D} (h : EV T Γ e δ L d M1) (q : d = d') : EV T Γ e δ L d' M1 := q ▸ h
theorem TV.to {e : Expr} {d d' : Bool} (h : TV T Γ e δ L d M1) (q : d = d') : TV T Γ e δ L d' M1 := q ▸ h
end
end G
set_option Elab.async false
set_option linter.all false
set_option maxRecDepth 100000
set_option maxHeartbeats 4000000
/-! G11: enumerate of a tuple, sum, tuple(..), list(..), t * k; try. -/
namespace G
open PySem PySem.Spec PyProof.Rows L2
/-! ### enumerate(tuple) -/
theorem meets_enumB1 {v : Value} {o : Obj} {H : Heap → Prop} (B : Begins v o H) :
    Meets (Builtin.«enumerate.__new__» ⟨[.type "enumerate", v], []⟩) (fun _ R s => H s.heap ∧
      R (.ok (.ret (.ref (s.heap.push o).objs.size))) { s with heap := (s.heap.push o).push { cls := .type "enumerate", data := .fields #[.none, .bool false, .ref s.heap.objs.size, rawInt 0, .none, .none] } }) :=
  .of_wp fun prog w A R s h => by
    obtain ⟨hp, g, d, tk, os⟩ := s
    obtain ⟨h1, h⟩ := h
    have hsub := sub_enumerate
    have q1 : ∀ {A' : Around} {E : Value → Shared → Prop} {Q : Value → Shared → Prop}, Q (.ref hp.objs.size) ⟨hp.push o, g, d, tk, os⟩ → wpAny (model prog w) A' (pyIter v) Q E ⟨hp, g, d, tk, os⟩ := fun q => B.iter prog w _ _ ⟨hp, g, d, tk, os⟩ _ h1 q
    wp_walk using q1
    refine wpAny_stack_any fun st => wpAny_pure ?_
    split
    · rename_i c _ _ _ _ _
      cases (c == Value.type "enumerate")
      · wp_walk using q1
        exact ⟨_, rfl, h⟩
      · wp_walk using q1
        exact ⟨_, rfl, h⟩
    · wp_walk using q1
      exact ⟨_, rfl, h⟩
theorem enum_beginsT {prog : Program} {w : World} {A : Around} {E : Value → Shared → Prop} {s : Shared} {a : Addr} {its : Array Value} {Q : Value → Shared → Prop} (h1 : s.heap.IsTuple a its)
    (h : ∀ h', IsEnum h' (s.heap.objs.size + 1) s.heap.objs.size 0 .none → h'.get? s.heap.objs.size = some { cls := .type "tuple_iterator", data := .fields #[.ref a, .int 0 0] } → h'.objs.size = s.heap.objs.size + 2 →
      (∀ b o, s.heap.get? b = some o → h'.get? b = some o) → Q (.ref (s.heap.objs.size + 1)) { s with heap := h' }) : wpAny (model prog w) A (call (.type "enumerate") [.ref a]) Q E s := by
  refine callType_new F.called_enumerate (by decide) (F.typeCall_enumerate_1 _) (F.newCall_enumerate_1 _) (fun obj => F.args_object_init_2 obj _) F.entry_enumerate_new (meets_enumB1 (begins_tuple a its)) ⟨h1, ?_⟩
  have hz : (s.heap.push { cls := .type "tuple_iterator", data := .fields #[.ref a, .int 0 0] }).objs.size = s.heap.objs.size + 1 := Heap.size_push ..
  show _ ∧ _
  rw [hz]
  have he : IsEnum ((s.heap.push { cls := .type "tuple_iterator", data := .fields #[.ref a, .int 0 0] }).push { cls := .type "enumerate", data := .fields #[.none, .bool false, .ref s.heap.objs.size, rawInt 0, .none, .none] }) (s.heap.objs.size + 1) s.heap.objs.size 0 .none := by
    have z := Heap.get?_push_size (s.heap.push { cls := .type "tuple_iterator", data := .fields #[.ref a, .int 0 0] }) (o := { cls := .type "enumerate", data := .fields #[.none, .bool false, .ref s.heap.objs.size, rawInt 0, .none, .none] }) rfl
    rw [hz] at z
    exact z
  exact ⟨⟨_, he, rfl⟩, h _ he (Heap.get?_push_of_some _ (Heap.get?_push_size _ rfl)) (by rw [Heap.size_push, hz]) fun b o x => Heap.get?_push_of_some _ (Heap.get?_push_of_some _ x)⟩
def IteT (K : PySem.W.Frag) (a : Addr) (n : Nat) : It :=
  ⟨fun i H => i < n ∧ ∃ (xs : List V) (x : V), SqT K H a xs ∧ xs[i]? = some x, fun i H v H' => ∃ P x, v = .ref P ∧ H P = none ∧ H' = upd H P (.tup [.int (i : Nat), x]) ∧ ∀ xs, SqT K H a xs → xs[i]? = some x, fun i H => n ≤ i ∧ ∃ xs : List V, SqT K H a xs ∧ xs.length = n⟩
theorem turn_enumT {P : Program} {w : World} {K : PySem.W.Frag} {elts : List Expr} {kk : Nat} {tpos : Pos} (a e it : Addr) (n : Nat) :
    Turn P w K (.Tuple elts kk tpos) (IteT K a n) [e, it] e (fun i h => i ≤ n ∧ (∃ old, IsEnum h e it ((i : Nat) : Int) old) ∧ h.IsTupleIter it a i ∧ e ≠ it ∧ a ≠ it ∧ a ≠ e) where
  mem := List.mem_cons_self
  obj := fun i h st b hb => by
    obtain ⟨_, ⟨old, he⟩, ⟨o, ho, hc, hd⟩, _⟩ := st
    rcases List.mem_cons.mp hb with z | z
    · rw [z]; exact ⟨_, he, fun v q => nomatch q⟩
    · rw [List.mem_singleton.mp z]; exact ⟨o, ho, fun v q => by rw [hd] at q; cases q⟩
  keep := fun i h h' st k => by
    obtain ⟨l, ⟨old, he⟩, hi, r⟩ := st
    exact ⟨l, ⟨old, k e (by simp) _ he⟩, hi.at fun o q => k it (by simp) o q, r⟩
  item := by
    intro X hP hw hK hc i pins s σ H E I hf st hg
    subst hP hw hK
    obtain ⟨_, ⟨old, he⟩, hit, hne, hai, hae⟩ := st
    obtain ⟨hin, xs, x, hq, hx⟩ := hg
    obtain ⟨its, rv, p, hz⟩ := I.tuple hq
    obtain ⟨u, hu, ru⟩ := rv.get hx
    have hel : e < s.heap.objs.size := Heap.lt_size he
    have hil : it < s.heap.objs.size := by obtain ⟨_, q, _⟩ := hit; exact Heap.lt_size q
    have hlt : i < its.toArray.size := by
      have := (List.getElem?_eq_some_iff.mp hu).1
      simpa using this
    refine wpAny_pyNext_enum_itemC (Draws.tuple (A := X.A.in1) (I.ok.hd hc) it a hai its.toArray) he ⟨hit, p⟩ hlt hne (by simp [hne, Ne.symm hae]) fun y h' tk hy ho hst' hT hsz hk => ?_
    have ey : y = u := by
      rw [← Array.getElem?_toList] at hy
      rw [show its.toArray.toList = its from rfl, hu] at hy
      cases hy
      rfl
    subst ey
    refine ⟨_, rfl, wpAny_letOwnedTupleGo_enum (s := { s with heap := h', toks := tk + 1 }) ho fun h'' he' sb => ?_⟩
    have hT2 : h''.get? s.heap.objs.size = some { cls := .type "tuple", data := .seq #[.int i tk, y] } := (sb.2 _ (Nat.ne_of_gt hel)).trans hT
    have new : ObjOk X.prog X.w (upd H s.heap.objs.size (.tup [.int (i : Nat), x])) h'' s.heap.objs.size (.tup [.int (i : Nat), x]) := ⟨by show 2 ≤ sizeLine; decide, [.int i tk, y], .cons ⟨_, rfl⟩ (.cons ru .nil), ⟨_, hT2, rfl, _, rfl⟩⟩
    have I1 : Inv X pins σ (upd H s.heap.objs.size (.tup [.int (i : Nat), x])) { s with heap := h'', toks := tk + 1 } :=
      I.turnedNew (ch := [e, it]) (fun b ob hb q => (sb.2 b (fun z => hb (by simp [z]))).trans (hk b ob (fun z => hb (by simp [z])) (fun z => hb (by simp [z])) q)) hf (Nat.le_refl _) new
    refine ⟨.ref s.heap.objs.size, _, I1, rfl, ⟨_, x, rfl, I.hok.fresh (Nat.le_refl _), rfl, fun ys hy => by rw [I.tuple_inj hy hq]; exact hx⟩, ⟨hin, ⟨y, ?_⟩, hst'.1.at fun o q => (sb.2 it (Ne.symm hne)).trans q, hne, hai, hae⟩, fun b hb => ?_⟩
    · have e1 : ((i + 1 : Nat) : Int) = (i : Int) + 1 := by omega
      rw [e1]; exact he'
    · have hb' : b < s.heap.objs.size := by
        rcases List.mem_cons.mp hb with z | z
        · rw [z]; exact hel
        · rw [List.mem_singleton.mp z]; exact hil
      rw [upd_ne (Nat.ne_of_lt hb')]
      exact (hf b hb).1
  done := by
    intro X hP hw hK hc i pins s σ H E I hf st hg
    subst hP hw hK
    obtain ⟨hin, ⟨old, he⟩, hit, hne, hai, hae⟩ := st
    obtain ⟨hni, xs, hq, hx⟩ := hg
    obtain ⟨its, rv, p, hz⟩ := I.tuple hq
    obtain ⟨f0, f1, f2, f3, f4, f5⟩ := hf it (by simp)
    have ei : i = its.toArray.size := by
      have := rv.length
      rw [List.size_toArray]
      omega
    rw [ei] at hit
    exact wpAny_pyNext_enum_endD (Draws.tuple (A := X.A.in1) (I.ok.hd hc) it a hai its.toArray) he ⟨hit, p⟩ fun h' eb => ⟨rfl, I.turned (t' := s.toks) (fun b o hb q => eb b o hb q) f0 f1 f3 f4 f5⟩
  self := fun A i s Q E st h => by
    obtain ⟨_, ⟨_, he⟩, _⟩ := st
    exact wpAny_pyIter_enum he h
def iEnumT (K : PySem.W.Frag) (ta : TA) : TI := fun σ H R => ta σ H fun vs H1 => ∃ a xs, vs = [.ref a] ∧ SqT K H1 a xs ∧ R (IteT K a xs.length) H1
theorem pi_enumT {X : Cx} {e : Expr} {ta : TA} {p pos tpos : Pos} {elts : List Expr} {kk : Nat} (hg : Gl X "enumerate") (hm : X.mg "enumerate" = none) (ha : PA X [e] ta) (hs : starEach [e] X.env = [(false, eval e X.env)]) :
    PI X (.Tuple elts kk tpos) (.Call (.Name "enumerate" p) [e] [] pos) (iEnumT X.K ta) := by
  constructor
  intro pins s σ H R I h
  refine Call_ (ld_blt I hg hm boot_enumerate (PyProof.Rows.callWith_type1 (thn (ha.run pos pins s σ H _ I h) fun us s1 ⟨vs, H1, I1, r1, a, xs, ex, hq, q⟩ => ?_) hs rfl))
  subst ex
  obtain ⟨u, rfl, rx⟩ := vals1 r1
  cases rx
  obtain ⟨its, rv, p', hz⟩ := I1.tuple hq
  have hal : a < s1.heap.objs.size := by obtain ⟨o, ho, _⟩ := p'; exact Heap.lt_size ho
  refine enum_beginsT p' fun h' he hit hsz hk => wpAny_pyIter_enum he ?_
  refine ⟨s1.heap.objs.size + 1, [s1.heap.objs.size + 1, s1.heap.objs.size], _, _, H1, rfl, I1.kept (t' := s1.toks) hk, turn_enumT a (s1.heap.objs.size + 1) s1.heap.objs.size xs.length, ⟨Nat.zero_le _, ⟨.none, he⟩, ⟨_, hit, rfl, rfl⟩, Nat.succ_ne_self _, Nat.ne_of_lt hal, Nat.ne_of_lt (Nat.lt_succ_of_lt hal)⟩, fun b hb => ?_, q⟩
  have hle : s1.heap.objs.size ≤ b := by
    rcases List.mem_cons.mp hb with z | z
    · rw [z]; exact Nat.le_succ _
    · rw [List.mem_singleton.mp z]; exact Nat.le_refl _
  exact I1.fpOk hle (I1.hok.fresh hle)
section
variable {T : Sta} {Γ : GC} {δ δ' : Env'} {L M1 M2 M3 L' : Store} {x y : D} {pos : Pos}
def enumD (ds : List D) : List D := (List.range ds.length).zipWith (fun i d => D.tup [.int (i : Nat), d]) ds
theorem enumD_len (ds : List D) : (enumD ds).length = ds.length := by simp [enumD]
theorem enumD_at {ds : List D} {i : Nat} {d : D} (h : (enumD ds)[i]? = some d) : ∃ e, ds[i]? = some e ∧ d = .tup [.int (i : Nat), e] := by
  unfold enumD at h
  rw [List.getElem?_zipWith] at h
  cases h1 : ds[i]? with
  | none => simp [h1] at h
  | some e =>
    have hi := (List.getElem?_eq_some_iff.mp h1).1
    simp [h1, List.getElem?_range hi] at h
    exact ⟨e, rfl, h.symm⟩
theorem iv_enumT {elts : List Expr} {kk : Nat} {tpos p : Pos} {e : Expr} {ds : List D} (h : EV T Γ e δ L (.tup ds) M1) (hm : T.mg "enumerate" = none) (hg : GlS Γ.sc "enumerate" := by exact gls_of (by decide +kernel)) (hs : ∀ env : Env, starEach [e] env = [(false, eval e env)] := by intro _; exact star_one rfl) : IV T Γ (.Tuple elts kk tpos) (.Call (.Name "enumerate" p) [e] [] pos) δ L (fun _ => True) (enumD ds) M1 := fun X F =>
  ⟨_, pi_enumT (F.gl hg) (by rw [F.mg]; exact hm) (pa_cons eself pa_nil (hs _)) (hs _), fun g σ W E R r => h X F g σ W E _ fun v g1 e1 W1 d1 => by
    cases d1 with
    | @tup a xs _ hp hl =>
      refine ⟨a, xs, rfl, by rw [F.K]; exact hp.sq, ?_⟩
      rw [F.K]
      refine r _ g1 e1 W1 ⟨fun g L i e W p hi => ?_, fun g L i x H' d e W p hd q => ?_, fun g L i e W p hi => ?_⟩
      · rw [enumD_len, ← hl.len] at hi
        exact ⟨hi, xs, xs[i], (hp.ext e).sq, List.getElem?_eq_getElem hi⟩
      · obtain ⟨P, y, rfl, hn, rfl, q2⟩ := q
        obtain ⟨c, h1, rfl⟩ := enumD_at hd
        obtain ⟨v, h3, h4⟩ := (hl.ext e).get h1
        have z := q2 xs (hp.ext e).sq
        rw [h3] at z
        cases z
        exact ⟨g.push P .data (.tup [.int (i : Nat), y]), rfl, push_ext hn, W.push hn, .tup (.inl ⟨.inl push_at, push_own⟩) (.cons (.int _) (.cons (h4.ext (push_ext hn)) .nil))⟩
      · rw [enumD_len, ← hl.len] at hi
        exact ⟨hi, xs, (hp.ext e).sq, rfl⟩⟩
theorem iv_enumL {elts : List Expr} {kk : Nat} {tpos p : Pos} {e : Expr} {ds : List D} (h : EV T Γ e δ L (.lst ds) M1) (hm : T.mg "enumerate" = none) (hg : GlS Γ.sc "enumerate" := by exact gls_of (by decide +kernel)) (hs : ∀ env : Env, starEach [e] env = [(false, eval e env)] := by intro _; exact star_one rfl) : IV T Γ (.Tuple elts kk tpos) (.Call (.Name "enumerate" p) [e] [] pos) δ L (fun _ => True) (enumD ds) M1 := fun X F =>
  ⟨_, pi_enum (F.gl hg) (by rw [F.mg]; exact hm) (pa_cons eself pa_nil (hs _)) (hs _), fun g σ W E R r => h X F g σ W E _ fun v g1 e1 W1 d1 => by
    cases d1 with
    | @lst a xs _ hp hl =>
      refine ⟨a, xs, rfl, by rw [F.K]; exact hp.sq, ?_⟩
      rw [F.K]
      refine r _ g1 e1 W1 ⟨fun g L i e W p hi => ?_, fun g L i x H' d e W p hd q => ?_, fun g L i e W p hi => ?_⟩
      · rw [enumD_len, ← hl.len] at hi
        exact ⟨xs, xs[i], (hp.ext e).sq, List.getElem?_eq_getElem hi⟩
      · obtain ⟨P, y, rfl, hn, rfl, q2⟩ := q
        obtain ⟨c, h1, rfl⟩ := enumD_at hd
        obtain ⟨v, h3, h4⟩ := (hl.ext e).get h1
        have z := q2 xs (hp.ext e).sq
        rw [h3] at z
        cases z
        exact ⟨g.push P .data (.tup [.int (i : Nat), y]), rfl, push_ext hn, W.push hn, .tup (.inl ⟨.inl push_at, push_own⟩) (.cons (.int _) (.cons (h4.ext (push_ext hn)) .nil))⟩
      · rw [enumD_len, ← hl.len] at hi
        exact ⟨xs, (hp.ext e).sq, hi⟩⟩
/-! ### sum, tuple, list -/
def rSumQ (K : PySem.W.Frag) : List V → Hp → VK → Prop := fun vs H Q => ∃ (a : Addr) (ns : List Int), vs = [V.ref a] ∧ (SqL K H a (ns.map V.int) ∨ SqT K H a (ns.map V.int)) ∧ Q (.int ns.sum) H
theorem cr_sumQ {X : Cx} (hc : X.calm = true) : CallR X (.builtin "sum") (rSumQ X.K) := by
  intro pins s σ H vs us Q I r h
  obtain ⟨a, ns, rfl, hs | hs, q⟩ := h
  · exact cr_sum hc pins s σ H _ us Q I r ⟨a, ns, rfl, hs, q⟩
  · obtain ⟨u, rfl, rx⟩ := vals1 r
    cases rx
    obtain ⟨its, rv, hl, _⟩ := I.tuple hs
    obtain ⟨xs, hx⟩ := rv.ints.allInts.items
    have hn : numsOf its.toArray.toList = ns := by rw [show its.toArray.toList = its from rfl, rv.ints.numsOf]
    rw [hx] at hn hl
    rw [nums_intItems] at hn
    refine PySem.W.ktm_sumG (I.ok.hd hc) hl fun h' tk t' hk => ⟨.int ns.sum, H, I.kept hk, ⟨t', ?_⟩, q⟩
    rw [preSum_eq, List.take_of_length_le (by simp), hn]
theorem ev_sum {e : Expr} {p : Pos} {ns : List Int} (hm : T.mg "sum" = none) (ha : EV T Γ e δ L x M1) (s : SeqD M1 x (ns.map D.int)) (hc : Γ.c = true := by rfl) (hg : GlS Γ.sc "sum" := by exact gls_of (by decide +kernel)) (he : ∀ env : Env, starEach [e] env = (false, eval e env) :: starEach [] env := by intro _; exact star_cons rfl) : EV T Γ (.Call (.Name "sum" p) [e] [] pos) δ L (.int ns.sum) M1 :=
  ev_bt (rSumQ T.K) (fun X F => by rw [← F.K]; exact cr_sumQ (F.calm.trans hc)) hm (by decide +kernel) (av_cons ha av_nil he) (fun g vs W dv Q q => by
    cases dv with
    | cons h r =>
      cases r
      obtain ⟨A, xs, rfl, h1, h2⟩ := s.at W h
      rw [h2.ints_eq] at h1
      exact ⟨A, ns, rfl, h1, q _ g (.refl g) W (.int _)⟩) hg (he := he)
def rTupQ (K : PySem.W.Frag) : List V → Hp → VK → Prop := fun xs H Q => ∃ p ys, xs = [.ref p] ∧ ((SqL K H p ys ∧ ∀ l, H l = none → Q (.ref l) (upd H l (.tup ys))) ∨ (SqT K H p ys ∧ Q (.ref p) H))
def rLstQ (K : PySem.W.Frag) : List V → Hp → VK → Prop := fun xs H Q => ∃ p ys, xs = [.ref p] ∧ (SqL K H p ys ∨ SqT K H p ys) ∧ ∀ l, H l = none → Q (.ref l) (upd H l (.lst ys))
/-- tuple(x), x a list -/
theorem ev_tupleL {e : Expr} {p : Pos} {ds : List D} (hm : T.mg "tuple" = none) (ha : EV T Γ e δ L (.lst ds) M1) (hg : GlS Γ.sc "tuple" := by exact gls_of (by decide +kernel)) (he : ∀ env : Env, starEach [e] env = (false, eval e env) :: starEach [] env := by intro _; exact star_cons rfl) : EV T Γ (.Call (.Name "tuple" p) [e] [] pos) δ L (.tup ds) M1 :=
  ev_ty (rTupQ T.K) (fun X F => by rw [← F.K]; exact call_tuple_of) hm boot_ty_tuple (av_cons ha av_nil he) (fun g vs W dv Q q => by
    cases dv with
    | cons h r =>
      cases r
      cases h with
      | lst hp hl => exact ⟨_, _, rfl, .inl ⟨hp.sq, fun l hl' => q _ (g.push l .data (.tup _)) (push_ext hl') (W.push hl') (.tup (.inl ⟨.inl push_at, push_own⟩) (hl.ext (push_ext hl')))⟩⟩) hg (he := he)
theorem ev_tupleT {e : Expr} {p : Pos} {ds : List D} (hm : T.mg "tuple" = none) (ha : EV T Γ e δ L (.tup ds) M1) (hg : GlS Γ.sc "tuple" := by exact gls_of (by decide +kernel)) (he : ∀ env : Env, starEach [e] env = (false, eval e env) :: starEach [] env := by intro _; exact star_cons rfl) : EV T Γ (.Call (.Name "tuple" p) [e] [] pos) δ L (.tup ds) M1 :=
  ev_ty (rTupQ T.K) (fun X F => by rw [← F.K]; exact call_tuple_of) hm boot_ty_tuple (av_cons ha av_nil he) (fun g vs W dv Q q => by
    cases dv with
    | cons h r =>
      cases r
      cases h with
      | tup hp hl => exact ⟨_, _, rfl, .inr ⟨hp.sq, q _ g (.refl g) W (.tup hp hl)⟩⟩) hg (he := he)
/-- tuple(x), x a cell's list -/
theorem ev_tupleC {e : Expr} {p : Pos} {k : Nat} {ds : List D} (hm : T.mg "tuple" = none) (ha : EV T Γ e δ L (.ref k) M1) (hk : M1[k]? = some (.list ds)) (hg : GlS Γ.sc "tuple" := by exact gls_of (by decide +kernel)) (he : ∀ env : Env, starEach [e] env = (false, eval e env) :: starEach [] env := by intro _; exact star_cons rfl) : EV T Γ (.Call (.Name "tuple" p) [e] [] pos) δ L (.tup ds) M1 :=
  ev_ty (rTupQ T.K) (fun X F => by rw [← F.K]; exact call_tuple_of) hm boot_ty_tuple (av_cons ha av_nil he) (fun g vs W dv Q q => by
    cases dv with
    | cons h r =>
      cases r
      cases h with
      | ref hn =>
        obtain ⟨_, xs, h1, h2⟩ := W.list hk
        exact ⟨_, _, rfl, .inl ⟨.inl (.inl h1), fun l hl' => q _ (g.push l .data (.tup _)) (push_ext hl') (W.push hl') (.tup (.inl ⟨.inl push_at, push_own⟩) (h2.ext (push_ext hl')))⟩⟩) hg (he := he)
theorem boot_ty_list' : bootBuiltins "list" = some (.type "list") := boot_ty_list
theorem ev_listOf {e : Expr} {p : Pos} {ds : List D} (hm : T.mg "list" = none) (ha : EV T Γ e δ L x M1) (s : SeqD M1 x ds) (hg : GlS Γ.sc "list" := by exact gls_of (by decide +kernel)) (he : ∀ env : Env, starEach [e] env = (false, eval e env) :: starEach [] env := by intro _; exact star_cons rfl) : EV T Γ (.Call (.Name "list" p) [e] [] pos) δ L (.lst ds) M1 :=
  ev_ty (rLstQ T.K) (fun X F => by rw [← F.K]; exact call_list_of) hm boot_ty_list (av_cons ha av_nil he) (fun g vs W dv Q q => by
    cases dv with
    | cons h r =>
      cases r
      obtain ⟨A, xs, rfl, h1, h2⟩ := s.at W h
      exact ⟨_, _, rfl, h1, fun l hl' => q _ (g.push l .data (.lst _)) (push_ext hl') (W.push hl') (.lst ⟨push_at, push_own⟩ (h2.ext (push_ext hl')))⟩) hg (he := he)
/-! ### t * k -/
theorem DtL.flat {K : PySem.W.Frag} {g : Gw} {vs : List V} {ds : List D} (h : DtL K g vs ds) : ∀ n : Nat, DtL K g (List.replicate n vs).flatten (List.replicate n ds).flatten
  | 0 => .nil
  | n + 1 => by
    rw [List.replicate_succ, List.replicate_succ, List.flatten_cons, List.flatten_cons]
    exact h.append (DtL.flat h n)
theorem ev_rep {a b : Expr} {ds : List D} {k : Int} (ha : EV T Γ a δ L (.tup ds) M1) (hb : EV T Γ b δ M1 (.int k) M2) (hne : ds ≠ []) (h1 : 2 ≤ k ∧ k ≤ 1000 ∧ ds.length ≤ 1000) : EV T Γ (.BinOp a .Mult b pos) δ L (.tup (List.replicate k.toNat ds).flatten) M2 :=
  ev_op (rRepT T.K) (fun X F => by rw [← F.K]; exact op_repT) ha hb fun g v u W dv du Q q => by
    cases du
    cases dv with
    | tup hp hl =>
      refine ⟨_, k, _, rfl, rfl, hp.sq, ?_, h1.1, h1.2.1, by rw [hl.len]; exact h1.2.2, fun p hn => q _ (g.push p .data (.tup _)) (push_ext hn) (W.push hn) (.tup (.inl ⟨.inl push_at, push_own⟩) ((hl.flat _).ext (push_ext hn)))⟩
      intro e
      rw [e] at hl
      cases hl
      exact hne rfl
end
end G
set_option Elab.async false
set_option linter.all false
set_option maxRecDepth 100000
set_option maxHeartbeats 4000000
/-! G12: t.index(x); try. -/
namespace G
open PySem PySem.Spec PyProof.Rows L2
section
variable {X : Cx}
/-- at p there lies such a tuple -/
def XTs (K : PySem.W.Frag) (H : Hp) (p : Addr) (ss : List Str) : Prop := (∃ o : Obj, K.lookup p = some o ∧ ∀ h : Heap, h.get? p = some o → XTo h p ss) ∨ ∃ φ, H p = some (.ext φ) ∧ ∀ h, φ h → XTo h p ss
def tTI (K : PySem.W.Frag) (to ta : TE) : TE := fun σ H Q => to σ H fun x H1 => ∃ p ss, x = .ref p ∧ XTs K H1 p ss ∧ ta σ H1 fun y H2 => XTs K H2 p ss ∧ ∃ z j, y = .str z ∧ ss[j]? = some z ∧ (∀ m, m < j → ss[m]? ≠ some z) ∧ Q (.int (j : Nat)) H2
theorem pe_tidx {o e : Expr} {to ta : TE} {apos cpos : Pos} (ho : PE X o to) (ha : PE X e ta) (hbase : attributeBase o "index" X.env (eval o X.env) = eval o X.env)
    (hfew : ((backTo cpos (starEach [e] X.env)).all (fun x => !x.1) && (backToKw cpos (keywordEach [] X.env)).all (fun x => x.1.isSome) && decide ([e].length + ([] : List Keyword).length + (if ([] : List Keyword).isEmpty then 0 else 1) < 30)) = true)
    (hline : (apos.endLine == cpos.line) = true) (hs : starEach [e] X.env = (false, eval e X.env) :: starEach [] X.env) : PE X (.Call (.Attribute o "index" apos) [e] [] cpos) (tTI X.K to ta) := by
  refine ⟨fun pins s σ H Q I h => ?_⟩
  refine wpAny_Call_method_late hbase hfew hline rfl (thn (ho.run pins s σ H _ I h) fun v s1 ⟨x, H1, I1, r1, p, ss, ex, hp, q1⟩ => ?_)
  subst ex
  cases r1
  have there : ∀ {s2 : Shared} {H2 : Hp}, Inv X pins σ H2 s2 → XTs X.K H2 p ss → XTo s2.heap p ss := fun {s2 H2} I2 st => by
    rcases st with ⟨o, h1, h2⟩ | ⟨φ, h1, h2⟩
    · exact h2 _ (I2.kIn p o h1)
    · exact h2 _ (I2.hok p _ h1).1
  have XIDX : ∀ (s2 : Shared) (H2 : Hp), Inv X pins σ H2 s2 → ∀ (u : Value) (y : V), RelV y u → XTs X.K H2 p ss → ∀ (z : Str) (j : Nat), y = .str z → ss[j]? = some z → (∀ m, m < j → ss[m]? ≠ some z) → Q (.int (j : Nat)) H2 →
      wpAny (model X.prog X.w) X.A (call (.builtin "tuple.index") [.ref p, u]) (EP X pins σ Q) X.xe s2 := by
    intro s2 H2 I2 u y r2 st z j ey hy hno q
    subst ey
    obtain ⟨t, rfl⟩ := r2
    obtain ⟨its, n, sl, e1, rv⟩ := there I2 st
    have hl : its.toArray.size = ss.length := by rw [List.size_toArray, ← rv.length, List.length_map]
    have hj : j < its.toArray.size := by rw [hl]; exact (List.getElem?_eq_some_iff.mp hy).1
    have at' : ∀ (m : Nat) (hm : m < its.toArray.size), ∃ y t', ss[m]? = some y ∧ its.toArray[m] = Value.str y t' := fun m hm => by
      have hm' : m < ss.length := by rw [← hl]; exact hm
      obtain ⟨w, hw, t', hw'⟩ := rv.get (i := m) (x := .str ss[m]) (by simp [hm'])
      have e := (List.getElem?_eq_some_iff.mp hw).2
      exact ⟨ss[m], t', List.getElem?_eq_getElem hm', by rw [← hw', ← e]; simp⟩
    refine call_meets PySem.F.slot_tuple_index ⟨_, e1, rfl⟩ PySem.F.entry_tuple_index (PySem.F.args_tuple_index_2 _ _) (TI.tuple_indexAt p its.toArray n none sl (.str z t) (eqU (.str z)) j hj ?_ ?_)
      ⟨e1, fun w hw => mem_eqAt (x := .str z) ⟨t, rfl⟩ rfl rv (flat_strs ss) w (by simpa using hw), ⟨.int (j : Nat), H2, I2.tok _, ⟨_, rfl⟩, q⟩⟩
    · obtain ⟨y, t', h1, h2⟩ := at' j hj
      rw [hy] at h1
      cases h1
      rw [h2]
      show (z == z) = true
      simp
    · intro m hm hmj
      obtain ⟨y, t', h1, h2⟩ := at' m hm
      rw [h2]
      show (y == z) = false
      exact beq_eq_false_iff_ne.mpr fun e => hno m hmj (e ▸ h1)
  obtain ⟨its, n, sl, e1, rv⟩ := there I1 hp
  refine ⟨"tuple", "tuple.index", F.plainAttrs_tuple, F.slot_tuple_index, F.type_tuple_index, ⟨_, e1, rfl⟩, fun a ea => ?_, ?_⟩
  · cases ea
    exact ⟨_, e1, rfl⟩
  · have hA : wpAny (model X.prog X.w) X.A (spliced (backTo cpos (starEach [e] X.env))) (fun us s2 => wpAny (model X.prog X.w) X.A (call (.builtin "tuple.index") (.ref p :: us)) (EP X pins σ Q) X.xe s2) X.xe s1 := by
      refine one_arg ha I1 q1 (fun u s2 y H2 I2 r2 ⟨st, z, j, ey, hy, hno, q⟩ => ?_) hs
      exact XIDX s2 H2 I2 u y r2 st z j ey hy hno q
    rw [hs] at hA ⊢
    exact Calls.callWith_builtin rfl (Calls.evalArgs_plain hA)
end
section
variable {T : Sta} {Γ : GC} {δ δ' : Env'} {L M1 M2 M3 L' : Store} {x y : D} {pos : Pos}
theorem Wo.xtup {K : PySem.W.Frag} {g : Gw} {k : Nat} {ss : List Str} (W : Wo K g L) (h : L[k]? = some (.xtup ss)) : XTs K g.H (g.ι k) ss := by
  obtain ⟨_, φ, h1, h2⟩ := W.at_ k _ h
  exact .inr ⟨φ, h1, h2⟩
def tTupX (t : TA) : TE := fun σ H Q => t σ H fun xs H1 => xs.length ≤ sizeLine ∧ ∃ ss : List Str, xs = ss.map V.str ∧ ∀ p φ, H1 p = none → (∀ h, φ h → XTo h p ss) → Q (.ref p) (upd H1 p (.ext φ))
theorem pe_tupX {X : Cx} {es : List Expr} {t : TA} {x1} {pos : Pos} (h : PA X es t) : PE X (.Tuple es x1 pos) (tTupX t) := by
  constructor
  intro pins s σ H Q I hq
  refine wpAny_Tuple_spliced (thn (h.run pos pins s σ H _ I hq) fun us s1 ⟨xs, H1, I1, r, z, ss, exs, q⟩ => ⟨by rw [← r.length]; exact z, ?_⟩)
  subst exs
  have e1 : (s1.heap.push { cls := .type "tuple", data := .seq us.toArray }).get? s1.heap.objs.size = some { cls := .type "tuple", data := .seq us.toArray } := Heap.get?_push_size _ rfl
  exact ⟨.ref s1.heap.objs.size, upd H1 s1.heap.objs.size (.ext fun h => h.get? s1.heap.objs.size = some { cls := .type "tuple", data := .seq us.toArray }),
    I1.laid (t' := s1.toks) (fun b u e => Heap.get?_push_of_some _ e) (Nat.le_refl _) ⟨e1, ⟨_, e1⟩, fun h1 h2 k c => c _ k⟩, rfl, q _ _ (I1.hok.fresh (Nat.le_refl _)) fun h e => ⟨us, _, _, e, r⟩⟩
theorem DtL.strs_eq {K : PySem.W.Frag} {g : Gw} : ∀ {ss : List Str} {xs : List V}, DtL K g xs (ss.map D.str) → xs = ss.map V.str
  | [], _, h => by cases h; rfl
  | s :: r, _, h => by
    cases h with
    | cons h1 h2 =>
      cases h1
      rw [DtL.strs_eq h2]
      rfl
/-- a tuple of texts as a new cell -/
theorem en_xtup {es : List Expr} {n : Nat} {ss : List Str} (h : AV T Γ es δ L (ss.map D.str) M1) (hl : ss.length ≤ sizeLine) : EV T Γ (.Tuple es n pos) δ L (.ref M1.length) (M1 ++ [.xtup ss]) := fun X F g σ W E Q q =>
  eby (pe_tupX aself) (h X F g σ W E _ fun vs g1 e1 W1 d1 => ⟨by rw [d1.len, List.length_map]; exact hl, ss, d1.strs_eq, fun p φ hp hφ => by
    exact q (.ref p) (g1.cell p (.ext φ)) (e1.trans (cell_ext hp)) (W1.cell hp ⟨by rw [cell_ι]; exact cell_own, φ, by rw [cell_ι]; exact upd_same, by rw [cell_ι]; exact hφ⟩) (by
      have hn : M1.length < (g1.cell p (.ext φ)).n := by
        show M1.length < g1.n + 1
        rw [W1.n]
        exact Nat.lt_succ_self _
      have r := Dt.ref (K := T.K) (g := g1.cell p (.ext φ)) hn
      rw [← W1.n] at r ⊢
      rw [cell_ι] at r
      exact r)⟩)
def firstAt (ss : List Str) (z : Str) : Nat := ss.findIdx fun x => decide (x = z)
theorem firstAt_ok {ss : List Str} {z : Str} (h : z ∈ ss) : ss[firstAt ss z]? = some z ∧ ∀ m, m < firstAt ss z → ss[m]? ≠ some z := by
  have hl : firstAt ss z < ss.length := List.findIdx_lt_length_of_exists ⟨z, h, decide_eq_true rfl⟩
  refine ⟨?_, fun m hm e => ?_⟩
  · rw [List.getElem?_eq_getElem hl]
    have := List.findIdx_getElem (xs := ss) (p := fun x => decide (x = z)) (w := hl)
    exact congrArg some (of_decide_eq_true this)
  · have hm' : m < ss.length := Nat.lt_trans hm hl
    have := List.not_of_lt_findIdx hm
    rw [List.getElem?_eq_getElem hm'] at e
    cases e
    simp at this
theorem ev_xidx {o e : Expr} {apos : Pos} {k : Nat} {ss : List Str} {z : Str} (ho : EV T Γ o δ L (.ref k) M1) (ha : EV T Γ e δ M1 (.str z) M2) (hk : M1[k]? = some (.xtup ss)) (hk2 : M2[k]? = some (.xtup ss)) (hz : z ∈ ss) (hbase : ∀ env : Env, attributeBase o "index" env (eval o env) = eval o env := by intro _; rfl)
    (hfew : ∀ env : Env, ((backTo pos (starEach [e] env)).all (fun x => !x.1) && (backToKw pos (keywordEach [] env)).all (fun x => x.1.isSome) && decide ([e].length + ([] : List Keyword).length + (if ([] : List Keyword).isEmpty then 0 else 1) < 30)) = true := by intro _; rfl)
    (hline : (apos.endLine == pos.line) = true := by rfl) (hs : ∀ env : Env, starEach [e] env = (false, eval e env) :: starEach [] env := by intro _; exact star_cons rfl) : EV T Γ (.Call (.Attribute o "index" apos) [e] [] pos) δ L (.int (firstAt ss z : Nat)) M2 := fun X F g σ W E Q q => by
  refine eby (pe_tidx eself eself (hbase _) (hfew _) hline (hs _)) ?_
  refine ho X F g σ W E _ fun v g1 e1 W1 d1 => ?_
  cases d1 with
  | ref hn =>
    refine ⟨_, ss, rfl, by rw [F.K]; exact W1.xtup hk, ?_⟩
    refine ha X F g1 σ W1 (E.ext e1) _ fun u g2 e2 W2 d2 => ?_
    cases d2
    obtain ⟨z1, z2⟩ := firstAt_ok hz
    refine ⟨?_, z, _, rfl, z1, z2, q _ g2 (e1.trans e2) W2 (.int _)⟩
    rw [F.K, ← e2.ι k hn]
    exact W2.xtup hk2
/-- a tuple of texts of the written part -/
def kxB (K : PySem.W.Frag) (x : Str) (ss : List Str) : Bool := match K.lookup (He.ga K x) with
  | some ⟨.type c, .none, .seq its _, _⟩ => decide (c = "tuple") && (decide (its.size ≤ sizeLine) && He.relAll (ss.map V.str) its.toList)
  | _ => false
theorem kxB_ok {K : PySem.W.Frag} {x : Str} {ss : List Str} (h : kxB K x ss = true) : KT K (He.ga K x) (ss.map V.str) ∧ ∃ o : Obj, K.lookup (He.ga K x) = some o ∧ ∀ h : Heap, h.get? (He.ga K x) = some o → XTo h (He.ga K x) ss := by
  unfold kxB at h
  split at h
  · rename_i c its n sl q
    rw [Bool.and_eq_true, Bool.and_eq_true] at h
    have e := of_decide_eq_true h.1
    subst e
    have r := He.relAll_ok h.2.2
    exact ⟨⟨_, its, n, q, rfl, rfl, of_decide_eq_true h.2.1, r⟩, _, q, fun h e => ⟨its.toList, n, sl, by rw [Array.toArray_toList]; exact e, r⟩⟩
  · cases h
theorem DtL.strs {K : PySem.W.Frag} {g : Gw} : ∀ (ss : List Str), DtL K g (ss.map V.str) (ss.map D.str)
  | [] => .nil
  | s :: r => .cons (.str s) (DtL.strs r)
theorem ev_kx {n : Str} {p : Pos} {ss : List Str} (hm : T.mg n = some (.ref (He.ga T.K n))) (hk : kxB T.K n ss = true) (hg : GlS Γ.sc n := by exact gls_of (by decide +kernel)) (h1 : (n == ("__debug__" : Str)) = false := by decide +kernel) : EV T Γ (.Name n p) δ L (.tup (ss.map D.str)) L :=
  ev_glob (v := .ref (He.ga T.K n)) hm rfl (fun g => .tup (.inr (kxB_ok hk).1) (DtL.strs ss)) hg h1
theorem ev_kidx {n : Str} {p : Pos} {e : Expr} {apos : Pos} {ss : List Str} {z : Str} (hm : T.mg n = some (.ref (He.ga T.K n))) (hK : kxB T.K n ss = true) (ha : EV T Γ e δ L (.str z) M2) (hz : z ∈ ss) (hg : GlS Γ.sc n := by exact gls_of (by decide +kernel)) (h1 : (n == ("__debug__" : Str)) = false := by decide +kernel) (hbase : ∀ env : Env, attributeBase (.Name n p) "index" env (eval (.Name n p) env) = eval (.Name n p) env := by intro _; rfl)
    (hfew : ∀ env : Env, ((backTo pos (starEach [e] env)).all (fun x => !x.1) && (backToKw pos (keywordEach [] env)).all (fun x => x.1.isSome) && decide ([e].length + ([] : List Keyword).length + (if ([] : List Keyword).isEmpty then 0 else 1) < 30)) = true := by intro _; rfl)
    (hline : (apos.endLine == pos.line) = true := by rfl) (hs : ∀ env : Env, starEach [e] env = (false, eval e env) :: starEach [] env := by intro _; exact star_cons rfl) : EV T Γ (.Call (.Attribute (.Name n p) "index" apos) [e] [] pos) δ L (.int (firstAt ss z : Nat)) M2 := fun X F g σ W E Q q => by
  refine eby (pe_tidx (pe_glob (v := .ref (He.ga T.K n)) (F.gl hg) (by rw [F.mg]; exact hm) rfl h1) eself (hbase _) (hfew _) hline (hs _)) ?_
  have kx := (kxB_ok hK).2
  refine ⟨_, ss, rfl, by rw [F.K]; exact .inl kx, ?_⟩
  refine ha X F g σ W E _ fun u g2 e2 W2 d2 => ?_
  cases d2
  obtain ⟨z1, z2⟩ := firstAt_ok hz
  exact ⟨by rw [F.K]; exact .inl kx, z, _, rfl, z1, z2, q _ g2 e2 W2 (.int _)⟩
/-! ### try -/
def GC.off (Γ : GC) : GC := ⟨Γ.N, Γ.sc, Γ.k, false⟩
theorem FitF.tr {X : Cx} (F : FitF T Γ X) {pn : List (Addr × Obj)} {xe : Value → Shared → Prop} (po : PassesOwn (model X.prog X.w) X.A X.env xe) : FitF T Γ (X.tr pn xe) :=
  ⟨⟨F.P, F.w, F.K, F.mg, F.base, F.N, F.sc, F.calm, F.room, F.nd⟩, F.stk, F.fr, F.ex, F.fn, po⟩
theorem FitF.suite {X : Cx} (F : FitF T Γ X) {a : Addr} {pn : List (Addr × Obj)} : FitF T Γ.off (X.suite a pn) :=
  ⟨⟨F.P, F.w, F.K, F.mg, F.base, F.N, F.sc, rfl, (fun h => nomatch h), F.nd⟩, F.stk, F.fr, F.ex, F.fn, PassesOwn.never⟩
/-- the reading of a suite -/
def uXV (X : Cx) (suite : List Stmt) (a : Addr) (cls : Value) (d : Option Addr) : TS := fun D σ H => ∀ (oe : Obj) (pn : List (Addr × Obj)), Zc cls d oe → (∃ vs, oe.data = .fields vs) → BXV (X.suite a ((a, oe) :: pn)) suite D σ H
/-- the clauses, each an exception class of one's own by its name -/
inductive HdF (T : Sta) (Γ : GC) : List ExceptHandler → List (Str × List Stmt) → Prop
  | nil : HdF T Γ [] []
  | cons {x : Str} {b₀ : Stmt} {suite : List Stmt} {np p : Pos} {hds : List ExceptHandler} {l : List (Str × List Stmt)} (c : XC T x) (hg : GlS Γ.sc x) (hdb : (x == ("__debug__" : Str)) = false) (r : HdF T Γ hds l) : HdF T Γ (.ExceptHandler (some (.Name x np)) none (b₀ :: suite) p :: hds) ((x, b₀ :: suite) :: l)
/-- what the clauses make of an exception C -/
inductive HV (T : Sta) (Γ : GC) (C : Str) : List (Str × List Stmt) → Env' → Store → Oc → Store → Prop
  | out {a : Env'} {S : Store} : HV T Γ C [] a S (.ex C a) S
  | hit {x : Str} {su : List Stmt} {l : List (Str × List Stmt)} {a : Env'} {S S' : Store} {o : Oc} (m : PySem.W.exmOne T.K (.ref (He.ga T.K C)) (.ref (He.ga T.K x)) = some true) (s : SV T Γ.off su a S o S') (ne : ∀ C' a', o ≠ .ex C' a') : HV T Γ C ((x, su) :: l) a S o S'
  | miss {x : Str} {su : List Stmt} {l : List (Str × List Stmt)} {a : Env'} {S S' : Store} {o : Oc} (m : PySem.W.exmOne T.K (.ref (He.ga T.K C)) (.ref (He.ga T.K x)) = some false) (s : HV T Γ C l a S o S') : HV T Γ C ((x, su) :: l) a S o S'
theorem HdF.ok {X : Cx} (F : FitF T Γ X) : ∀ {hds : List ExceptHandler} {l : List (Str × List Stmt)}, HdF T Γ hds l → HdsOk X hds (l.map fun p => (.ref (He.ga T.K p.1), uXV X p.2))
  | _, _, .nil => .nil
  | _, _, .cons c hg hdb r => .cons ⟨F.fit.gl hg, hdb, .inl (by rw [F.mg]; exact c.mg)⟩ (fun a oe cls d pn hz hd => ⟨fun pins s σ H D I h => (h oe pn hz hd).run pins s I⟩) (HdF.ok F r)
theorem PostS.noex {K : PySem.W.Frag} {D : Ends} {W W' : WX} {g : Gw} {o : Oc} (ne : ∀ C' a', o ≠ .ex C' a') (h : PostS K D W g o L') : PostS K D W' g o L' := by
  cases o with
  | ex C a => exact absurd rfl (ne C a)
  | nx a => exact h
  | rt d => exact h
  | bk a => exact h
  | ct a => exact h
theorem HV.run {X : Cx} (F : FitF T Γ X) {Wx : WX} {D : Ends} {C : Str} : ∀ {l : List (Str × List Stmt)} {a : Env'} {S : Store} {o : Oc} {g : Gw} {σ : L2.St}, HV T Γ C l a S o L' → Wo T.K g S → EnvOk T.K g σ a → PostS T.K D Wx g o L' →
    wMany X.K Wx D (l.map fun p => (.ref (He.ga T.K p.1), uXV X p.2)) (.ref (He.ga T.K C)) none σ g.H
  | _, _, _, _, g, σ, .out, W, E, q => q g σ (.refl g) W E
  | _, _, _, _, g, σ, .hit m s ne, W, E, q => ⟨true, by rw [F.K]; exact m, fun _ a _ oe pn _ _ => s _ F.suite (fun _ _ _ _ => False) takes_none5 g σ W E D (q.noex ne), fun z => nomatch z⟩
  | _, _, _, _, g, σ, .miss m s, W, E, q => ⟨false, by rw [F.K]; exact m, (fun z => nomatch z), fun _ => HV.run F s W E q⟩
theorem s_try {body : List Stmt} {h₀ : ExceptHandler} {hds : List ExceptHandler} {l : List (Str × List Stmt)} {o : Oc} (hb : SV T Γ body δ L o L') (hh : HdF T Γ (h₀ :: hds) l) (ne : ∀ C' a', o ≠ .ex C' a') : S1 T Γ (.Try body (h₀ :: hds) [] [] pos) δ L o L' := fun X F Wx tk g σ W E D q => by
  refine sby (ps_try_many (tb := fun Wb D σ H => ∀ (pn : List (Addr × Obj)) (xe : Value → Shared → Prop), Takes (X.tr pn xe) Wb → PassesOwn (model X.prog X.w) X.A X.env xe → BXV (X.tr pn xe) body D σ H) F.stk F.fr tk (fun Wb pn xe t po => ⟨fun pins s σ H D I h => (h pn xe t po).run pins s I⟩) (hh.ok F)) ?_
  intro pn xe t po
  exact hb _ (F.tr po) _ t g σ W E D (q.noex ne)
theorem s_tryX {body : List Stmt} {h₀ : ExceptHandler} {hds : List ExceptHandler} {l : List (Str × List Stmt)} {C : Str} {o : Oc} (hb : SV T Γ body δ L (.ex C δ') M1) (hh : HdF T Γ (h₀ :: hds) l) (hv : HV T Γ C l δ' M1 o L') : S1 T Γ (.Try body (h₀ :: hds) [] [] pos) δ L o L' := fun X F Wx tk g σ W E D q => by
  refine sby (ps_try_many (tb := fun Wb D σ H => ∀ (pn : List (Addr × Obj)) (xe : Value → Shared → Prop), Takes (X.tr pn xe) Wb → PassesOwn (model X.prog X.w) X.A X.env xe → BXV (X.tr pn xe) body D σ H) F.stk F.fr tk (fun Wb pn xe t po => ⟨fun pins s σ H D I h => (h pn xe t po).run pins s I⟩) (hh.ok F)) ?_
  intro pn xe t po
  refine hb _ (F.tr po) _ t g σ W E D fun g1 σ1 e1 W1 E1 => ?_
  exact hv.run F W1 E1 (q.ext e1)
end
end G
set_option Elab.async false
set_option linter.all false
set_option maxRecDepth 100000
set_option maxHeartbeats 4000000
/-! G13: tests by comparison; small things. -/
namespace G
open PySem PySem.Spec PyProof.Rows L2
theorem nof {p : Prop} (h : false = true) : p := nomatch h
theorem nft {p : Prop} (h : true = false) : p := nomatch h
section
variable {T : Sta} {Γ : GC} {δ δ' : Env'} {L M1 M2 M3 L' : Store} {x y : D} {a b : Expr} {pos : Pos}
theorem tv_eq (ha : EV T Γ a δ L x M1) (hb : EV T Γ b δ M1 y M2) (hx : SeqAt.shaped x.py = true) (hy : SeqAt.shaped y.py = true) (hc : Γ.c = true := by rfl) : TV T Γ (.Compare a [.Eq] [b] pos) δ L (PyData.eqv x.py y.py) M2 :=
  tv_cmp (rEqD T.K) (fun X F => by rw [← F.K]; exact op_eqD (F.room hc).units) ha hb (fun g v u W dv du Q q => ⟨x.py, y.py, dv.dp (SeqAt.canLay_of_shaped hx), du.dp (SeqAt.canLay_of_shaped hy), hx, hy, q _ g (.refl g) W (.bl _)⟩) (nomark _)
theorem tv_ne (ha : EV T Γ a δ L x M1) (hb : EV T Γ b δ M1 y M2) (hx : SeqAt.shaped x.py = true) (hy : SeqAt.shaped y.py = true) (hc : Γ.c = true := by rfl) : TV T Γ (.Compare a [.NotEq] [b] pos) δ L (!PyData.eqv x.py y.py) M2 :=
  tv_cmp (rNeD T.K) (fun X F => by rw [← F.K]; exact op_neD (F.room hc).units) ha hb (fun g v u W dv du Q q => ⟨x.py, y.py, dv.dp (SeqAt.canLay_of_shaped hx), du.dp (SeqAt.canLay_of_shaped hy), hx, hy, q _ g (.refl g) W (.bl _)⟩) (nomark _)
theorem tv_in {ds : List D} (ha : EV T Γ a δ L x M1) (hb : EV T Γ b δ M1 y M2) (s : SeqD M2 y ds) (fx : x.flat = true) (fs : ds.all D.flat = true) (hm : behindInMarks .In b = false := by rfl) : TV T Γ (.Compare a [.In] [b] pos) δ L (ds.any fun y => eqD y x) M2 :=
  tv_cmp (rIn T.K false) (fun X F => by rw [← F.K]; exact op_in_seq) ha hb (fun g v u W dv du Q q => by
    obtain ⟨A, xs, rfl, h1, h2⟩ := s.at W du
    refine ⟨A, xs, rfl, h1, flat_dt dv fx, flats_dt h2 fs, ?_⟩
    rw [if_neg Bool.false_ne_true, inV_dt dv fx h2 fs]
    exact q _ g (.refl g) W (.bl _)) hm
theorem tv_nin {ds : List D} (ha : EV T Γ a δ L x M1) (hb : EV T Γ b δ M1 y M2) (s : SeqD M2 y ds) (fx : x.flat = true) (fs : ds.all D.flat = true) (hm : behindInMarks .NotIn b = false := by rfl) : TV T Γ (.Compare a [.NotIn] [b] pos) δ L (!ds.any fun y => eqD y x) M2 :=
  tv_cmp (rIn T.K true) (fun X F => by rw [← F.K]; exact op_notIn_seq) ha hb (fun g v u W dv du Q q => by
    obtain ⟨A, xs, rfl, h1, h2⟩ := s.at W du
    refine ⟨A, xs, rfl, h1, flat_dt dv fx, flats_dt h2 fs, ?_⟩
    rw [if_pos rfl, inV_dt dv fx h2 fs]
    exact q _ g (.refl g) W (.bl _)) hm
theorem tv_isN {j : Nat} {p : Pos} (ha : EV T Γ a δ L x M1) : TV T Γ (.Compare a [.Is] [.Constant .none j p] pos) δ L x.isNon M1 :=
  tv_cmp _ (fun X F => op_isN) ha ev_non (fun g v u W dv du Q q => by
    cases du
    refine ⟨rfl, ?_⟩
    rw [dv.isNon]
    exact q _ g (.refl g) W (.bl _)) (nomark _)
theorem tv_notN {j : Nat} {p : Pos} (ha : EV T Γ a δ L x M1) : TV T Γ (.Compare a [.IsNot] [.Constant .none j p] pos) δ L (!x.isNon) M1 :=
  tv_cmp _ (fun X F => op_notN) ha ev_non (fun g v u W dv du Q q => by
    cases du
    refine ⟨rfl, ?_⟩
    rw [dv.isNon]
    exact q _ g (.refl g) W (.bl _)) (nomark _)
theorem tv_orF {rest : List Expr} {y : Bool} (ha : TV T Γ a δ L false M1) (hb : WV T Γ (.BoolOp .Or (b :: rest) pos) δ M1 y M2) : WV T Γ (.BoolOp .Or (a :: b :: rest) pos) δ L y M2 := tv_or ha (fun _ => hb) nof
theorem tv_orT {rest : List Expr} (ha : TV T Γ a δ L true M1) : WV T Γ (.BoolOp .Or (a :: b :: rest) pos) δ L true M1 := tv_or (y := true) ha nft fun _ => rfl
theorem tv_andT {rest : List Expr} {y : Bool} (ha : TV T Γ a δ L true M1) (hb : WV T Γ (.BoolOp .And (b :: rest) pos) δ M1 y M2) : WV T Γ (.BoolOp .And (a :: b :: rest) pos) δ L y M2 := tv_and ha (fun _ => hb) nft
theorem tv_andF {rest : List Expr} (ha : TV T Γ a δ L false M1) : WV T Γ (.BoolOp .And (a :: b :: rest) pos) δ L false M1 := tv_and (y := true) ha nof fun _ => rfl
theorem ev_andT {rest : List Expr} {y : Bool} (ha : EV T Γ a δ L (.bl true) L) (hb : EV T Γ (.BoolOp .And (b :: rest) pos) δ L (.bl y) L) : EV T Γ (.BoolOp .And (a :: b :: rest) pos) δ L (.bl y) L := ev_and (x := true) ha fun _ => hb
theorem ev_andF {rest : List Expr} (ha : EV T Γ a δ L (.bl false) L) : EV T Γ (.BoolOp .And (a :: b :: rest) pos) δ L (.bl false) L := ev_and (x := false) (y := true) ha nof
theorem ev_orF {rest : List Expr} {y : Bool} (ha : EV T Γ a δ L (.bl false) L) (hb : EV T Γ (.BoolOp .Or (b :: rest) pos) δ L (.bl y) L) : EV T Γ (.BoolOp .Or (a :: b :: rest) pos) δ L (.bl y) L := ev_or (x := false) ha fun _ => hb
theorem ev_orT {rest : List Expr} (ha : EV T Γ a δ L (.bl true) L) : EV T Γ (.BoolOp .Or (a :: b :: rest) pos) δ L (.bl true) L := ev_or (x := true) (y := true) ha nft
theorem tv_notF (ha : TV T Γ a δ L true M1) : TV T Γ (.UnaryOp .Not a pos) δ L false M1 := tv_not ha
theorem tv_notT (ha : TV T Γ a δ L false M1) : TV T Γ (.UnaryOp .Not a pos) δ L true M1 := tv_not ha
theorem ev_kint {n : Str} {i : Int} {p : Pos} (hm : ∃ t, T.mg n = some (.int i t)) (hg : GlS Γ.sc n := by exact gls_of (by decide +kernel)) (h1 : (n == ("__debug__" : Str)) = false := by decide +kernel) : EV T Γ (.Name n p) δ L (.int i) L := by
  obtain ⟨t, hm⟩ := hm
  exact ev_glob (v := .int i) hm ⟨t, rfl⟩ (fun g => .int i) hg h1
theorem eqv_int (a b : Int) : PyData.eqv (.int a) (.int b) = decide (a = b) := by
  simp [PyData.eqv] <;> rfl
end
/-! ### shape of data for == -/
def Shp (n : Nat) (d : D) : Prop := d.py.canLay0 = true ∧ d.py.depth ≤ n
theorem Shp.ok {n : Nat} {d : D} (h : Shp n d) (hn : n ≤ 64 := by decide) : SeqAt.shaped d.py = true := by
  unfold SeqAt.shaped
  rw [h.1, decide_eq_true (Nat.le_trans h.2 hn)]
  rfl
theorem shp_int (i : Int) : Shp 0 (.int i) := ⟨by simp [D.py, PyData.canLay0], by simp [D.py, PyData.depth]⟩
theorem shp_bl (b : Bool) : Shp 0 (.bl b) := ⟨by simp [D.py, PyData.canLay0], by simp [D.py, PyData.depth]⟩
theorem shp_non : Shp 0 .non := ⟨by simp [D.py, PyData.canLay0], by simp [D.py, PyData.depth]⟩
theorem Shp.mono {n m : Nat} {d : D} (h : Shp n d) (hn : n ≤ m) : Shp m d := ⟨h.1, Nat.le_trans h.2 hn⟩
theorem shp_all {n : Nat} : ∀ {ds : List D}, (∀ d ∈ ds, Shp n d) → PyData.canLayAll0 (pyL ds) = true ∧ PyData.depthAll (pyL ds) ≤ n
  | [], _ => ⟨by simp [pyL, PyData.canLayAll0], by simp [pyL, PyData.depthAll]⟩
  | d :: ds, h => by
    obtain ⟨h1, h2⟩ := h d List.mem_cons_self
    obtain ⟨r1, r2⟩ := shp_all (ds := ds) fun x hx => h x (List.mem_cons_of_mem _ hx)
    refine ⟨by simp [pyL, PyData.canLayAll0, h1, r1], ?_⟩
    simp only [pyL, PyData.depthAll]
    omega
theorem shp_tup {n : Nat} {ds : List D} (h : ∀ d ∈ ds, Shp n d) : Shp (n + 1) (.tup ds) := by
  obtain ⟨r1, r2⟩ := shp_all h
  refine ⟨by simpa [D.py, PyData.canLay0] using r1, ?_⟩
  simp only [D.py, PyData.depth]
  omega
theorem shp_lst {n : Nat} {ds : List D} (h : ∀ d ∈ ds, Shp n d) : Shp (n + 1) (.lst ds) := by
  obtain ⟨r1, r2⟩ := shp_all h
  refine ⟨by simpa [D.py, PyData.canLay0] using r1, ?_⟩
  simp only [D.py, PyData.depth]
  omega
theorem shp_ints (ns : List Int) : Shp 1 (.tup (ns.map D.int)) := shp_tup fun d h => by
  obtain ⟨i, _, rfl⟩ := List.mem_map.mp h
  exact shp_int i
theorem eqvAll_ints : ∀ (ns ms : List Int), PyData.eqvAll (pyL (ns.map D.int)) (pyL (ms.map D.int)) = decide (ns = ms)
  | [], [] => by simp [pyL, PyData.eqvAll]
  | [], m :: r => by simp [pyL, PyData.eqvAll]
  | n :: r, [] => by simp [pyL, PyData.eqvAll]
  | n :: r, m :: q => by
    have := eqvAll_ints r q
    simp only [List.map_cons, pyL, PyData.eqvAll, this, D.py, eqv_int, List.cons.injEq]
    simp
theorem eqv_ints (ns ms : List Int) : PyData.eqv (D.tup (ns.map D.int)).py (D.tup (ms.map D.int)).py = decide (ns = ms) := by
  simp only [D.py, PyData.eqv]
  exact eqvAll_ints ns ms
theorem eqv_str (a b : Str) : PyData.eqv (D.str a).py (D.str b).py = (a == b) := by simp [D.py, PyData.eqv]
theorem shp_str {x : Str} (h : PyData.strOk x = true) : Shp 0 (.str x) := ⟨by simpa [D.py, PyData.canLay0] using h, by simp [D.py, PyData.depth]⟩
theorem cutD_tail (d : D) (ds : List D) : cutD (d :: ds) (some 1) none = ds := by
  have h : HT.sIx (d :: ds).length 0 (some 1) = 1 := by
    simp [HT.sIx]
  have h2 : HT.sIx (d :: ds).length (d :: ds).length none = ds.length + 1 := by simp [HT.sIx]
  unfold cutD
  rw [h, h2]
  simp
theorem atI_at {α : Type} {ds : List α} {k : Nat} {d : α} (h : ds[k]? = some d) : atI ds (k : Int) = some d := by
  have hk := (List.getElem?_eq_some_iff.mp h).1
  have e : ixN ds.length (k : Int) = some k := by
    unfold ixN
    rw [if_pos (by omega), if_pos (by omega), Int.toNat_natCast]
  show (ixN ds.length (k : Int)).bind _ = _
  rw [e]
  exact h
theorem atI_head {α : Type} (d : α) (ds : List α) : atI (d :: ds) 0 = some d := atI_at (k := 0) rfl
end G
set_option Elab.async false
set_option linter.all false
set_option maxRecDepth 100000
set_option maxHeartbeats 4000000
namespace Q
open PySem PySem.Spec PyProof.Rows L2 G
def top (i : Nat) : Stmt := PySem.Challenge.pw_queuehold_k04_rows.main.body.getD i (.Pass ⟨0, 0, 0, 0⟩)
abbrev s_is_within : Stmt := top 4
abbrev s_are_bytes : Stmt := top 5
abbrev s_is_body : Stmt := top 12
abbrev s_is_row : Stmt := top 13
abbrev s_checks : Stmt := top 14
abbrev s_bytes_of : Stmt := top 15
abbrev s_row_bytes : Stmt := top 16
abbrev s__law_cell : Stmt := top 18
abbrev s__law_seed : Stmt := top 19
abbrev s__law_pick : Stmt := top 20
abbrev s__law_bytes : Stmt := top 21
abbrev s__law_row : Stmt := top 22
abbrev s__law_coded : Stmt := top 23
abbrev s__law_row_bytes : Stmt := top 24
abbrev s_law : Stmt := top 25
def fn : List He.DefD := [
  ⟨("is_within", none), "is_within", "is_within", defArgs s_is_within, defBody s_is_within, defScope s_is_within, [], []⟩,
  ⟨("are_bytes", none), "are_bytes", "are_bytes", defArgs s_are_bytes, defBody s_are_bytes, defScope s_are_bytes, [], []⟩,
  ⟨("is_body", none), "is_body", "is_body", defArgs s_is_body, defBody s_is_body, defScope s_is_body, [], []⟩,
  ⟨("is_row", none), "is_row", "is_row", defArgs s_is_row, defBody s_is_row, defScope s_is_row, [], []⟩,
  ⟨("checks", none), "checks", "checks", defArgs s_checks, defBody s_checks, defScope s_checks, [], []⟩,
  ⟨("bytes_of", none), "bytes_of", "bytes_of", defArgs s_bytes_of, defBody s_bytes_of, defScope s_bytes_of, [], []⟩,
  ⟨("row_bytes", none), "row_bytes", "row_bytes", defArgs s_row_bytes, defBody s_row_bytes, defScope s_row_bytes, [], []⟩,
  ⟨("_law_cell", none), "_law_cell", "_law_cell", defArgs s__law_cell, defBody s__law_cell, defScope s__law_cell, [], []⟩,
  ⟨("_law_seed", none), "_law_seed", "_law_seed", defArgs s__law_seed, defBody s__law_seed, defScope s__law_seed, [], []⟩,
  ⟨("_law_pick", none), "_law_pick", "_law_pick", defArgs s__law_pick, defBody s__law_pick, defScope s__law_pick, [], []⟩,
  ⟨("_law_bytes", none), "_law_bytes", "_law_bytes", defArgs s__law_bytes, defBody s__law_bytes, defScope s__law_bytes, [], []⟩,
  ⟨("_law_row", none), "_law_row", "_law_row", defArgs s__law_row, defBody s__law_row, defScope s__law_row, [], []⟩,
  ⟨("_law_coded", none), "_law_coded", "_law_coded", defArgs s__law_coded, defBody s__law_coded, defScope s__law_coded, [], []⟩,
  ⟨("_law_row_bytes", none), "_law_row_bytes", "_law_row_bytes", defArgs s__law_row_bytes, defBody s__law_row_bytes, defScope s__law_row_bytes, [], []⟩,
  ⟨("law", none), "law", "law", defArgs s_law, defBody s_law, defScope s_law, [], []⟩]
def fa : List He.Fa := [
  .glo "is_within",
  .glo "are_bytes",
  .glo "is_body",
  .glo "is_row",
  .glo "checks",
  .glo "bytes_of",
  .glo "row_bytes",
  .glo "_law_cell",
  .glo "_law_seed",
  .glo "_law_pick",
  .glo "_law_bytes",
  .glo "_law_row",
  .glo "_law_coded",
  .glo "_law_row_bytes",
  .glo "law",
  .glo "QueueError",
  .exc "QueueError",
  .keep "QueueError",
  .glo "BadRow",
  .exc "BadRow",
  .keep "BadRow",
  .exm "BadRow" "QueueError" true,
  .exm "BadRow" "BadRow" true,
  .glo "KINDS",
  .int "MOST_BODY" 60,
  .int "MOST_NUMBER" 999999,
  .int "MOST_DEAL" 9,
  .int "MOST_TRIES" 9,
  .free "isinstance",
  .free "int",
  .free "bool",
  .free "str",
  .free "tuple",
  .free "list",
  .free "len",
  .free "sorted",
  .free "sum",
  .free "max",
  .free "min",
  .free "range",
  .free "enumerate",
  .free "dict",
  .free "set"]
def ts : List He.Tab := []
def ex : PySem.W.Frag → Bool := fun K => kxB K "KINDS" ["put", "out", "done", "from", "part", "deal", "carried", "new"]
abbrev R : PySem.W.OpenRow := PySem.W.OpenLaw.row PySem.Challenge.rw_queuehold_k04_rows
def loose : List PySem.Str := (["QueueError", "BadRow", "is_within", "are_bytes", "KINDS", "MOST_BODY", "MOST_NUMBER", "MOST_DEAL", "MOST_TRIES", "is_body", "is_row", "checks", "bytes_of", "row_bytes", "_law_cell", "_law_seed", "_law_pick", "_law_bytes", "_law_row", "_law_coded", "_law_row_bytes"] : List PySem.Str)
structure Tx (T : Sta) : Prop where
  s : He.SaysT fa fn ts T.w T.K
  e : ex T.K = true
  i : T.K.In T.base
  n : T.base.Ns mainGlobals T.mg
section
variable {T : Sta}
theorem Tx.no_isinstance (h : Tx T) : T.mg "isinstance" = none := He.free_ok h.i h.n (h.s.d.fact 28 (f := .free "isinstance") rfl)
theorem Tx.no_int (h : Tx T) : T.mg "int" = none := He.free_ok h.i h.n (h.s.d.fact 29 (f := .free "int") rfl)
theorem Tx.no_bool (h : Tx T) : T.mg "bool" = none := He.free_ok h.i h.n (h.s.d.fact 30 (f := .free "bool") rfl)
theorem Tx.no_str (h : Tx T) : T.mg "str" = none := He.free_ok h.i h.n (h.s.d.fact 31 (f := .free "str") rfl)
theorem Tx.no_tuple (h : Tx T) : T.mg "tuple" = none := He.free_ok h.i h.n (h.s.d.fact 32 (f := .free "tuple") rfl)
theorem Tx.no_list (h : Tx T) : T.mg "list" = none := He.free_ok h.i h.n (h.s.d.fact 33 (f := .free "list") rfl)
theorem Tx.no_len (h : Tx T) : T.mg "len" = none := He.free_ok h.i h.n (h.s.d.fact 34 (f := .free "len") rfl)
theorem Tx.no_sorted (h : Tx T) : T.mg "sorted" = none := He.free_ok h.i h.n (h.s.d.fact 35 (f := .free "sorted") rfl)
theorem Tx.no_sum (h : Tx T) : T.mg "sum" = none := He.free_ok h.i h.n (h.s.d.fact 36 (f := .free "sum") rfl)
theorem Tx.no_max (h : Tx T) : T.mg "max" = none := He.free_ok h.i h.n (h.s.d.fact 37 (f := .free "max") rfl)
theorem Tx.no_min (h : Tx T) : T.mg "min" = none := He.free_ok h.i h.n (h.s.d.fact 38 (f := .free "min") rfl)
theorem Tx.no_range (h : Tx T) : T.mg "range" = none := He.free_ok h.i h.n (h.s.d.fact 39 (f := .free "range") rfl)
theorem Tx.no_enumerate (h : Tx T) : T.mg "enumerate" = none := He.free_ok h.i h.n (h.s.d.fact 40 (f := .free "enumerate") rfl)
theorem Tx.no_dict (h : Tx T) : T.mg "dict" = none := He.free_ok h.i h.n (h.s.d.fact 41 (f := .free "dict") rfl)
theorem Tx.no_set (h : Tx T) : T.mg "set" = none := He.free_ok h.i h.n (h.s.d.fact 42 (f := .free "set") rfl)
theorem Tx.c_KINDS (h : Tx T) : T.mg "KINDS" = some (.ref (He.ga T.K "KINDS")) := He.glo_ok h.i h.n (h.s.d.fact 23 (f := .glo "KINDS") rfl)
theorem Tx.c_MOST_BODY (h : Tx T) : ∃ t, T.mg "MOST_BODY" = some (.int 60 t) := He.int_ok h.i h.n (h.s.d.fact 24 (f := .int "MOST_BODY" 60) rfl)
theorem Tx.c_MOST_NUMBER (h : Tx T) : ∃ t, T.mg "MOST_NUMBER" = some (.int 999999 t) := He.int_ok h.i h.n (h.s.d.fact 25 (f := .int "MOST_NUMBER" 999999) rfl)
theorem Tx.c_MOST_DEAL (h : Tx T) : ∃ t, T.mg "MOST_DEAL" = some (.int 9 t) := He.int_ok h.i h.n (h.s.d.fact 26 (f := .int "MOST_DEAL" 9) rfl)
theorem Tx.c_MOST_TRIES (h : Tx T) : ∃ t, T.mg "MOST_TRIES" = some (.int 9 t) := He.int_ok h.i h.n (h.s.d.fact 27 (f := .int "MOST_TRIES" 9) rfl)
theorem Tx.exs (h : Tx T) : ∀ b ∈ [(kxB T.K "KINDS" ["put", "out", "done", "from", "part", "deal", "carried", "new"])], b = true := by
  have q : (kxB T.K "KINDS" ["put", "out", "done", "from", "part", "deal", "carried", "new"]) = true := h.e
  try simp only [Bool.and_eq_true] at q
  simpa using q
theorem Tx.ex_0 (h : Tx T) : (kxB T.K "KINDS" ["put", "out", "done", "from", "part", "deal", "carried", "new"]) = true := h.exs _ (by simp)
theorem Tx.m_BadRow_QueueError (h : Tx T) : PySem.W.exmOne T.K (.ref (He.ga T.K "BadRow")) (.ref (He.ga T.K "QueueError")) = some true := He.exm_ok (h.s.d.fact 21 (f := .exm "BadRow" "QueueError" true) rfl)
theorem Tx.m_BadRow_BadRow (h : Tx T) : PySem.W.exmOne T.K (.ref (He.ga T.K "BadRow")) (.ref (He.ga T.K "BadRow")) = some true := He.exm_ok (h.s.d.fact 22 (f := .exm "BadRow" "BadRow" true) rfl)
theorem Tx.x_QueueError (h : Tx T) : XC T "QueueError" := by
  obtain ⟨h1, h2, h3, h4⟩ := He.exc_ok (h.s.d.fact 16 (f := .exc "QueueError") rfl)
  exact ⟨He.glo_ok h.i h.n (h.s.d.fact 15 (f := .glo "QueueError") rfl), h1, h2, h3, h4⟩
theorem Tx.x_BadRow (h : Tx T) : XC T "BadRow" := by
  obtain ⟨h1, h2, h3, h4⟩ := He.exc_ok (h.s.d.fact 19 (f := .exc "BadRow") rfl)
  exact ⟨He.glo_ok h.i h.n (h.s.d.fact 18 (f := .glo "BadRow") rfl), h1, h2, h3, h4⟩
/-! is_within: slots 0 thing, 1 low, 2 high; level 1 -/
abbrev Γ_is_within : GC := ⟨["thing", "low", "high"], defScope s_is_within, 0, true⟩
theorem sc_is_within : FnScope ["thing", "low", "high"] ["thing", "low", "high"] (defScope s_is_within) := ⟨rfl, rfl, rfl, by decide +kernel, rfl, by decide +kernel, by decide +kernel⟩
theorem df_is_within (h : Tx T) : Df T (He.ga T.K "is_within") "is_within" "is_within" s_is_within := ⟨h.s.d.def_ 0 rfl⟩
theorem st_is_within (h : Tx T) {a0 a1 a2 : D} {L L' : Store} {o : Out} (b : ∃ o', SV T Γ_is_within (defBody s_is_within) [some a0, some a1, some a2] L o' L' ∧ Fin o' o) : FC T 1 "is_within" [a0, a1, a2] L o L' := ⟨fn_body (df_is_within h) sc_is_within (ds := [a0, a1, a2]) rfl (fun fd F => F.bindsN fun _ _ _ _ _ _ us hl => match us, hl with | [_, _, _], _ => rfl) rfl b, He.glo_ok h.i h.n (h.s.d.fact 0 (f := .glo "is_within") rfl)⟩
/-! are_bytes: slots 0 thing, 1 one; level 2 -/
abbrev Γ_are_bytes : GC := ⟨["thing", "one"], defScope s_are_bytes, 1, true⟩
theorem sc_are_bytes : FnScope ["thing", "one"] ["thing"] (defScope s_are_bytes) := ⟨rfl, rfl, rfl, by decide +kernel, rfl, by decide +kernel, by decide +kernel⟩
theorem df_are_bytes (h : Tx T) : Df T (He.ga T.K "are_bytes") "are_bytes" "are_bytes" s_are_bytes := ⟨h.s.d.def_ 1 rfl⟩
theorem st_are_bytes (h : Tx T) {a0 : D} {L L' : Store} {o : Out} (b : ∃ o', SV T Γ_are_bytes (defBody s_are_bytes) [some a0, none] L o' L' ∧ Fin o' o) : FC T 2 "are_bytes" [a0] L o L' := ⟨fn_body (df_are_bytes h) sc_are_bytes (ds := [a0]) rfl (fun fd F => F.bindsN fun _ _ _ _ _ _ us hl => match us, hl with | [_], _ => rfl) rfl b, He.glo_ok h.i h.n (h.s.d.fact 1 (f := .glo "are_bytes") rfl)⟩
/-! is_body: slots 0 thing; level 3 -/
abbrev Γ_is_body : GC := ⟨["thing"], defScope s_is_body, 2, true⟩
theorem sc_is_body : FnScope ["thing"] ["thing"] (defScope s_is_body) := ⟨rfl, rfl, rfl, by decide +kernel, rfl, by decide +kernel, by decide +kernel⟩
theorem df_is_body (h : Tx T) : Df T (He.ga T.K "is_body") "is_body" "is_body" s_is_body := ⟨h.s.d.def_ 2 rfl⟩
theorem st_is_body (h : Tx T) {a0 : D} {L L' : Store} {o : Out} (b : ∃ o', SV T Γ_is_body (defBody s_is_body) [some a0] L o' L' ∧ Fin o' o) : FC T 3 "is_body" [a0] L o L' := ⟨fn_body (df_is_body h) sc_is_body (ds := [a0]) rfl (fun fd F => F.bindsN fun _ _ _ _ _ _ us hl => match us, hl with | [_], _ => rfl) rfl b, He.glo_ok h.i h.n (h.s.d.fact 2 (f := .glo "is_body") rfl)⟩
/-! is_row: slots 0 thing; level 4 -/
abbrev Γ_is_row : GC := ⟨["thing"], defScope s_is_row, 3, true⟩
theorem sc_is_row : FnScope ["thing"] ["thing"] (defScope s_is_row) := ⟨rfl, rfl, rfl, by decide +kernel, rfl, by decide +kernel, by decide +kernel⟩
theorem df_is_row (h : Tx T) : Df T (He.ga T.K "is_row") "is_row" "is_row" s_is_row := ⟨h.s.d.def_ 3 rfl⟩
theorem st_is_row (h : Tx T) {a0 : D} {L L' : Store} {o : Out} (b : ∃ o', SV T Γ_is_row (defBody s_is_row) [some a0] L o' L' ∧ Fin o' o) : FC T 4 "is_row" [a0] L o L' := ⟨fn_body (df_is_row h) sc_is_row (ds := [a0]) rfl (fun fd F => F.bindsN fun _ _ _ _ _ _ us hl => match us, hl with | [_], _ => rfl) rfl b, He.glo_ok h.i h.n (h.s.d.fact 3 (f := .glo "is_row") rfl)⟩
/-! checks: slots 0 some, 1 at, 2 one; level 1 -/
abbrev Γ_checks : GC := ⟨["some", "at", "one"], defScope s_checks, 0, true⟩
theorem sc_checks : FnScope ["some", "at", "one"] ["some"] (defScope s_checks) := ⟨rfl, rfl, rfl, by decide +kernel, rfl, by decide +kernel, by decide +kernel⟩
theorem df_checks (h : Tx T) : Df T (He.ga T.K "checks") "checks" "checks" s_checks := ⟨h.s.d.def_ 4 rfl⟩
theorem st_checks (h : Tx T) {a0 : D} {L L' : Store} {o : Out} (b : ∃ o', SV T Γ_checks (defBody s_checks) [some a0, none, none] L o' L' ∧ Fin o' o) : FC T 1 "checks" [a0] L o L' := ⟨fn_body (df_checks h) sc_checks (ds := [a0]) rfl (fun fd F => F.bindsN fun _ _ _ _ _ _ us hl => match us, hl with | [_], _ => rfl) rfl b, He.glo_ok h.i h.n (h.s.d.fact 4 (f := .glo "checks") rfl)⟩
/-! bytes_of: slots 0 row, 1 number, 2 some; level 2 -/
abbrev Γ_bytes_of : GC := ⟨["row", "number", "some"], defScope s_bytes_of, 1, true⟩
theorem sc_bytes_of : FnScope ["row", "number", "some"] ["row"] (defScope s_bytes_of) := ⟨rfl, rfl, rfl, by decide +kernel, rfl, by decide +kernel, by decide +kernel⟩
theorem df_bytes_of (h : Tx T) : Df T (He.ga T.K "bytes_of") "bytes_of" "bytes_of" s_bytes_of := ⟨h.s.d.def_ 5 rfl⟩
theorem st_bytes_of (h : Tx T) {a0 : D} {L L' : Store} {o : Out} (b : ∃ o', SV T Γ_bytes_of (defBody s_bytes_of) [some a0, none, none] L o' L' ∧ Fin o' o) : FC T 2 "bytes_of" [a0] L o L' := ⟨fn_body (df_bytes_of h) sc_bytes_of (ds := [a0]) rfl (fun fd F => F.bindsN fun _ _ _ _ _ _ us hl => match us, hl with | [_], _ => rfl) rfl b, He.glo_ok h.i h.n (h.s.d.fact 5 (f := .glo "bytes_of") rfl)⟩
/-! row_bytes: slots 0 row; level 5 -/
abbrev Γ_row_bytes : GC := ⟨["row"], defScope s_row_bytes, 4, true⟩
theorem sc_row_bytes : FnScope ["row"] ["row"] (defScope s_row_bytes) := ⟨rfl, rfl, rfl, by decide +kernel, rfl, by decide +kernel, by decide +kernel⟩
theorem df_row_bytes (h : Tx T) : Df T (He.ga T.K "row_bytes") "row_bytes" "row_bytes" s_row_bytes := ⟨h.s.d.def_ 6 rfl⟩
theorem st_row_bytes (h : Tx T) {a0 : D} {L L' : Store} {o : Out} (b : ∃ o', SV T Γ_row_bytes (defBody s_row_bytes) [some a0] L o' L' ∧ Fin o' o) : FC T 5 "row_bytes" [a0] L o L' := ⟨fn_body (df_row_bytes h) sc_row_bytes (ds := [a0]) rfl (fun fd F => F.bindsN fun _ _ _ _ _ _ us hl => match us, hl with | [_], _ => rfl) rfl b, He.glo_ok h.i h.n (h.s.d.fact 6 (f := .glo "row_bytes") rfl)⟩
/-! _law_cell: slots 0 _law_script, 1 _law_k; level 1 -/
abbrev Γ__law_cell : GC := ⟨["_law_script", "_law_k"], defScope s__law_cell, 0, true⟩
theorem sc__law_cell : FnScope ["_law_script", "_law_k"] ["_law_script", "_law_k"] (defScope s__law_cell) := ⟨rfl, rfl, rfl, by decide +kernel, rfl, by decide +kernel, by decide +kernel⟩
theorem df__law_cell (h : Tx T) : Df T (He.ga T.K "_law_cell") "_law_cell" "_law_cell" s__law_cell := ⟨h.s.d.def_ 7 rfl⟩
theorem st__law_cell (h : Tx T) {a0 a1 : D} {L L' : Store} {o : Out} (b : ∃ o', SV T Γ__law_cell (defBody s__law_cell) [some a0, some a1] L o' L' ∧ Fin o' o) : FC T 1 "_law_cell" [a0, a1] L o L' := ⟨fn_body (df__law_cell h) sc__law_cell (ds := [a0, a1]) rfl (fun fd F => F.bindsN fun _ _ _ _ _ _ us hl => match us, hl with | [_, _], _ => rfl) rfl b, He.glo_ok h.i h.n (h.s.d.fact 7 (f := .glo "_law_cell") rfl)⟩
/-! _law_seed: slots 0 _law_seed_here, 1 _law_k; level 1 -/
abbrev Γ__law_seed : GC := ⟨["_law_seed_here", "_law_k"], defScope s__law_seed, 0, true⟩
theorem sc__law_seed : FnScope ["_law_seed_here", "_law_k"] ["_law_seed_here", "_law_k"] (defScope s__law_seed) := ⟨rfl, rfl, rfl, by decide +kernel, rfl, by decide +kernel, by decide +kernel⟩
theorem df__law_seed (h : Tx T) : Df T (He.ga T.K "_law_seed") "_law_seed" "_law_seed" s__law_seed := ⟨h.s.d.def_ 8 rfl⟩
theorem st__law_seed (h : Tx T) {a0 a1 : D} {L L' : Store} {o : Out} (b : ∃ o', SV T Γ__law_seed (defBody s__law_seed) [some a0, some a1] L o' L' ∧ Fin o' o) : FC T 1 "_law_seed" [a0, a1] L o L' := ⟨fn_body (df__law_seed h) sc__law_seed (ds := [a0, a1]) rfl (fun fd F => F.bindsN fun _ _ _ _ _ _ us hl => match us, hl with | [_, _], _ => rfl) rfl b, He.glo_ok h.i h.n (h.s.d.fact 8 (f := .glo "_law_seed") rfl)⟩
/-! _law_pick: slots 0 _law_seed_here, 1 _law_many; level 1 -/
abbrev Γ__law_pick : GC := ⟨["_law_seed_here", "_law_many"], defScope s__law_pick, 0, true⟩
theorem sc__law_pick : FnScope ["_law_seed_here", "_law_many"] ["_law_seed_here", "_law_many"] (defScope s__law_pick) := ⟨rfl, rfl, rfl, by decide +kernel, rfl, by decide +kernel, by decide +kernel⟩
theorem df__law_pick (h : Tx T) : Df T (He.ga T.K "_law_pick") "_law_pick" "_law_pick" s__law_pick := ⟨h.s.d.def_ 9 rfl⟩
theorem st__law_pick (h : Tx T) {a0 a1 : D} {L L' : Store} {o : Out} (b : ∃ o', SV T Γ__law_pick (defBody s__law_pick) [some a0, some a1] L o' L' ∧ Fin o' o) : FC T 1 "_law_pick" [a0, a1] L o L' := ⟨fn_body (df__law_pick h) sc__law_pick (ds := [a0, a1]) rfl (fun fd F => F.bindsN fun _ _ _ _ _ _ us hl => match us, hl with | [_, _], _ => rfl) rfl b, He.glo_ok h.i h.n (h.s.d.fact 9 (f := .glo "_law_pick") rfl)⟩
/-! _law_bytes: slots 0 _law_seed_here, 1 _law_most, 2 _law_many, 3 _law_k; level 2 -/
abbrev Γ__law_bytes : GC := ⟨["_law_seed_here", "_law_most", "_law_many", "_law_k"], defScope s__law_bytes, 1, true⟩
theorem sc__law_bytes : FnScope ["_law_seed_here", "_law_most", "_law_many", "_law_k"] ["_law_seed_here", "_law_most"] (defScope s__law_bytes) := ⟨rfl, rfl, rfl, by decide +kernel, rfl, by decide +kernel, by decide +kernel⟩
theorem df__law_bytes (h : Tx T) : Df T (He.ga T.K "_law_bytes") "_law_bytes" "_law_bytes" s__law_bytes := ⟨h.s.d.def_ 10 rfl⟩
theorem st__law_bytes (h : Tx T) {a0 a1 : D} {L L' : Store} {o : Out} (b : ∃ o', SV T Γ__law_bytes (defBody s__law_bytes) [some a0, some a1, none, none] L o' L' ∧ Fin o' o) : FC T 2 "_law_bytes" [a0, a1] L o L' := ⟨fn_body (df__law_bytes h) sc__law_bytes (ds := [a0, a1]) rfl (fun fd F => F.bindsN fun _ _ _ _ _ _ us hl => match us, hl with | [_, _], _ => rfl) rfl b, He.glo_ok h.i h.n (h.s.d.fact 10 (f := .glo "_law_bytes") rfl)⟩
/-! _law_row: slots 0 _law_seed_here, 1 _law_kind, 2 _law_number, 3 _law_body; level 3 -/
abbrev Γ__law_row : GC := ⟨["_law_seed_here", "_law_kind", "_law_number", "_law_body"], defScope s__law_row, 2, true⟩
theorem sc__law_row : FnScope ["_law_seed_here", "_law_kind", "_law_number", "_law_body"] ["_law_seed_here"] (defScope s__law_row) := ⟨rfl, rfl, rfl, by decide +kernel, rfl, by decide +kernel, by decide +kernel⟩
theorem df__law_row (h : Tx T) : Df T (He.ga T.K "_law_row") "_law_row" "_law_row" s__law_row := ⟨h.s.d.def_ 11 rfl⟩
theorem st__law_row (h : Tx T) {a0 : D} {L L' : Store} {o : Out} (b : ∃ o', SV T Γ__law_row (defBody s__law_row) [some a0, none, none, none] L o' L' ∧ Fin o' o) : FC T 3 "_law_row" [a0] L o L' := ⟨fn_body (df__law_row h) sc__law_row (ds := [a0]) rfl (fun fd F => F.bindsN fun _ _ _ _ _ _ us hl => match us, hl with | [_], _ => rfl) rfl b, He.glo_ok h.i h.n (h.s.d.fact 11 (f := .glo "_law_row") rfl)⟩
/-! _law_coded: slots 0 _law_kind, 1 _law_number, 2 _law_body, 3 _law_some, 4 _law_second, 5 _law_at, 6 _law_one; level 1 -/
abbrev Γ__law_coded : GC := ⟨["_law_kind", "_law_number", "_law_body", "_law_some", "_law_second", "_law_at", "_law_one"], defScope s__law_coded, 0, true⟩
theorem sc__law_coded : FnScope ["_law_kind", "_law_number", "_law_body", "_law_some", "_law_second", "_law_at", "_law_one"] ["_law_kind", "_law_number", "_law_body"] (defScope s__law_coded) := ⟨rfl, rfl, rfl, by decide +kernel, rfl, by decide +kernel, by decide +kernel⟩
theorem df__law_coded (h : Tx T) : Df T (He.ga T.K "_law_coded") "_law_coded" "_law_coded" s__law_coded := ⟨h.s.d.def_ 12 rfl⟩
theorem st__law_coded (h : Tx T) {a0 a1 a2 : D} {L L' : Store} {o : Out} (b : ∃ o', SV T Γ__law_coded (defBody s__law_coded) [some a0, some a1, some a2, none, none, none, none] L o' L' ∧ Fin o' o) : FC T 1 "_law_coded" [a0, a1, a2] L o L' := ⟨fn_body (df__law_coded h) sc__law_coded (ds := [a0, a1, a2]) rfl (fun fd F => F.bindsN fun _ _ _ _ _ _ us hl => match us, hl with | [_, _, _], _ => rfl) rfl b, He.glo_ok h.i h.n (h.s.d.fact 12 (f := .glo "_law_coded") rfl)⟩
/-! _law_row_bytes: slots 0 _law_row_here, 1 _law_kinds; level 2 -/
abbrev Γ__law_row_bytes : GC := ⟨["_law_row_here", "_law_kinds"], defScope s__law_row_bytes, 1, true⟩
theorem sc__law_row_bytes : FnScope ["_law_row_here", "_law_kinds"] ["_law_row_here"] (defScope s__law_row_bytes) := ⟨rfl, rfl, rfl, by decide +kernel, rfl, by decide +kernel, by decide +kernel⟩
theorem df__law_row_bytes (h : Tx T) : Df T (He.ga T.K "_law_row_bytes") "_law_row_bytes" "_law_row_bytes" s__law_row_bytes := ⟨h.s.d.def_ 13 rfl⟩
theorem st__law_row_bytes (h : Tx T) {a0 : D} {L L' : Store} {o : Out} (b : ∃ o', SV T Γ__law_row_bytes (defBody s__law_row_bytes) [some a0, none] L o' L' ∧ Fin o' o) : FC T 2 "_law_row_bytes" [a0] L o L' := ⟨fn_body (df__law_row_bytes h) sc__law_row_bytes (ds := [a0]) rfl (fun fd F => F.bindsN fun _ _ _ _ _ _ us hl => match us, hl with | [_], _ => rfl) rfl b, He.glo_ok h.i h.n (h.s.d.fact 13 (f := .glo "_law_row_bytes") rfl)⟩
/-! law: slots 0 _law_script, 1 _law_row_here, 2 _law_found, 3 _law_bads, 4 _law_caught; level 6 -/
abbrev Γ_law : GC := ⟨["_law_script", "_law_row_here", "_law_found", "_law_bads", "_law_caught"], defScope s_law, 5, true⟩
theorem sc_law : FnScope ["_law_script", "_law_row_here", "_law_found", "_law_bads", "_law_caught"] ["_law_script"] (defScope s_law) := ⟨rfl, rfl, rfl, by decide +kernel, rfl, by decide +kernel, by decide +kernel⟩
theorem df_law (h : Tx T) : Df T (He.ga T.K "law") "law" "law" s_law := ⟨h.s.d.def_ 14 rfl⟩
theorem st_law (h : Tx T) {a0 : D} {L L' : Store} {o : Out} (b : ∃ o', SV T Γ_law (defBody s_law) [some a0, none, none, none, none] L o' L' ∧ Fin o' o) : FC T 6 "law" [a0] L o L' := ⟨fn_body (df_law h) sc_law (ds := [a0]) rfl (fun fd F => F.bindsN fun _ _ _ _ _ _ us hl => match us, hl with | [_], _ => rfl) rfl b, He.glo_ok h.i h.n (h.s.d.fact 14 (f := .glo "law") rfl)⟩
end
end Q
set_option Elab.async false
set_option linter.all false
set_option maxRecDepth 100000
set_option maxHeartbeats 4000000
namespace Q
open PySem PySem.Spec PyProof.Rows L2 G
section
variable {T : Sta} {L : Store}
def D.plain : D → Bool
  | .ref _ => false
  | .scr _ => false
  | _ => true
def isWithin (d : D) (lo hi : Int) : Bool := match d with
  | .int i => decide (lo ≤ i) && decide (i ≤ hi)
  | _ => false
theorem c_is_within (h : Tx T) {d : D} {lo hi : Int} (hp : D.plain d = true) : FC T 1 "is_within" [d, .int lo, .int hi] L (.rt (.bl (isWithin d lo hi))) L := by
  refine st_is_within h ⟨.rt _, sv_one (s_ret ?_), rfl⟩
  have key : ∀ (k1 k2 : Bool), d.isK "int" = some k1 → d.isK "bool" = some k2 → (k1 = true → (!k2) = true → ∃ i, d = .int i) → (k1 && (!k2 && match d with | .int i => (decide (lo ≤ i) && decide (i ≤ hi)) | _ => false)) = isWithin d lo hi →
     EV T Γ_is_within (match defBody s_is_within with | [.Return (some e) _] => e | _ => .Constant .none 0 ⟨0,0,0,0⟩) [some d, some (.int lo), some (.int hi)] L (.bl (isWithin d lo hi)) L := fun k1 k2 h1 h2 h3 e => by
    rw [← e]
    refine ev_and (ev_is_int h.no_isinstance h.no_int (ev_name 0) h1) fun q1 => ?_
    refine ev_and (ev_notV (ev_is_bool h.no_isinstance h.no_bool (ev_name 0) h2) rfl) fun q2 => ?_
    obtain ⟨i, rfl⟩ := h3 q1 q2
    exact ev_one (ev_chain (fun X => op_le) (fun X => op_le) (ev_name 1) (ev_name 0) (ev_name 2))
  cases d with
  | int i => exact key true false rfl rfl (fun _ _ => ⟨i, rfl⟩) rfl
  | non => exact key false false rfl rfl (fun q => nomatch q) rfl
  | bl b => exact key true true rfl rfl (fun _ q => nomatch q) rfl
  | str x => exact key false false rfl rfl (fun q => nomatch q) rfl
  | tup ds => exact key false false rfl rfl (fun q => nomatch q) rfl
  | lst ds => exact key false false rfl rfl (fun q => nomatch q) rfl
  | ref k => cases hp
  | scr k => cases hp
def areBytes : D → Bool
  | .tup ds => ds.all fun d => isWithin d 0 255
  | _ => false
theorem c_are_bytes (h : Tx T) {d : D} (hp : D.plain d = true) (hz : ∀ ds, d = .tup ds → ds.length ≤ sizeLine ∧ ds.all D.plain = true) : FC T 2 "are_bytes" [d] L (.rt (.bl (areBytes d))) L := by
  have no : ∀ k, d.isK "tuple" = some k → k = false → FC T 2 "are_bytes" [d] L (.rt (.bl false)) L := fun k h1 h2 => by
    subst h2
    refine st_are_bytes h ⟨.rt _, sv_one (s_ret ?_), rfl⟩
    exact ev_and (y := false) (ev_is_tuple h.no_isinstance h.no_tuple (ev_name 0) h1) fun q => nomatch q
  cases d with
  | tup ds =>
    obtain ⟨hz, hp⟩ := hz ds rfl
    refine st_are_bytes h ⟨.rt _, sv_one (s_ret ((ev_and (ev_is_tuple h.no_isinstance h.no_tuple (ev_name 0) rfl) fun _ => ev_one (ev_notV (x := !(areBytes (.tup ds))) (ev_lc (c := some _) [("one", 1)] (fun d => if isWithin d 0 255 = true then none else some d) (iv_tup (ev_name 0)) trivial (tl_name 1) (ix := [1]) (by decide)
      (fun i d hd => ⟨_, gb_name, (tv_not (tv_val (ev_call (c_is_within h (List.all_eq_true.mp hp d (List.mem_of_getElem? hd))) (av_cons (ev_name 1) (av_cons ev_int (av_cons ev_int av_nil)))))).to ?_, fun y hy => ?_⟩) hz) ?_)).to ?_)), rfl⟩
    · cases isWithin d 0 255 <;> rfl
    · cases q : isWithin d 0 255 with
      | true => rw [q] at hy; cases hy
      | false =>
        rw [q] at hy
        cases hy
        exact ev_name 1
    · show some (!(ds.filterMap fun d => if isWithin d 0 255 = true then none else some d).isEmpty) = some (!areBytes (.tup ds))
      unfold areBytes
      congr 2
      rw [Bool.eq_iff_iff, List.isEmpty_iff, List.all_eq_true]
      constructor
      · intro e x hx
        cases q : isWithin x 0 255 with
        | true => rfl
        | false =>
          have : x ∈ ds.filterMap fun d => if isWithin d 0 255 = true then none else some d := List.mem_filterMap.mpr ⟨x, hx, by rw [q]; rfl⟩
          rw [e] at this
          cases this
      · intro e
        rw [List.filterMap_eq_nil_iff]
        intro x hx
        rw [e x hx]
        rfl
    · simp
  | non => exact no false rfl rfl
  | bl b => exact no false rfl rfl
  | int i => exact no false rfl rfl
  | str x => exact no false rfl rfl
  | lst ds => exact no false rfl rfl
  | ref k => cases hp
  | scr k => cases hp
end
end Q
set_option Elab.async false
set_option linter.all false
set_option maxRecDepth 100000
set_option maxHeartbeats 4000000
namespace Q
open PySem PySem.Spec PyProof.Rows L2 G
section
variable {T : Sta} {L : Store}
/-- plain things of things, no wider than 1000 -/
def D.ok1 : D → Bool
  | .tup ds => decide (ds.length ≤ 1000) && ds.all D.plain
  | d => D.plain d
def D.ok2 : D → Bool
  | .tup ds => decide (ds.length ≤ 1000) && ds.all D.ok1
  | d => D.plain d
theorem small {n : Nat} (h : n ≤ 1000) : n ≤ sizeLine := by rw [sizeLine_eq]; omega
theorem D.ok1_plain {d : D} (h : D.ok1 d = true) : D.plain d = true := by cases d <;> first | rfl | exact h
theorem D.ok1_tup {ds : List D} (h : D.ok1 (.tup ds) = true) : ds.length ≤ sizeLine ∧ ds.all D.plain = true := by
  have h' : (decide (ds.length ≤ 1000) && ds.all D.plain) = true := h
  rw [Bool.and_eq_true] at h'
  exact ⟨small (of_decide_eq_true h'.1), h'.2⟩
theorem c_bytes1 (h : Tx T) {d : D} (hp : D.ok1 d = true) : FC T 2 "are_bytes" [d] L (.rt (.bl (areBytes d))) L := c_are_bytes h (D.ok1_plain hp) fun ds e => D.ok1_tup (e ▸ hp)
def isBody : D → Bool
  | .tup ds => areBytes (.tup ds) && decide (ds.length ≤ 60)
  | _ => false
theorem c_is_body (h : Tx T) {d : D} (hp : D.ok1 d = true) : FC T 3 "is_body" [d] L (.rt (.bl (isBody d))) L := by
  refine st_is_body h ⟨.rt _, sv_one (s_ret ?_), rfl⟩
  have no : areBytes d = false → EV T Γ_is_body (match defBody s_is_body with | [.Return (some e) _] => e | _ => .Constant .none 0 ⟨0,0,0,0⟩) [some d] L (.bl false) L := fun e => (ev_and (y := false) (ev_call (c_bytes1 h hp) (av_cons (ev_name 0) av_nil)) fun q => by rw [e] at q; cases q).to (by rw [e]; rfl)
  cases d with
  | tup ds => exact ev_and (ev_call (c_bytes1 h hp) (av_cons (ev_name 0) av_nil)) fun q => ev_one ((ev_le (ev_len h.no_len (ev_name 0) .tup) (ev_kint h.c_MOST_BODY)).to (by simp; omega))
  | non => exact no rfl
  | bl b => exact no rfl
  | int i => exact no rfl
  | str x => exact no rfl
  | lst ds => exact no rfl
  | ref k => cases hp
  | scr k => cases hp
def kinds : List Str := ["put", "out", "done", "from", "part", "deal", "carried", "new"]
def rowTail (k : Str) (c : D) : Bool :=
  if k = "put" ∨ k = "part" then isBody c else if k = "carried" then (match c with
    | .tup (.int x :: r) => decide (x ≤ 9) && isBody (.tup r)
    | _ => false)
  else if k = "deal" then (match c with
    | .tup [x] => isWithin x 1 9
    | _ => false)
  else (match c with
    | .tup [] => true
    | _ => false)
def isRow : D → Bool
  | .tup [.str k, n, b] => decide (k ∈ kinds) && (isWithin n 0 999999 && (areBytes b && rowTail k b))
  | _ => false
theorem isRow_at (k : Str) (b c : D) : isRow (.tup [.str k, b, c]) = (decide (k ∈ kinds) && (isWithin b 0 999999 && (areBytes c && rowTail k c))) := rfl
theorem within_int {d : D} {lo hi : Int} (h : isWithin d lo hi = true) : ∃ i, d = .int i ∧ lo ≤ i ∧ i ≤ hi := by
  cases d with
  | int i =>
    have h' : (decide (lo ≤ i) && decide (i ≤ hi)) = true := h
    rw [Bool.and_eq_true] at h'
    exact ⟨i, rfl, of_decide_eq_true h'.1, of_decide_eq_true h'.2⟩
  | _ => cases h
theorem bytes_ints : ∀ {ds : List D}, (ds.all fun d => isWithin d 0 255) = true → ∃ ns : List Int, ds = ns.map D.int ∧ ∀ n ∈ ns, 0 ≤ n ∧ n ≤ 255
  | [], _ => ⟨[], rfl, fun _ h => nomatch h⟩
  | d :: ds, h => by
    rw [List.all_cons, Bool.and_eq_true] at h
    obtain ⟨i, rfl, h1, h2⟩ := within_int h.1
    obtain ⟨ns, rfl, h3⟩ := bytes_ints h.2
    exact ⟨i :: ns, rfl, fun n hn => by
      rcases List.mem_cons.mp hn with e | hn
      · rw [e]; exact ⟨h1, h2⟩
      · exact h3 n hn⟩
theorem areBytes_at {d : D} (h : areBytes d = true) : ∃ ns : List Int, d = .tup (ns.map D.int) ∧ ∀ n ∈ ns, 0 ≤ n ∧ n ≤ 255 := by
  cases d with
  | tup ds =>
    obtain ⟨ns, rfl, h1⟩ := bytes_ints h
    exact ⟨ns, rfl, h1⟩
  | _ => cases h
theorem ok1_int (i : Int) : D.ok1 (.int i) = true := rfl
theorem ok1_ints {ns : List Int} (h : ns.length ≤ 1000) : D.ok1 (.tup (ns.map D.int)) = true := by
  show (decide ((ns.map D.int).length ≤ 1000) && (ns.map D.int).all D.plain) = true
  rw [List.length_map, decide_eq_true h, Bool.true_and, List.all_eq_true]
  intro x hx
  obtain ⟨i, _, rfl⟩ := List.mem_map.mp hx
  rfl
theorem D.ok2_plain {d : D} (h : D.ok2 d = true) : D.plain d = true := by cases d <;> first | rfl | exact h
theorem D.ok2_tup {ds : List D} (h : D.ok2 (.tup ds) = true) : ds.length ≤ sizeLine ∧ ds.all D.ok1 = true := by
  have h' : (decide (ds.length ≤ 1000) && ds.all D.ok1) = true := h
  rw [Bool.and_eq_true] at h'
  exact ⟨small (of_decide_eq_true h'.1), h'.2⟩
theorem ev_kinds {Γ : GC} {δ : Env'} {p : Pos} (h : Tx T) (hg : GlS Γ.sc "KINDS" := by rfl) : EV T Γ (.Name "KINDS" p) δ L (.tup (kinds.map D.str)) L := ev_kx h.c_KINDS h.ex_0 hg
theorem any_strs (k : Str) : ∀ ss : List Str, ((ss.map D.str).any fun y => eqD y (.str k)) = decide (k ∈ ss)
  | [] => rfl
  | s :: r => by
    rw [List.map_cons, List.any_cons, any_strs k r]
    show (s == k || _) = _
    by_cases e : s = k
    · subst e; simp
    · simp [e, Ne.symm e]
theorem flats_strs : ∀ ss : List Str, (ss.map D.str).all D.flat = true
  | [] => rfl
  | s :: r => by rw [List.map_cons, List.all_cons, flats_strs r]; rfl
theorem D.ok1_len {ds : List D} (h : D.ok1 (.tup ds) = true) : ds.length ≤ 1000 := by
  have h' : (decide (ds.length ≤ 1000) && ds.all D.plain) = true := h
  rw [Bool.and_eq_true] at h'
  exact of_decide_eq_true h'.1
theorem row_tail (h : Tx T) {k : Str} {b : D} {ns : List Int} (hk : k ∈ kinds) (oc : D.ok1 (.tup (ns.map D.int)) = true) : ∃ st1 st2 rest, defBody s_is_row = st1 :: st2 :: rest ∧ SV T Γ_is_row rest [some (.tup [.str k, b, .tup (ns.map D.int)])] L (.rt (.bl (rowTail k (.tup (ns.map D.int))))) L := by
  refine ⟨_, _, _, rfl, ?_⟩
  have dn : PyData.eqv (D.tup (ns.map D.int)).py (D.tup []).py = (match D.tup (ns.map D.int) with | .tup [] => true | _ => false) := by
    rw [show D.tup [] = D.tup (([] : List Int).map D.int) from rfl, eqv_ints]
    cases ns <;> simp
  have hk' : k = "put" ∨ k = "out" ∨ k = "done" ∨ k = "from" ∨ k = "part" ∨ k = "deal" ∨ k = "carried" ∨ k = "new" := by simpa [kinds] using hk
  rcases hk' with rfl | rfl | rfl | rfl | rfl | rfl | rfl | rfl
  · exact sv_out (s_ifT (TV.to (tv_in (ev_ix (ev_name 0) ev_int .tup rfl) (ev_tup (ds := [.str "put", .str "part"]) (av_cons ev_str (av_cons ev_str av_nil)) (by decide)) .tup rfl rfl) (by decide +kernel)) (sv_one (s_ret (ev_call (c_is_body h oc) (av_cons (ev_ix (ev_name 0) ev_int .tup rfl) av_nil))))) trivial
  · refine sv_cons (s_ifF (TV.to (tv_in (ev_ix (ev_name 0) ev_int .tup rfl) (ev_tup (ds := [.str "put", .str "part"]) (av_cons ev_str (av_cons ev_str av_nil)) (by decide)) .tup rfl rfl) (by decide +kernel)) sv_nil) (sv_cons (s_ifF (TV.to (tv_eq (ev_ix (ev_name 0) ev_int .tup rfl) ev_str (shp_str (by decide +kernel)).ok (shp_str (by decide +kernel)).ok) (by rw [eqv_str]; decide +kernel)) sv_nil) (sv_cons (s_ifF (TV.to (tv_eq (ev_ix (ev_name 0) ev_int .tup rfl) ev_str (shp_str (by decide +kernel)).ok (shp_str (by decide +kernel)).ok) (by rw [eqv_str]; decide +kernel)) sv_nil) (sv_one (s_ret (EV.to (ev_eq (ev_ix (ev_name 0) ev_int .tup rfl) (ev_tup (ds := []) av_nil (by decide)) (shp_ints ns).ok (shp_ints []).ok) ?_)))))
    exact congrArg D.bl dn
  · refine sv_cons (s_ifF (TV.to (tv_in (ev_ix (ev_name 0) ev_int .tup rfl) (ev_tup (ds := [.str "put", .str "part"]) (av_cons ev_str (av_cons ev_str av_nil)) (by decide)) .tup rfl rfl) (by decide +kernel)) sv_nil) (sv_cons (s_ifF (TV.to (tv_eq (ev_ix (ev_name 0) ev_int .tup rfl) ev_str (shp_str (by decide +kernel)).ok (shp_str (by decide +kernel)).ok) (by rw [eqv_str]; decide +kernel)) sv_nil) (sv_cons (s_ifF (TV.to (tv_eq (ev_ix (ev_name 0) ev_int .tup rfl) ev_str (shp_str (by decide +kernel)).ok (shp_str (by decide +kernel)).ok) (by rw [eqv_str]; decide +kernel)) sv_nil) (sv_one (s_ret (EV.to (ev_eq (ev_ix (ev_name 0) ev_int .tup rfl) (ev_tup (ds := []) av_nil (by decide)) (shp_ints ns).ok (shp_ints []).ok) ?_)))))
    exact congrArg D.bl dn
  · refine sv_cons (s_ifF (TV.to (tv_in (ev_ix (ev_name 0) ev_int .tup rfl) (ev_tup (ds := [.str "put", .str "part"]) (av_cons ev_str (av_cons ev_str av_nil)) (by decide)) .tup rfl rfl) (by decide +kernel)) sv_nil) (sv_cons (s_ifF (TV.to (tv_eq (ev_ix (ev_name 0) ev_int .tup rfl) ev_str (shp_str (by decide +kernel)).ok (shp_str (by decide +kernel)).ok) (by rw [eqv_str]; decide +kernel)) sv_nil) (sv_cons (s_ifF (TV.to (tv_eq (ev_ix (ev_name 0) ev_int .tup rfl) ev_str (shp_str (by decide +kernel)).ok (shp_str (by decide +kernel)).ok) (by rw [eqv_str]; decide +kernel)) sv_nil) (sv_one (s_ret (EV.to (ev_eq (ev_ix (ev_name 0) ev_int .tup rfl) (ev_tup (ds := []) av_nil (by decide)) (shp_ints ns).ok (shp_ints []).ok) ?_)))))
    exact congrArg D.bl dn
  · exact sv_out (s_ifT (TV.to (tv_in (ev_ix (ev_name 0) ev_int .tup rfl) (ev_tup (ds := [.str "put", .str "part"]) (av_cons ev_str (av_cons ev_str av_nil)) (by decide)) .tup rfl rfl) (by decide +kernel)) (sv_one (s_ret (ev_call (c_is_body h oc) (av_cons (ev_ix (ev_name 0) ev_int .tup rfl) av_nil))))) trivial
  · refine sv_cons (s_ifF (TV.to (tv_in (ev_ix (ev_name 0) ev_int .tup rfl) (ev_tup (ds := [.str "put", .str "part"]) (av_cons ev_str (av_cons ev_str av_nil)) (by decide)) .tup rfl rfl) (by decide +kernel)) sv_nil) (sv_cons (s_ifF (TV.to (tv_eq (ev_ix (ev_name 0) ev_int .tup rfl) ev_str (shp_str (by decide +kernel)).ok (shp_str (by decide +kernel)).ok) (by rw [eqv_str]; decide +kernel)) sv_nil) (sv_out (s_ifT (TV.to (tv_eq (ev_ix (ev_name 0) ev_int .tup rfl) ev_str (shp_str (by decide +kernel)).ok (shp_str (by decide +kernel)).ok) (by rw [eqv_str]; decide +kernel)) (sv_one (s_ret (?_)))) trivial))
    match ns, oc with
    | [], _ => exact ev_andF (EV.to (ev_eq (ev_len h.no_len (ev_ix (ev_name 0) ev_int .tup rfl) .tup) ev_int (shp_int _).ok (shp_int _).ok) rfl)
    | [n], _ => exact ev_andT (EV.to (ev_eq (ev_len h.no_len (ev_ix (ev_name 0) ev_int .tup rfl) .tup) ev_int (shp_int _).ok (shp_int _).ok) rfl) (ev_one (ev_call (c_is_within h (d := .int n) (lo := 1) (hi := 9) rfl) (av_cons (ev_ix (ev_ix (ev_name 0) ev_int .tup rfl) ev_int .tup rfl) (av_cons ev_int (av_cons (ev_kint h.c_MOST_DEAL) av_nil)))))
    | n :: m :: r, _ =>
      refine ev_andF (EV.to (ev_eq (ev_len h.no_len (ev_ix (ev_name 0) ev_int .tup rfl) .tup) ev_int (shp_int _).ok (shp_int _).ok) (congrArg D.bl ?_))
      show PyData.eqv (.int _) (.int _) = false
      rw [eqv_int]
      simp
      omega
  · refine sv_cons (s_ifF (TV.to (tv_in (ev_ix (ev_name 0) ev_int .tup rfl) (ev_tup (ds := [.str "put", .str "part"]) (av_cons ev_str (av_cons ev_str av_nil)) (by decide)) .tup rfl rfl) (by decide +kernel)) sv_nil) (sv_out (s_ifT (TV.to (tv_eq (ev_ix (ev_name 0) ev_int .tup rfl) ev_str (shp_str (by decide +kernel)).ok (shp_str (by decide +kernel)).ok) (by rw [eqv_str]; decide +kernel)) (sv_one (s_ret (?_)))) trivial)
    match ns, oc with
    | [], _ => exact ev_andF (EV.to (ev_gt (ev_len h.no_len (ev_ix (ev_name 0) ev_int .tup rfl) .tup) ev_int) rfl)
    | n :: r, oc =>
      have o2 : D.ok1 (.tup (r.map D.int)) = true := ok1_ints (by
        have := (D.ok1_len oc)
        simp at this
        omega)
      by_cases hn : n ≤ 9
      · show EV T Γ_is_row _ _ L (.bl (decide (n ≤ 9) && isBody (.tup (r.map D.int)))) L
        rw [decide_eq_true hn, Bool.true_and]
        exact ev_andT (EV.to (ev_gt (ev_len h.no_len (ev_ix (ev_name 0) ev_int .tup rfl) .tup) ev_int) (congrArg D.bl (by simp <;> omega))) (ev_andT (EV.to (ev_le (ev_ix (ev_ix (ev_name 0) ev_int .tup rfl) ev_int .tup (atI_head _ _)) (ev_kint h.c_MOST_TRIES)) (congrArg D.bl (decide_eq_true hn))) (ev_one (ev_call (c_is_body h o2) (av_cons (EV.to (ev_slT (i := some 1) (j := none) (ev_ix (ev_name 0) ev_int .tup rfl) ev_int trivial) (congrArg D.tup (cutD_tail _ _))) av_nil))))
      · show EV T Γ_is_row _ _ L (.bl (decide (n ≤ 9) && isBody (.tup (r.map D.int)))) L
        rw [decide_eq_false hn, Bool.false_and]
        exact ev_andT (EV.to (ev_gt (ev_len h.no_len (ev_ix (ev_name 0) ev_int .tup rfl) .tup) ev_int) (congrArg D.bl (by simp <;> omega))) (ev_andF (EV.to (ev_le (ev_ix (ev_ix (ev_name 0) ev_int .tup rfl) ev_int .tup (atI_head _ _)) (ev_kint h.c_MOST_TRIES)) (congrArg D.bl (decide_eq_false hn))))
  · refine sv_cons (s_ifF (TV.to (tv_in (ev_ix (ev_name 0) ev_int .tup rfl) (ev_tup (ds := [.str "put", .str "part"]) (av_cons ev_str (av_cons ev_str av_nil)) (by decide)) .tup rfl rfl) (by decide +kernel)) sv_nil) (sv_cons (s_ifF (TV.to (tv_eq (ev_ix (ev_name 0) ev_int .tup rfl) ev_str (shp_str (by decide +kernel)).ok (shp_str (by decide +kernel)).ok) (by rw [eqv_str]; decide +kernel)) sv_nil) (sv_cons (s_ifF (TV.to (tv_eq (ev_ix (ev_name 0) ev_int .tup rfl) ev_str (shp_str (by decide +kernel)).ok (shp_str (by decide +kernel)).ok) (by rw [eqv_str]; decide +kernel)) sv_nil) (sv_one (s_ret (EV.to (ev_eq (ev_ix (ev_name 0) ev_int .tup rfl) (ev_tup (ds := []) av_nil (by decide)) (shp_ints ns).ok (shp_ints []).ok) ?_)))))
    exact congrArg D.bl dn
theorem c_is_row (h : Tx T) {d : D} (hp : D.ok2 d = true) : FC T 4 "is_row" [d] L (.rt (.bl (isRow d))) L := by
  have no : ∀ k, d.isK "tuple" = some k → k = false → FC T 4 "is_row" [d] L (.rt (.bl false)) L := fun k h1 h2 => by
    subst h2
    exact st_is_row h ⟨.rt _, sv_out (s_ifT (tv_w (tv_or (x := true) (tv_not (tv_val (ev_is_tuple h.no_isinstance h.no_tuple (ev_name 0) h1))) (y := true) nft fun _ => rfl)) (sv_one (s_ret ev_bl))) trivial, rfl⟩
  cases d with
  | non => exact no false rfl rfl
  | bl b => exact no false rfl rfl
  | int i => exact no false rfl rfl
  | str x => exact no false rfl rfl
  | lst ds => exact no false rfl rfl
  | ref k => cases hp
  | scr k => cases hp
  | tup ds =>
    obtain ⟨hz, ha⟩ := D.ok2_tup hp
    by_cases hl : ds.length = 3
    · match ds, hl with
      | [a, b, c], _ =>
        have oa : D.ok1 a = true ∧ D.ok1 b = true ∧ D.ok1 c = true := by simpa using ha
        have no3 : ∀ k, a.isK "str" = some k → k = false → isRow (.tup [a, b, c]) = false → FC T 4 "is_row" [.tup [a, b, c]] L (.rt (.bl (isRow (.tup [a, b, c])))) L := fun k q1 q2 e => by
          subst q2
          rw [e]
          exact st_is_row h ⟨.rt _, sv_out (s_ifT (tv_w (tv_orF (tv_notF (tv_val (ev_is_tuple h.no_isinstance h.no_tuple (ev_name 0) rfl))) (tv_orF (TV.to (tv_ne (ev_len h.no_len (ev_name 0) .tup) ev_int (shp_int _).ok (shp_int _).ok) (by rfl)) (tv_orT (tv_notT (tv_val (ev_is_str h.no_isinstance h.no_str (ev_ix (ev_name 0) ev_int .tup rfl) q1))))))) (sv_one (s_ret ev_bl))) trivial, rfl⟩
        cases a with
        | non => exact no3 false rfl rfl rfl
        | bl x => exact no3 false rfl rfl rfl
        | int x => exact no3 false rfl rfl rfl
        | lst x => exact no3 false rfl rfl rfl
        | tup x => exact no3 false rfl rfl rfl
        | ref k => exact nomatch oa.1
        | scr k => exact nomatch oa.1
        | str k =>
          by_cases hk : k ∈ kinds
          · have pb := D.ok1_plain oa.2.1
            by_cases hw : (isWithin b 0 999999 && areBytes c) = true
            · have hw1 : isWithin b 0 999999 = true := by revert hw; cases isWithin b 0 999999 <;> simp
              have hw2 : areBytes c = true := by rw [hw1] at hw; exact hw
              refine st_is_row h ⟨.rt _, sv_cons (s_ifF (tv_w (tv_orF (tv_notF (tv_val (ev_is_tuple h.no_isinstance h.no_tuple (ev_name 0) rfl))) (tv_orF (TV.to (tv_ne (ev_len h.no_len (ev_name 0) .tup) ev_int (shp_int _).ok (shp_int _).ok) (by rfl)) (tv_orF (tv_notF (tv_val (ev_is_str h.no_isinstance h.no_str (ev_ix (ev_name 0) ev_int .tup rfl) rfl))) (wv_or1 (TV.to (tv_nin (ev_ix (ev_name 0) ev_int .tup rfl) (ev_kinds h) .tup rfl (flats_strs _)) (by rw [any_strs, decide_eq_true hk]; rfl))))))) sv_nil) (sv_cons (s_ifF (tv_w (tv_orF (tv_notF (tv_val (EV.to (ev_call (c_is_within h pb) (av_cons (ev_ix (ev_name 0) ev_int .tup rfl) (av_cons ev_int (av_cons (ev_kint h.c_MOST_NUMBER) av_nil)))) (congrArg D.bl hw1)))) (wv_or1 (tv_notF (tv_val (EV.to (ev_call (c_bytes1 h oa.2.2) (av_cons (ev_ix (ev_name 0) ev_int .tup rfl) av_nil)) (congrArg D.bl hw2))))))) sv_nil) ?_), rfl⟩
              obtain ⟨ns, rfl, hb⟩ := areBytes_at hw2
              rw [isRow_at, decide_eq_true hk, hw1, hw2, Bool.true_and, Bool.true_and, Bool.true_and]
              obtain ⟨_, _, _, q, w⟩ := row_tail (T := T) (L := L) (b := b) h hk oa.2.2
              cases q
              exact w
            · have e : isRow (.tup [.str k, b, c]) = false := by
                rw [isRow_at, decide_eq_true hk, Bool.true_and, ← Bool.and_assoc, Bool.eq_false_iff.mpr hw, Bool.false_and]
              rw [e]
              cases hw1 : isWithin b 0 999999 with
              | false => exact st_is_row h ⟨.rt _, sv_cons (s_ifF (tv_w (tv_orF (tv_notF (tv_val (ev_is_tuple h.no_isinstance h.no_tuple (ev_name 0) rfl))) (tv_orF (TV.to (tv_ne (ev_len h.no_len (ev_name 0) .tup) ev_int (shp_int _).ok (shp_int _).ok) (by rfl)) (tv_orF (tv_notF (tv_val (ev_is_str h.no_isinstance h.no_str (ev_ix (ev_name 0) ev_int .tup rfl) rfl))) (wv_or1 (TV.to (tv_nin (ev_ix (ev_name 0) ev_int .tup rfl) (ev_kinds h) .tup rfl (flats_strs _)) (by rw [any_strs, decide_eq_true hk]; rfl))))))) sv_nil) (sv_out (s_ifT (tv_w (tv_orT (tv_notT (tv_val (EV.to (ev_call (c_is_within h pb) (av_cons (ev_ix (ev_name 0) ev_int .tup rfl) (av_cons ev_int (av_cons (ev_kint h.c_MOST_NUMBER) av_nil)))) (congrArg D.bl hw1)))))) (sv_one (s_ret ev_bl))) trivial), rfl⟩
              | true =>
                have hw2 : areBytes c = false := by rw [hw1] at hw; exact Bool.eq_false_iff.mpr hw
                exact st_is_row h ⟨.rt _, sv_cons (s_ifF (tv_w (tv_orF (tv_notF (tv_val (ev_is_tuple h.no_isinstance h.no_tuple (ev_name 0) rfl))) (tv_orF (TV.to (tv_ne (ev_len h.no_len (ev_name 0) .tup) ev_int (shp_int _).ok (shp_int _).ok) (by rfl)) (tv_orF (tv_notF (tv_val (ev_is_str h.no_isinstance h.no_str (ev_ix (ev_name 0) ev_int .tup rfl) rfl))) (wv_or1 (TV.to (tv_nin (ev_ix (ev_name 0) ev_int .tup rfl) (ev_kinds h) .tup rfl (flats_strs _)) (by rw [any_strs, decide_eq_true hk]; rfl))))))) sv_nil) (sv_out (s_ifT (tv_w (tv_orF (tv_notF (tv_val (EV.to (ev_call (c_is_within h pb) (av_cons (ev_ix (ev_name 0) ev_int .tup rfl) (av_cons ev_int (av_cons (ev_kint h.c_MOST_NUMBER) av_nil)))) (congrArg D.bl hw1)))) (wv_or1 (tv_notT (tv_val (EV.to (ev_call (c_bytes1 h oa.2.2) (av_cons (ev_ix (ev_name 0) ev_int .tup rfl) av_nil)) (congrArg D.bl hw2))))))) (sv_one (s_ret ev_bl))) trivial), rfl⟩
          · have e : isRow (.tup [.str k, b, c]) = false := by
              rw [isRow_at, decide_eq_false hk]
              rfl
            rw [e]
            exact st_is_row h ⟨.rt _, sv_out (s_ifT (tv_w (tv_orF (tv_notF (tv_val (ev_is_tuple h.no_isinstance h.no_tuple (ev_name 0) rfl))) (tv_orF (TV.to (tv_ne (ev_len h.no_len (ev_name 0) .tup) ev_int (shp_int _).ok (shp_int _).ok) (by rfl)) (tv_orF (tv_notF (tv_val (ev_is_str h.no_isinstance h.no_str (ev_ix (ev_name 0) ev_int .tup rfl) rfl))) (wv_or1 (TV.to (tv_nin (ev_ix (ev_name 0) ev_int .tup rfl) (ev_kinds h) .tup rfl (flats_strs _)) (by rw [any_strs, decide_eq_false hk]; rfl))))))) (sv_one (s_ret ev_bl))) trivial, rfl⟩
    · have e : isRow (.tup ds) = false := by
        unfold isRow
        split
        · rename_i q; injection q with q; subst q; exact absurd rfl hl
        · rfl
      rw [e]
      refine st_is_row h ⟨.rt _, sv_out (s_ifT (tv_w (tv_orF (tv_notF (tv_val (ev_is_tuple h.no_isinstance h.no_tuple (ev_name 0) rfl))) (tv_orT (TV.to (tv_ne (ev_len h.no_len (ev_name 0) .tup) ev_int (shp_int _).ok (shp_int _).ok) ?_)))) (sv_one (s_ret ev_bl))) trivial, rfl⟩
      show (!PyData.eqv (.int _) (.int _)) = true
      rw [eqv_int]
      simp
      omega
end
end Q
set_option Elab.async false
set_option linter.all false
set_option maxRecDepth 100000
set_option maxHeartbeats 4000000
namespace Q
open PySem PySem.Spec PyProof.Rows L2 G
section
variable {T : Sta} {L : Store}
/-- (at + 1) * one -/
def wts (i : Nat) : List Int → List Int
  | [] => []
  | n :: r => ((i : Int) + 1) * n :: wts (i + 1) r
theorem wts_len : ∀ (ns : List Int) (i : Nat), (wts i ns).length = ns.length
  | [], _ => rfl
  | n :: r, i => congrArg Nat.succ (wts_len r (i + 1))
def wtD : D → Option D
  | .tup [.int i, .int n] => some (.int ((i + 1) * n))
  | _ => none
theorem enum_map (f : D → Option D) (g : Nat → Int → D) (hf : ∀ (i : Nat) (n : Int), f (.tup [.int (i : Nat), .int n]) = some (g i n)) : ∀ (ns : List Int) (i : Nat), ((List.range' i ns.length).zipWith (fun i d => D.tup [.int (i : Nat), d]) (ns.map D.int)).filterMap f = (List.range' i ns.length).zipWith g ns
  | [], _ => rfl
  | n :: r, i => by
    have ih := enum_map f g hf r (i + 1)
    rw [List.length_cons, List.range'_succ, List.map_cons, List.zipWith_cons_cons, List.filterMap_cons, hf, List.zipWith_cons_cons]
    exact congrArg _ ih
theorem wts_zip : ∀ (ns : List Int) (i : Nat), (List.range' i ns.length).zipWith (fun (i : Nat) (n : Int) => D.int (((i : Int) + 1) * n)) ns = (wts i ns).map D.int
  | [], _ => rfl
  | n :: r, i => by
    rw [List.length_cons, List.range'_succ, List.zipWith_cons_cons, wts_zip r (i + 1)]
    rfl
theorem enum_wts (ns : List Int) : (enumD (ns.map D.int)).filterMap wtD = (wts 0 ns).map D.int := by
  unfold enumD
  rw [List.length_map, List.range_eq_range', enum_map wtD (fun i n => .int (((i : Int) + 1) * n)) (fun i n => rfl) ns 0]
  exact wts_zip ns 0
def checksN (ns : List Int) : List Int := [ns.sum % 256, (wts 0 ns).sum % 256]
theorem c_checks (h : Tx T) {ns : List Int} (hl : ns.length ≤ sizeLine) (hb : ∀ n ∈ ns, -(2 ^ 64) < n ∧ n < 2 ^ 64) : FC T 1 "checks" [.tup (ns.map D.int)] L (.rt (.tup ((checksN ns).map D.int))) L := by
  refine st_checks h ⟨.rt _, sv_one (s_ret (ev_tup (ds := (checksN ns).map D.int) (av_cons (ev_mod (ev_sum h.no_sum (ev_name 0) .tup) ev_int (by decide)) (av_cons (ev_mod (ev_sum (ns := wts 0 ns) h.no_sum (EV.to (ev_lc (c := none) [("at", 1), ("one", 2)] wtD (iv_enumT (ev_name 0) h.no_enumerate) trivial (tl_tup (n := 2) (tl_cons (tl_name 1) (tl_cons (tl_name 2) tl_nil))) (ix := [1, 2]) (by decide) (fun i d hd => ?_) ?_) (congrArg D.lst (enum_wts ns))) .lst) ev_int (by decide)) av_nil)) (small (by simp [checksN])))), rfl⟩
  · obtain ⟨e, he, rfl⟩ := enumD_at hd
    rw [List.getElem?_map] at he
    cases q : ns[i]? with
    | none => rw [q] at he; cases he
    | some n =>
      rw [q] at he
      cases he
      refine ⟨_, gb_tup (ix := [1, 2]) (gb_cons gb_name (gb_cons gb_name gb_nil)), rfl, fun y hy => ?_⟩
      cases hy
      exact ev_mul (ev_add (ev_name 1) ev_int) (ev_name 2) (.inr (hb n (List.mem_of_getElem? q)))
  · rw [enumD_len, List.length_map]; exact hl
def headN (c n : Int) (b : List Int) : List Int := [c, n / 65536, n / 256 % 256, n % 256, b.length] ++ b
def rowN (k : Str) (n : Int) (b : List Int) : List Int := checksN (headN ((firstAt kinds k : Nat) + 1) n b) ++ headN ((firstAt kinds k : Nat) + 1) n b
/-- a row as it must be -/
structure GoodRow (k : Str) (n : Int) (b : List Int) : Prop where
  k' : k ∈ kinds
  n' : 0 ≤ n ∧ n ≤ 999999
  b' : ∀ x ∈ b, 0 ≤ x ∧ x ≤ 255
  l' : b.length ≤ 61
def rowD (k : Str) (n : Int) (b : List Int) : D := .tup [.str k, .int n, .tup (b.map D.int)]
theorem firstAt_lt {k : Str} (h : k ∈ kinds) : firstAt kinds k < 8 := (List.getElem?_eq_some_iff.mp (firstAt_ok h).1).1
theorem head_small {c n : Int} {b : List Int} (hc : 0 ≤ c ∧ c ≤ 255) (hn : 0 ≤ n ∧ n ≤ 999999) (hb : ∀ x ∈ b, 0 ≤ x ∧ x ≤ 255) (hl : b.length ≤ 61) : ∀ x ∈ headN c n b, 0 ≤ x ∧ x ≤ 255 := by
  intro x hx
  unfold headN at hx
  rcases List.mem_append.mp hx with h | h
  · simp only [List.mem_cons, List.not_mem_nil, or_false] at h
    rcases h with rfl | rfl | rfl | rfl | rfl <;> omega
  · exact hb x h
theorem c_bytes_of (h : Tx T) {k : Str} {n : Int} {b : List Int} (g : GoodRow k n b) : FC T 2 "bytes_of" [rowD k n b] L (.rt (.tup ((rowN k n b).map D.int))) L := by
  have hf := firstAt_lt g.k'
  have hs := head_small (c := (firstAt kinds k : Nat) + 1) (n := n) (b := b) (by omega) g.n' g.b' g.l'
  have hlen : (headN ((firstAt kinds k : Nat) + 1) n b).length = b.length + 5 := by simp [headN]
  have hl := g.l'
  refine st_bytes_of h ⟨.rt _, sv_cons (s_set 1 (ev_ix (ev_name 0) ev_int .tup rfl)) (sv_cons (s_set 2 (d := .tup ((headN ((firstAt kinds k : Nat) + 1) n b).map D.int)) (EV.to (ev_catT (es := b.map D.int) (ev_tup (ds := [.int ((firstAt kinds k : Nat) + 1), .int (n / 65536), .int (n / 256 % 256), .int (n % 256), .int ((b.map D.int).length : Nat)]) (av_cons (ev_add (ev_kidx h.c_KINDS h.ex_0 (ev_ix (ev_name 0) ev_int .tup rfl) g.k') ev_int) (av_cons (ev_div (ev_name 1) ev_int ⟨by decide, by decide⟩) (av_cons (ev_mod (ev_div (ev_name 1) ev_int ⟨by decide, by decide⟩) ev_int (by decide)) (av_cons (ev_mod (ev_name 1) ev_int (by decide)) (av_cons (ev_len h.no_len (ev_ix (ev_name 0) ev_int .tup rfl) .tup) av_nil))))) (small (by simp))) (ev_ix (ev_name 0) ev_int .tup rfl) (small (by simp; omega))) ?_)) (sv_one (s_ret (EV.to (ev_catT (ev_call (c_checks h (ns := headN ((firstAt kinds k : Nat) + 1) n b) (small (by omega)) fun x hx => ?_) (av_cons (ev_name 2) av_nil)) (ev_name 2) (small (by simp [checksN]; omega))) ?_)))), rfl⟩
  · rw [List.length_map]
    rfl
  · have := hs x hx
    omega
  · rw [← List.map_append]
    rfl
theorem c_row_bytes (h : Tx T) {k : Str} {n : Int} {b : List Int} (g : GoodRow k n b) (hr : isRow (rowD k n b) = true) : FC T 5 "row_bytes" [rowD k n b] L (.rt (.tup ((rowN k n b).map D.int))) L := by
  have o1 : D.ok1 (.tup (b.map D.int)) = true := ok1_ints (by have := g.l'; omega)
  have o2 : D.ok2 (rowD k n b) = true := by
    show (decide (3 ≤ 1000) && (D.ok1 (.str k) && (D.ok1 (.int n) && (D.ok1 (.tup (b.map D.int)) && true)))) = true
    rw [o1]
    rfl
  exact st_row_bytes h ⟨.rt _, sv_cons (s_ifF (tv_notF (tv_val (EV.to (ev_call (c_is_row h o2) (av_cons (ev_name 0) av_nil)) (congrArg D.bl hr)))) sv_nil) (sv_one (s_ret (ev_call (c_bytes_of h g) (av_cons (ev_name 0) av_nil)))), rfl⟩
theorem c_row_bytesX (h : Tx T) {d : D} (o2 : D.ok2 d = true) (hr : isRow d = false) : FC T 5 "row_bytes" [d] L (.ex "BadRow") L :=
  st_row_bytes h ⟨.ex _ _, sv_out (s_ifT (tv_notT (tv_val (EV.to (ev_call (c_is_row h o2) (av_cons (ev_name 0) av_nil)) (congrArg D.bl hr)))) (sv_one (s_raise h.x_BadRow))) trivial, rfl⟩
end
end Q
set_option Elab.async false
set_option linter.all false
set_option maxRecDepth 100000
set_option maxHeartbeats 4000000
namespace Q
open PySem PySem.Spec PyProof.Rows L2 G
section
variable {T : Sta} {L : Store}
/-! ### what the law draws -/
def cellN (ns : List Int) (k : Nat) : Int := ns.getD k 0
def seedN (s k : Int) : Int := ((s * 1103515245 + 7919 * k + 12345) % 2147483647) ^ 5 % 2147483647
def pickN (s many : Int) : Int := s / 97 % many
theorem seed_bd (s k : Int) : 0 ≤ seedN s k ∧ seedN s k < 2147483647 := by unfold seedN; omega
theorem pick_bd (s many : Int) (h : 0 < many) : 0 ≤ pickN s many ∧ pickN s many < many := ⟨Int.emod_nonneg _ (by omega), Int.emod_lt_of_pos _ h⟩
theorem c_cell (h : Tx T) {ns : List Int} {k : Nat} : FC T 1 "_law_cell" [.scr ns, .int k] L (.rt (.int (cellN ns k))) L := by
  by_cases hk : k < ns.length
  · have e : cellN ns k = ns[k] := by unfold cellN; rw [List.getD_eq_getElem?_getD, List.getElem?_eq_getElem hk]; rfl
    rw [e]
    exact st__law_cell h ⟨.rt _, sv_out (s_ifT (TV.to (tv_lt (ev_name 1) (ev_len h.no_len (ev_name 0) .scr)) (decide_eq_true (by rw [List.length_map]; omega))) (sv_one (s_ret (ev_ix (ev_name 0) (ev_name 1) .scr (atI_at (by rw [List.getElem?_map, List.getElem?_eq_getElem hk]; rfl)))))) trivial, rfl⟩
  · have e : cellN ns k = 0 := by unfold cellN; rw [List.getD_eq_getElem?_getD, List.getElem?_eq_none (by omega)]; rfl
    rw [e]
    exact st__law_cell h ⟨.rt _, sv_cons (s_ifF (TV.to (tv_lt (ev_name 1) (ev_len h.no_len (ev_name 0) .scr)) (decide_eq_false (by rw [List.length_map]; omega))) sv_nil) (sv_one (s_ret ev_int)), rfl⟩
theorem c_seed (h : Tx T) {s k : Int} : FC T 1 "_law_seed" [.int s, .int k] L (.rt (.int (seedN s k))) L :=
  st__law_seed h ⟨.rt _, sv_one (s_ret (ev_mod (ev_pow (ev_mod (ev_add (ev_add (ev_mul (ev_name 0) ev_int (.inr (by decide))) (ev_mul ev_int (ev_name 1) (.inl (by decide)))) ev_int) ev_int (by decide)) ev_int ⟨by decide, by decide, by omega⟩) ev_int (by decide))), rfl⟩
theorem c_pick (h : Tx T) {s many : Int} (hm : 0 < many) : FC T 1 "_law_pick" [.int s, .int many] L (.rt (.int (pickN s many))) L :=
  st__law_pick h ⟨.rt _, sv_one (s_ret (ev_mod (ev_div (ev_name 0) ev_int ⟨by decide, by decide⟩) (ev_name 1) hm)), rfl⟩
/-- one of two, one of three -/
def two (i a b : Int) : Int := if i = 0 then a else b
def three (i a b c : Int) : Int := if i = 0 then a else if i = 1 then b else c
theorem at_two {i : Int} {a b : Int} (h : 0 ≤ i ∧ i < 2) : atI [D.int a, D.int b] i = some (.int (two i a b)) := by
  have : i = 0 ∨ i = 1 := by omega
  rcases this with rfl | rfl <;> rfl
theorem at_three {i : Int} {a b c : Int} (h : 0 ≤ i ∧ i < 3) : atI [D.int a, D.int b, D.int c] i = some (.int (three i a b c)) := by
  have : i = 0 ∨ i = 1 ∨ i = 2 := by omega
  rcases this with rfl | rfl | rfl <;> rfl
def manyN (s most : Int) : Int := two (s / 5 % 2) (s / 7 % (most + 1)) (s / 7 % 4)
def byteN (s : Int) (k : Nat) : Int := two ((k : Int) % 2) (pickN (seedN s k) 256) (s / 11 % 3 * 100)
def bytesN (s most : Int) : List Int := (List.range (manyN s most).toNat).map (byteN s)
theorem many_bd (s most : Int) (h : 3 ≤ most) : 0 ≤ manyN s most ∧ manyN s most ≤ most := by
  have h1 := Int.emod_nonneg (s / 7) (b := most + 1) (by omega)
  have h2 := Int.emod_lt_of_pos (s / 7) (b := most + 1) (by omega)
  unfold manyN two
  split <;> omega
theorem byte_bd (s : Int) (k : Nat) : 0 ≤ byteN s k ∧ byteN s k ≤ 255 := by
  have := pick_bd (seedN s k) 256 (by decide)
  unfold byteN two
  split <;> omega
theorem bytes_bd (s most : Int) : ∀ x ∈ bytesN s most, 0 ≤ x ∧ x ≤ 255 := by
  intro x hx
  obtain ⟨k, _, rfl⟩ := List.mem_map.mp hx
  exact byte_bd s k
theorem bytes_len (s most : Int) (h : 3 ≤ most) : ((bytesN s most).length : Int) ≤ most := by
  have := many_bd s most h
  unfold bytesN
  rw [List.length_map, List.length_range]
  omega
theorem c_bytes (h : Tx T) {s most : Int} (h1 : 3 ≤ most) (h2 : most ≤ 1000) : FC T 2 "_law_bytes" [.int s, .int most] L (.rt (.tup ((bytesN s most).map D.int))) L := by
  have hb := many_bd s most h1
  refine st__law_bytes h ⟨.rt _, sv_cons (s_set 2 (ev_ix (ev_lst (ds := [.int (s / 7 % (most + 1)), .int (s / 7 % 4)]) (av_cons (ev_mod (ev_div (ev_name 0) ev_int ⟨by decide, by decide⟩) (ev_add (ev_name 1) ev_int) (by omega)) (av_cons (ev_mod (ev_div (ev_name 0) ev_int ⟨by decide, by decide⟩) ev_int (by decide)) av_nil)) (small (by simp))) (ev_mod (ev_div (ev_name 0) ev_int ⟨by decide, by decide⟩) ev_int (by decide)) .lst (at_two (by omega)))) (sv_one (s_ret (ev_tupleL h.no_tuple (EV.to (ev_lc (c := none) [("_law_k", 3)] (fun d => match d with | .int k => some (.int (byteN s k.toNat)) | _ => none) (iv_range1 (n := manyN s most) (ev_name 2) h.no_range (by omega) (by omega)) trivial (tl_name 3) (ix := [3]) (by decide) (fun i d hd => ?_) ?_) ?_)))), rfl⟩
  · have hd' : d = .int (i : Nat) := by
      unfold rngD at hd
      rw [List.getElem?_map] at hd
      cases q : (List.range (manyN s most).toNat)[i]? with
      | none => rw [q] at hd; cases hd
      | some j =>
        rw [q] at hd
        cases hd
        obtain ⟨_, z⟩ := List.getElem?_eq_some_iff.mp q
        rw [List.getElem_range] at z
        subst z
        show D.int (0 + (i : Int)) = _
        rw [Int.zero_add]
    subst hd'
    refine ⟨_, gb_name, rfl, fun y hy => ?_⟩
    cases hy
    exact ev_ix (ev_lst (ds := [.int (pickN (seedN s i) 256), .int (s / 11 % 3 * 100)]) (av_cons (ev_call (c_pick h (by decide)) (av_cons (ev_call (c_seed h) (av_cons (ev_name 0) (av_cons (ev_name 3) av_nil))) (av_cons ev_int av_nil))) (av_cons (ev_mul (ev_mod (ev_div (ev_name 0) ev_int ⟨by decide, by decide⟩) ev_int (by decide)) ev_int (.inr (by decide))) av_nil)) (small (by simp))) (ev_mod (ev_name 3) ev_int (by decide)) .lst (at_two (by omega))
  · unfold rngD
    rw [List.length_map, List.length_range]
    exact small (by omega)
  · congr 1
    unfold rngD bytesN
    rw [List.filterMap_map, List.map_map]
    rw [← List.filterMap_eq_map]
    congr 1
    funext i
    simp
end
end Q
set_option Elab.async false
set_option linter.all false
set_option maxRecDepth 100000
set_option maxHeartbeats 4000000
namespace Q
open PySem PySem.Spec PyProof.Rows L2 G
section
variable {T : Sta} {L : Store}
def kindN (s : Int) : Str := kinds.getD (pickN s 8).toNat "new"
def numN (s : Int) : Int := three (s / 11 % 3) (s / 7 % 1000000) (s / 7 % 20) 999999
def bodyN (k : Str) (s : Int) : List Int := if k = "put" ∨ k = "part" then bytesN (seedN s 1) 60 else if k = "carried" then (s / 13 % 10) :: bytesN (seedN s 1) 60 else if k = "deal" then [1 + s / 13 % 9] else []
theorem kind_at (s : Int) : atI ([.str "put", .str "out", .str "done", .str "from", .str "part", .str "deal", .str "carried", .str "new"] : List D) (pickN s 8) = some (.str (kindN s)) ∧ kindN s ∈ kinds := by
  obtain ⟨h1, h2⟩ := pick_bd s 8 (by decide)
  unfold kindN
  have : pickN s 8 = 0 ∨ pickN s 8 = 1 ∨ pickN s 8 = 2 ∨ pickN s 8 = 3 ∨ pickN s 8 = 4 ∨ pickN s 8 = 5 ∨ pickN s 8 = 6 ∨ pickN s 8 = 7 := by omega
  rcases this with e | e | e | e | e | e | e | e <;> rw [e] <;> exact ⟨rfl, by simp [kinds]⟩
theorem num_bd (s : Int) : 0 ≤ numN s ∧ numN s ≤ 999999 := by
  unfold numN three
  split
  · omega
  · split <;> omega
theorem mem_kinds {k : Str} (h : k ∈ kinds) : k = "put" ∨ k = "out" ∨ k = "done" ∨ k = "from" ∨ k = "part" ∨ k = "deal" ∨ k = "carried" ∨ k = "new" := by simpa [kinds] using h
theorem body_bd (k : Str) (s : Int) : (∀ x ∈ bodyN k s, 0 ≤ x ∧ x ≤ 255) ∧ (bodyN k s).length ≤ 61 := by
  have h1 := bytes_bd (seedN s 1) 60
  have h2 := bytes_len (seedN s 1) 60 (by decide)
  unfold bodyN
  split
  · exact ⟨h1, by omega⟩
  · split
    · refine ⟨fun x hx => ?_, by simp; omega⟩
      rcases List.mem_cons.mp hx with e | hx
      · omega
      · exact h1 x hx
    · split
      · refine ⟨fun x hx => ?_, by simp⟩
        have e := List.mem_singleton.mp hx
        omega
      · exact ⟨fun x hx => absurd hx (by simp), by simp⟩
theorem goodN (s : Int) : GoodRow (kindN s) (numN s) (bodyN (kindN s) s) := ⟨(kind_at s).2, num_bd s, (body_bd _ s).1, (body_bd _ s).2⟩
theorem areBytes_ints {ns : List Int} (h : ∀ x ∈ ns, 0 ≤ x ∧ x ≤ 255) : areBytes (.tup (ns.map D.int)) = true := by
  show (ns.map D.int).all _ = true
  rw [List.all_eq_true]
  intro d hd
  obtain ⟨x, hx, rfl⟩ := List.mem_map.mp hd
  have := h x hx
  show (decide (0 ≤ x) && decide (x ≤ 255)) = true
  rw [decide_eq_true this.1, decide_eq_true this.2]
  rfl
theorem isBody_ints {ns : List Int} (h : ∀ x ∈ ns, 0 ≤ x ∧ x ≤ 255) (hl : ns.length ≤ 60) : isBody (.tup (ns.map D.int)) = true := by
  show (areBytes (.tup (ns.map D.int)) && decide ((ns.map D.int).length ≤ 60)) = true
  rw [areBytes_ints h, List.length_map, decide_eq_true hl]
  rfl
theorem isRowN (s : Int) : isRow (rowD (kindN s) (numN s) (bodyN (kindN s) s)) = true := by
  have h1 := bytes_bd (seedN s 1) 60
  have h2 := bytes_len (seedN s 1) 60 (by decide)
  have hn := num_bd s
  show isRow (.tup [.str (kindN s), .int (numN s), .tup ((bodyN (kindN s) s).map D.int)]) = true
  rw [isRow_at, decide_eq_true (kind_at s).2, show isWithin (.int (numN s)) 0 999999 = true from by show (decide _ && decide _) = true; rw [decide_eq_true hn.1, decide_eq_true hn.2]; rfl, areBytes_ints (body_bd _ s).1, Bool.true_and, Bool.true_and, Bool.true_and]
  have hk := mem_kinds (kind_at s).2
  generalize kindN s = k at hk
  have ib := isBody_ints h1 (by omega)
  unfold rowTail bodyN
  rcases hk with rfl | rfl | rfl | rfl | rfl | rfl | rfl | rfl
  · rw [if_pos (by simp), if_pos (by simp)]; exact ib
  · rfl
  · rfl
  · rfl
  · rw [if_pos (by simp), if_pos (by simp)]; exact ib
  · show (decide (1 ≤ 1 + s / 13 % 9) && decide (1 + s / 13 % 9 ≤ 9)) = true
    rw [decide_eq_true (by omega), decide_eq_true (by omega)]
    rfl
  · show (decide (s / 13 % 10 ≤ 9) && isBody (.tup ((bytesN (seedN s 1) 60).map D.int))) = true
    rw [decide_eq_true (by omega), ib]
    rfl
  · rfl
end
end Q
set_option Elab.async false
set_option linter.all false
set_option maxRecDepth 100000
set_option maxHeartbeats 4000000
namespace Q
open PySem PySem.Spec PyProof.Rows L2 G
section
variable {T : Sta} {L : Store}
theorem row_pre (h : Tx T) {s n : Int} {k : Str} {d : D} (en : D.int (numN s) = D.int n) (kk : atI ([.str "put", .str "out", .str "done", .str "from", .str "part", .str "deal", .str "carried", .str "new"] : List D) (pickN s 8) = some (.str k)) (r : SV T Γ__law_row ((defBody s__law_row).drop 3) [some (.int s), some (.str k), some (.int n), some (.tup [])] L (.rt d) L) : FC T 3 "_law_row" [.int s] L (.rt d) L := by
  have x1 : SV T Γ__law_row ((defBody s__law_row).drop 2) [some (.int s), some (.str k), some (.int n), none] L (.rt d) L := sv_cons (s_set 3 (ev_tup (ds := []) av_nil (small (by simp)))) r
  have x2 : SV T Γ__law_row ((defBody s__law_row).drop 1) [some (.int s), some (.str k), none, none] L (.rt d) L := sv_cons (s_set 2 (d := .int n) (EV.to (ev_ix (ev_lst (ds := [.int (s / 7 % 1000000), .int (s / 7 % 20), .int 999999]) (av_cons (ev_mod (ev_div (ev_name 0) ev_int ⟨by decide, by decide⟩) ev_int (by decide)) (av_cons (ev_mod (ev_div (ev_name 0) ev_int ⟨by decide, by decide⟩) ev_int (by decide)) (av_cons ev_int av_nil))) (small (by simp))) (ev_mod (ev_div (ev_name 0) ev_int ⟨by decide, by decide⟩) ev_int (by decide)) .lst (at_three (by omega))) en)) x1
  have x3 : SV T Γ__law_row (defBody s__law_row) [some (.int s), none, none, none] L (.rt d) L := sv_cons (s_set 1 (ev_ix (ev_tup (ds := [.str "put", .str "out", .str "done", .str "from", .str "part", .str "deal", .str "carried", .str "new"]) (av_cons ev_str (av_cons ev_str (av_cons ev_str (av_cons ev_str (av_cons ev_str (av_cons ev_str (av_cons ev_str (av_cons ev_str av_nil)))))))) (small (by simp))) (ev_call (c_pick h (by decide)) (av_cons (ev_name 0) (av_cons ev_int av_nil))) .tup kk)) x2
  exact st__law_row h ⟨_, x3, rfl⟩
theorem row_run (h : Tx T) {s s1 n : Int} {k : Str} (e1 : D.int (seedN s 1) = D.int s1) (en : D.int (numN s) = D.int n) (kk : atI ([.str "put", .str "out", .str "done", .str "from", .str "part", .str "deal", .str "carried", .str "new"] : List D) (pickN s 8) = some (.str k)) (hk : k ∈ kinds) : FC T 3 "_law_row" [.int s] L (.rt (rowD k n (if k = "put" ∨ k = "part" then bytesN s1 60 else if k = "carried" then (s / 13 % 10) :: bytesN s1 60 else if k = "deal" then [1 + s / 13 % 9] else []))) L := by
  have h2 := bytes_len s1 60 (by decide)
  refine row_pre h en kk ?_
  clear kk
  rcases mem_kinds hk with rfl | rfl | rfl | rfl | rfl | rfl | rfl | rfl
  · rw [if_pos (by decide +kernel)]
    exact sv_cons (s_ifT (TV.to (tv_in (ev_name 1) (ev_tup (ds := [.str "put", .str "part"]) (av_cons ev_str (av_cons ev_str av_nil)) (small (by simp))) .tup rfl rfl) (by decide +kernel)) (sv_one (s_set 3 (ev_call (c_bytes h (by decide) (by decide)) (av_cons (EV.to (ev_call (c_seed h) (av_cons (ev_name 0) (av_cons ev_int av_nil))) e1) (av_cons ev_int av_nil)))))) (sv_cons (s_ifF (TV.to (tv_eq (ev_name 1) ev_str (shp_str (by decide +kernel)).ok (shp_str (by decide +kernel)).ok) (by rw [eqv_str]; decide +kernel)) sv_nil) (sv_cons (s_ifF (TV.to (tv_eq (ev_name 1) ev_str (shp_str (by decide +kernel)).ok (shp_str (by decide +kernel)).ok) (by rw [eqv_str]; decide +kernel)) sv_nil) (sv_one (s_ret (ev_tup (ds := [.str "put", .int n, .tup ((bytesN s1 60).map D.int)]) (av_cons (ev_name 1) (av_cons (ev_name 2) (av_cons (ev_name 3) av_nil))) (small (by simp)))))))
  · rw [if_neg (by decide +kernel), if_neg (by decide +kernel), if_neg (by decide +kernel)]
    exact sv_cons (s_ifF (TV.to (tv_in (ev_name 1) (ev_tup (ds := [.str "put", .str "part"]) (av_cons ev_str (av_cons ev_str av_nil)) (small (by simp))) .tup rfl rfl) (by decide +kernel)) sv_nil) (sv_cons (s_ifF (TV.to (tv_eq (ev_name 1) ev_str (shp_str (by decide +kernel)).ok (shp_str (by decide +kernel)).ok) (by rw [eqv_str]; decide +kernel)) sv_nil) (sv_cons (s_ifF (TV.to (tv_eq (ev_name 1) ev_str (shp_str (by decide +kernel)).ok (shp_str (by decide +kernel)).ok) (by rw [eqv_str]; decide +kernel)) sv_nil) (sv_one (s_ret (ev_tup (ds := [.str "out", .int n, .tup []]) (av_cons (ev_name 1) (av_cons (ev_name 2) (av_cons (ev_name 3) av_nil))) (small (by simp)))))))
  · rw [if_neg (by decide +kernel), if_neg (by decide +kernel), if_neg (by decide +kernel)]
    exact sv_cons (s_ifF (TV.to (tv_in (ev_name 1) (ev_tup (ds := [.str "put", .str "part"]) (av_cons ev_str (av_cons ev_str av_nil)) (small (by simp))) .tup rfl rfl) (by decide +kernel)) sv_nil) (sv_cons (s_ifF (TV.to (tv_eq (ev_name 1) ev_str (shp_str (by decide +kernel)).ok (shp_str (by decide +kernel)).ok) (by rw [eqv_str]; decide +kernel)) sv_nil) (sv_cons (s_ifF (TV.to (tv_eq (ev_name 1) ev_str (shp_str (by decide +kernel)).ok (shp_str (by decide +kernel)).ok) (by rw [eqv_str]; decide +kernel)) sv_nil) (sv_one (s_ret (ev_tup (ds := [.str "done", .int n, .tup []]) (av_cons (ev_name 1) (av_cons (ev_name 2) (av_cons (ev_name 3) av_nil))) (small (by simp)))))))
  · rw [if_neg (by decide +kernel), if_neg (by decide +kernel), if_neg (by decide +kernel)]
    exact sv_cons (s_ifF (TV.to (tv_in (ev_name 1) (ev_tup (ds := [.str "put", .str "part"]) (av_cons ev_str (av_cons ev_str av_nil)) (small (by simp))) .tup rfl rfl) (by decide +kernel)) sv_nil) (sv_cons (s_ifF (TV.to (tv_eq (ev_name 1) ev_str (shp_str (by decide +kernel)).ok (shp_str (by decide +kernel)).ok) (by rw [eqv_str]; decide +kernel)) sv_nil) (sv_cons (s_ifF (TV.to (tv_eq (ev_name 1) ev_str (shp_str (by decide +kernel)).ok (shp_str (by decide +kernel)).ok) (by rw [eqv_str]; decide +kernel)) sv_nil) (sv_one (s_ret (ev_tup (ds := [.str "from", .int n, .tup []]) (av_cons (ev_name 1) (av_cons (ev_name 2) (av_cons (ev_name 3) av_nil))) (small (by simp)))))))
  · rw [if_pos (by decide +kernel)]
    exact sv_cons (s_ifT (TV.to (tv_in (ev_name 1) (ev_tup (ds := [.str "put", .str "part"]) (av_cons ev_str (av_cons ev_str av_nil)) (small (by simp))) .tup rfl rfl) (by decide +kernel)) (sv_one (s_set 3 (ev_call (c_bytes h (by decide) (by decide)) (av_cons (EV.to (ev_call (c_seed h) (av_cons (ev_name 0) (av_cons ev_int av_nil))) e1) (av_cons ev_int av_nil)))))) (sv_cons (s_ifF (TV.to (tv_eq (ev_name 1) ev_str (shp_str (by decide +kernel)).ok (shp_str (by decide +kernel)).ok) (by rw [eqv_str]; decide +kernel)) sv_nil) (sv_cons (s_ifF (TV.to (tv_eq (ev_name 1) ev_str (shp_str (by decide +kernel)).ok (shp_str (by decide +kernel)).ok) (by rw [eqv_str]; decide +kernel)) sv_nil) (sv_one (s_ret (ev_tup (ds := [.str "part", .int n, .tup ((bytesN s1 60).map D.int)]) (av_cons (ev_name 1) (av_cons (ev_name 2) (av_cons (ev_name 3) av_nil))) (small (by simp)))))))
  · rw [if_neg (by decide +kernel), if_neg (by decide +kernel), if_pos rfl]
    exact sv_cons (s_ifF (TV.to (tv_in (ev_name 1) (ev_tup (ds := [.str "put", .str "part"]) (av_cons ev_str (av_cons ev_str av_nil)) (small (by simp))) .tup rfl rfl) (by decide +kernel)) sv_nil) (sv_cons (s_ifF (TV.to (tv_eq (ev_name 1) ev_str (shp_str (by decide +kernel)).ok (shp_str (by decide +kernel)).ok) (by rw [eqv_str]; decide +kernel)) sv_nil) (sv_cons (s_ifT (TV.to (tv_eq (ev_name 1) ev_str (shp_str (by decide +kernel)).ok (shp_str (by decide +kernel)).ok) (by rw [eqv_str]; decide +kernel)) (sv_one (s_set 3 (ev_tup (ds := [.int (1 + s / 13 % 9)]) (av_cons (ev_add ev_int (ev_mod (ev_div (ev_name 0) ev_int ⟨by decide, by decide⟩) ev_int (by decide))) av_nil) (small (by simp)))))) (sv_one (s_ret (ev_tup (ds := [.str "deal", .int n, .tup [.int (1 + s / 13 % 9)]]) (av_cons (ev_name 1) (av_cons (ev_name 2) (av_cons (ev_name 3) av_nil))) (small (by simp)))))))
  · rw [if_neg (by decide +kernel), if_pos rfl]
    exact sv_cons (s_ifF (TV.to (tv_in (ev_name 1) (ev_tup (ds := [.str "put", .str "part"]) (av_cons ev_str (av_cons ev_str av_nil)) (small (by simp))) .tup rfl rfl) (by decide +kernel)) sv_nil) (sv_cons (s_ifT (TV.to (tv_eq (ev_name 1) ev_str (shp_str (by decide +kernel)).ok (shp_str (by decide +kernel)).ok) (by rw [eqv_str]; decide +kernel)) (sv_one (s_set 3 (ev_catT (ds := [.int (s / 13 % 10)]) (es := (bytesN s1 60).map D.int) (ev_tup (av_cons (ev_mod (ev_div (ev_name 0) ev_int ⟨by decide, by decide⟩) ev_int (by decide)) av_nil) (small (by simp))) (ev_call (c_bytes h (by decide) (by decide)) (av_cons (EV.to (ev_call (c_seed h) (av_cons (ev_name 0) (av_cons ev_int av_nil))) e1) (av_cons ev_int av_nil))) (small (by simp; omega)))))) (sv_cons (s_ifF (TV.to (tv_eq (ev_name 1) ev_str (shp_str (by decide +kernel)).ok (shp_str (by decide +kernel)).ok) (by rw [eqv_str]; decide +kernel)) sv_nil) (sv_one (s_ret (ev_tup (ds := [.str "carried", .int n, .tup ([.int (s / 13 % 10)] ++ (bytesN s1 60).map D.int)]) (av_cons (ev_name 1) (av_cons (ev_name 2) (av_cons (ev_name 3) av_nil))) (small (by simp)))))))
  · rw [if_neg (by decide +kernel), if_neg (by decide +kernel), if_neg (by decide +kernel)]
    exact sv_cons (s_ifF (TV.to (tv_in (ev_name 1) (ev_tup (ds := [.str "put", .str "part"]) (av_cons ev_str (av_cons ev_str av_nil)) (small (by simp))) .tup rfl rfl) (by decide +kernel)) sv_nil) (sv_cons (s_ifF (TV.to (tv_eq (ev_name 1) ev_str (shp_str (by decide +kernel)).ok (shp_str (by decide +kernel)).ok) (by rw [eqv_str]; decide +kernel)) sv_nil) (sv_cons (s_ifF (TV.to (tv_eq (ev_name 1) ev_str (shp_str (by decide +kernel)).ok (shp_str (by decide +kernel)).ok) (by rw [eqv_str]; decide +kernel)) sv_nil) (sv_one (s_ret (ev_tup (ds := [.str "new", .int n, .tup []]) (av_cons (ev_name 1) (av_cons (ev_name 2) (av_cons (ev_name 3) av_nil))) (small (by simp)))))))
theorem c_row (h : Tx T) {s : Int} : FC T 3 "_law_row" [.int s] L (.rt (rowD (kindN s) (numN s) (bodyN (kindN s) s))) L := row_run h rfl rfl (kind_at s).1 (kind_at s).2
end
end Q
set_option Elab.async false
set_option linter.all false
set_option maxRecDepth 100000
set_option maxHeartbeats 4000000
namespace Q
open PySem PySem.Spec PyProof.Rows L2 G
section
variable {T : Sta} {L : Store}
def codedLoop : List Stmt := match (defBody s__law_coded).getD 2 (.Pass ⟨0, 0, 0, 0⟩) with
  | .For _ _ b _ _ => b
  | _ => []
theorem coded_loop (e0 e1 e2 e3 : Option D) : ∀ (ns : List Int) (i : Nat) (acc : Int) (x y : Option D), (∀ n ∈ ns, 0 ≤ n ∧ n ≤ 255) → ∃ x' y', FV T Γ__law_coded (gTup T.K 2 (gCons (gName 5) (gCons (gName 6) gNil))) codedLoop (fun _ => True) ((List.range' i ns.length).zipWith (fun i d => D.tup [.int (i : Nat), d]) (ns.map D.int))
    [e0, e1, e2, e3, some (.int acc), x, y] L (.nx [e0, e1, e2, e3, some (.int (acc + (wts i ns).sum)), x', y']) L
  | [], i, acc, x, y, _ => ⟨x, y, by
    have : acc + (wts i []).sum = acc := by simp [wts]
    rw [this]
    exact .nil⟩
  | n :: r, i, acc, x, y, hb => by
    obtain ⟨x', y', ih⟩ := coded_loop e0 e1 e2 e3 r (i + 1) (acc + ((i : Int) + 1) * n) (some (.int (i : Nat))) (some (.int n)) fun m hm => hb m (List.mem_cons_of_mem _ hm)
    have hn := hb n List.mem_cons_self
    refine ⟨x', y', ?_⟩
    have e : acc + (wts i (n :: r)).sum = acc + ((i : Int) + 1) * n + (wts (i + 1) r).sum := by
      simp only [wts, List.sum_cons]
      omega
    rw [e, List.length_cons, List.range'_succ, List.map_cons, List.zipWith_cons_cons]
    refine .step (a1 := [e0, e1, e2, e3, some (.int acc), some (.int (i : Nat)), some (.int n)]) (gb_tup (ix := [5, 6]) (gb_cons (ix := [5]) (iy := [6]) gb_name (gb_cons (ix := [6]) (iy := []) gb_name gb_nil))) (sv_one (s_set 4 (ev_add (ev_name 4) (ev_mul (ev_add (ev_name 5) ev_int) (ev_name 6) (.inr (by omega)))))) trivial ih
theorem c_coded (h : Tx T) {c n : Int} {b : List Int} (hc : 0 ≤ c ∧ c ≤ 255) (hn : 0 ≤ n ∧ n ≤ 999999) (hb : ∀ x ∈ b, 0 ≤ x ∧ x ≤ 255) (hl : b.length ≤ 61) : FC T 1 "_law_coded" [.int c, .int n, .tup (b.map D.int)] L (.rt (.tup ((checksN (headN c n b) ++ headN c n b).map D.int))) L := by
  have hs := head_small hc hn hb hl
  have hlen : (headN c n b).length = b.length + 5 := by simp [headN]
  obtain ⟨x', y', lp⟩ := coded_loop (T := T) (L := L) (some (.int c)) (some (.int n)) (some (.tup (b.map D.int))) (some (.tup ((headN c n b).map D.int))) (headN c n b) 0 0 none none hs
  have x4 : SV T Γ__law_coded ((defBody s__law_coded).drop 3) [some (.int c), some (.int n), some (.tup (b.map D.int)), some (.tup ((headN c n b).map D.int)), some (.int (0 + (wts 0 (headN c n b)).sum)), x', y'] L (.rt (.tup ((checksN (headN c n b) ++ headN c n b).map D.int))) L :=
    sv_one (s_ret (EV.to (ev_catT (ds := (checksN (headN c n b)).map D.int) (es := (headN c n b).map D.int) (EV.to (ev_tup (ds := [.int ((headN c n b).sum % 256), .int ((0 + (wts 0 (headN c n b)).sum) % 256)]) (av_cons (ev_mod (ev_sum h.no_sum (ev_name 3) .tup) ev_int (by decide)) (av_cons (ev_mod (ev_name 4) ev_int (by decide)) av_nil)) (small (by simp))) (by rw [Int.zero_add]; rfl)) (ev_name 3) (small (by simp [checksN]; omega))) (by rw [List.map_append])))
  have x3 : SV T Γ__law_coded ((defBody s__law_coded).drop 2) [some (.int c), some (.int n), some (.tup (b.map D.int)), some (.tup ((headN c n b).map D.int)), some (.int 0), none, none] L (.rt (.tup ((checksN (headN c n b) ++ headN c n b).map D.int))) L :=
    sv_cons (s_for (items := enumD ((headN c n b).map D.int)) (iv_enumT (ev_name 3) h.no_enumerate) trivial (tg_tup (n := 2) (tg_cons (tg_name 5) (tg_cons (tg_name 6) tg_nil))) (by
      unfold enumD
      rw [List.length_map, List.range_eq_range']
      exact lp)) x4
  have x2 : SV T Γ__law_coded ((defBody s__law_coded).drop 1) [some (.int c), some (.int n), some (.tup (b.map D.int)), some (.tup ((headN c n b).map D.int)), none, none, none] L (.rt (.tup ((checksN (headN c n b) ++ headN c n b).map D.int))) L := sv_cons (s_set 4 ev_int) x3
  have e5 : n / 65536 % 256 = n / 65536 := by omega
  have x1 : SV T Γ__law_coded (defBody s__law_coded) [some (.int c), some (.int n), some (.tup (b.map D.int)), none, none, none, none] L (.rt (.tup ((checksN (headN c n b) ++ headN c n b).map D.int))) L :=
    sv_cons (s_set 3 (d := .tup ((headN c n b).map D.int)) (EV.to (ev_catT (es := b.map D.int) (ev_tup (ds := [.int c, .int (n / 65536 % 256), .int (n / 256 % 256), .int (n % 256), .int ((b.map D.int).length : Nat)]) (av_cons (ev_name 0) (av_cons (ev_mod (ev_div (ev_name 1) ev_int ⟨by decide, by decide⟩) ev_int (by decide)) (av_cons (ev_mod (ev_div (ev_name 1) ev_int ⟨by decide, by decide⟩) ev_int (by decide)) (av_cons (ev_mod (ev_name 1) ev_int (by decide)) (av_cons (ev_len h.no_len (ev_name 2) .tup) av_nil))))) (small (by simp))) (ev_name 2) (small (by simp; omega))) (by rw [e5, List.length_map]; rfl))) x2
  exact st__law_coded h ⟨_, x1, rfl⟩
theorem c_row_bytes' (h : Tx T) {k : Str} {n : Int} {b : List Int} (g : GoodRow k n b) : FC T 2 "_law_row_bytes" [rowD k n b] L (.rt (.tup ((rowN k n b).map D.int))) (L ++ [.xtup kinds]) := by
  have hf := firstAt_lt g.k'
  have hL : (L ++ [Cell.xtup kinds])[L.length]? = some (.xtup kinds) := by rw [List.getElem?_append_right (Nat.le_refl _), Nat.sub_self]; rfl
  have x2 : SV T Γ__law_row_bytes ((defBody s__law_row_bytes).drop 1) [some (rowD k n b), some (.ref L.length)] (L ++ [.xtup kinds]) (.rt (.tup ((rowN k n b).map D.int))) (L ++ [.xtup kinds]) :=
    sv_one (s_ret (ev_call (c_coded h (c := (firstAt kinds k : Nat) + 1) (n := n) (b := b) (by omega) g.n' g.b' g.l') (av_cons (EV.to (ev_add ev_int (ev_xidx (ev_name 1) (ev_ix (ev_name 0) ev_int .tup rfl) hL hL g.k')) (by rw [Int.add_comm])) (av_cons (ev_ix (ev_name 0) ev_int .tup rfl) (av_cons (ev_ix (ev_name 0) ev_int .tup rfl) av_nil)))))
  have x1 : SV T Γ__law_row_bytes (defBody s__law_row_bytes) [some (rowD k n b), none] L (.rt (.tup ((rowN k n b).map D.int))) (L ++ [.xtup kinds]) :=
    sv_cons (s_set 1 (en_xtup (ss := kinds) (av_cons ev_str (av_cons ev_str (av_cons ev_str (av_cons ev_str (av_cons ev_str (av_cons ev_str (av_cons ev_str (av_cons ev_str av_nil)))))))) (small (by simp [kinds])))) x2
  exact st__law_row_bytes h ⟨_, x1, rfl⟩
end
end Q
set_option Elab.async false
set_option linter.all false
set_option maxRecDepth 100000
set_option maxHeartbeats 4000000
namespace Q
open PySem PySem.Spec PyProof.Rows L2 G
section
variable {T : Sta} {L : Store}
def bads1 : List D := [.tup [.str "put", .int (-1), .tup []], .tup [.str "put", .int 1000000, .tup []], .tup [.str "put", .bl true, .tup []], .tup [.str "put", .int 0, .lst []], .tup [.str "put", .int 0, .tup [.int 256]]]
def bads2 : List D := [.tup [.str "put", .int 0, .tup (List.replicate 61 [.int 0]).flatten], .tup [.str "out", .int 0, .tup [.int 1]], .tup [.str "done", .int 0, .non], .tup [.str "from", .str "0", .tup []], .tup [.str "new", .int 0, .tup [.int 0]]]
def bads3 : List D := [.tup [.str "deal", .int 0, .tup []], .tup [.str "deal", .int 0, .tup [.int 0]], .tup [.str "deal", .int 0, .tup [.int 10]], .tup [.str "deal", .int 0, .tup [.int 1, .int 1]], .tup [.str "carried", .int 0, .tup []]]
def bads4 : List D := [.tup [.str "carried", .int 0, .tup [.int 10]], .tup [.str "carried", .int 0, .tup (List.replicate 62 [.int 1]).flatten], .tup [.str "go", .int 0, .tup []], .tup [.str "put", .int 0], .lst [.str "put", .int 0, .tup []], .non]
def bads : List D := bads1 ++ bads2 ++ bads3 ++ bads4
theorem bads_ok : (bads.all fun d => D.ok2 d && !isRow d) = true := by decide +kernel
theorem bad_at (i : Int) (h0 : 0 ≤ i) (h1 : i < 21) : ∃ d, atI bads i = some d ∧ D.ok2 d = true ∧ isRow d = false := by
  have hl : bads.length = 21 := by decide +kernel
  have hi : i.toNat < bads.length := by omega
  have q := List.all_eq_true.mp bads_ok _ (List.getElem_mem hi)
  rw [Bool.and_eq_true] at q
  refine ⟨bads[i.toNat], ?_, q.1, by simpa using q.2⟩
  have := atI_at (ds := bads) (k := i.toNat) (List.getElem?_eq_getElem hi)
  rwa [Int.toNat_of_nonneg h0] at this
theorem law_sv (h : Tx T) {ns : List Int} : SV T Γ_law (defBody s_law) [some (.scr ns), none, none, none, none] L (.rt (.bl true)) (L ++ [.xtup kinds]) := by
  obtain ⟨d, hd, ho, hx⟩ := bad_at (cellN ns 1 % 21) (by omega) (by omega)
  have g := goodN (seedN (cellN ns 0) 0)
  have gr := isRowN (seedN (cellN ns 0) 0)
  have rw_ := c_row h (L := L) (s := seedN (cellN ns 0) 0)
  generalize kindN (seedN (cellN ns 0) 0) = k at g gr rw_
  generalize numN (seedN (cellN ns 0) 0) = n at g gr rw_
  generalize bodyN k (seedN (cellN ns 0) 0) = b at g gr rw_
  have x9 : SV T Γ_law ((defBody s_law).drop 9) [some (.scr ns), some (rowD k n b), some (.tup ((rowN k n b).map D.int)), some (.lst bads), some (.bl true)] (L ++ [Cell.xtup kinds]) (.rt (.bl true)) (L ++ [Cell.xtup kinds]) := sv_one (s_ret (ev_name 4))
  have x8 : SV T Γ_law ((defBody s_law).drop 8) [some (.scr ns), some (rowD k n b), some (.tup ((rowN k n b).map D.int)), some (.lst bads), some (.bl false)] (L ++ [Cell.xtup kinds]) (.rt (.bl true)) (L ++ [Cell.xtup kinds]) :=
    sv_cons (s_tryX (sv_one (s_exprX (ex_call (c_row_bytesX h ho hx) (av_cons (ev_ix (ev_name 3) (ev_mod (EV.to (ev_call (c_cell h (k := 1)) (av_cons (ev_name 0) (av_cons ev_int av_nil))) rfl) ev_int (by decide)) .lst hd) av_nil)))) (.cons h.x_BadRow rfl (by decide) .nil) (.hit h.m_BadRow_BadRow (sv_one (s_set 4 ev_bl)) (fun _ _ e => nomatch e))) x9
  have x7 : SV T Γ_law ((defBody s_law).drop 7) [some (.scr ns), some (rowD k n b), some (.tup ((rowN k n b).map D.int)), some (.lst bads), none] (L ++ [Cell.xtup kinds]) (.rt (.bl true)) (L ++ [Cell.xtup kinds]) := sv_cons (s_set 4 ev_bl) x8
  have x6 : SV T Γ_law ((defBody s_law).drop 6) [some (.scr ns), some (rowD k n b), some (.tup ((rowN k n b).map D.int)), some (.lst (bads1 ++ bads2 ++ bads3)), none] (L ++ [Cell.xtup kinds]) (.rt (.bl true)) (L ++ [Cell.xtup kinds]) := sv_cons (s_set 3 (ev_catL (ev_name 3) (ev_lst (ds := bads4) (av_cons (ev_tup (ds := [.str "carried", .int 0, .tup [.int 10]]) (av_cons ev_str (av_cons ev_int (av_cons (ev_tup (ds := [.int 10]) (av_cons ev_int av_nil) (small (by simp))) av_nil))) (small (by simp))) (av_cons (ev_tup (ds := [.str "carried", .int 0, .tup (List.replicate 62 [.int 1]).flatten]) (av_cons ev_str (av_cons ev_int (av_cons (ev_rep (ds := [.int 1]) (k := 62) (ev_tup (ds := [.int 1]) (av_cons ev_int av_nil) (small (by simp))) ev_int (by simp) (by decide)) av_nil))) (small (by simp))) (av_cons (ev_tup (ds := [.str "go", .int 0, .tup []]) (av_cons ev_str (av_cons ev_int (av_cons (ev_tup (ds := []) av_nil (small (by simp))) av_nil))) (small (by simp))) (av_cons (ev_tup (ds := [.str "put", .int 0]) (av_cons ev_str (av_cons ev_int av_nil)) (small (by simp))) (av_cons (ev_lst (ds := [.str "put", .int 0, .tup []]) (av_cons ev_str (av_cons ev_int (av_cons (ev_tup (ds := []) av_nil (small (by simp))) av_nil))) (small (by simp))) (av_cons ev_non av_nil)))))) (small (by decide))) (.inl rfl) (.inl rfl) (small (by decide)))) x7
  have x5 : SV T Γ_law ((defBody s_law).drop 5) [some (.scr ns), some (rowD k n b), some (.tup ((rowN k n b).map D.int)), some (.lst (bads1 ++ bads2)), none] (L ++ [Cell.xtup kinds]) (.rt (.bl true)) (L ++ [Cell.xtup kinds]) := sv_cons (s_set 3 (ev_catL (ev_name 3) (ev_lst (ds := bads3) (av_cons (ev_tup (ds := [.str "deal", .int 0, .tup []]) (av_cons ev_str (av_cons ev_int (av_cons (ev_tup (ds := []) av_nil (small (by simp))) av_nil))) (small (by simp))) (av_cons (ev_tup (ds := [.str "deal", .int 0, .tup [.int 0]]) (av_cons ev_str (av_cons ev_int (av_cons (ev_tup (ds := [.int 0]) (av_cons ev_int av_nil) (small (by simp))) av_nil))) (small (by simp))) (av_cons (ev_tup (ds := [.str "deal", .int 0, .tup [.int 10]]) (av_cons ev_str (av_cons ev_int (av_cons (ev_tup (ds := [.int 10]) (av_cons ev_int av_nil) (small (by simp))) av_nil))) (small (by simp))) (av_cons (ev_tup (ds := [.str "deal", .int 0, .tup [.int 1, .int 1]]) (av_cons ev_str (av_cons ev_int (av_cons (ev_tup (ds := [.int 1, .int 1]) (av_cons ev_int (av_cons ev_int av_nil)) (small (by simp))) av_nil))) (small (by simp))) (av_cons (ev_tup (ds := [.str "carried", .int 0, .tup []]) (av_cons ev_str (av_cons ev_int (av_cons (ev_tup (ds := []) av_nil (small (by simp))) av_nil))) (small (by simp))) av_nil))))) (small (by decide))) (.inl rfl) (.inl rfl) (small (by decide)))) x6
  have x4' : SV T Γ_law ((defBody s_law).drop 4) [some (.scr ns), some (rowD k n b), some (.tup ((rowN k n b).map D.int)), some (.lst bads1), none] (L ++ [Cell.xtup kinds]) (.rt (.bl true)) (L ++ [Cell.xtup kinds]) := sv_cons (s_set 3 (ev_catL (ev_name 3) (ev_lst (ds := bads2) (av_cons (ev_tup (ds := [.str "put", .int 0, .tup (List.replicate 61 [.int 0]).flatten]) (av_cons ev_str (av_cons ev_int (av_cons (ev_rep (ds := [.int 0]) (k := 61) (ev_tup (ds := [.int 0]) (av_cons ev_int av_nil) (small (by simp))) ev_int (by simp) (by decide)) av_nil))) (small (by simp))) (av_cons (ev_tup (ds := [.str "out", .int 0, .tup [.int 1]]) (av_cons ev_str (av_cons ev_int (av_cons (ev_tup (ds := [.int 1]) (av_cons ev_int av_nil) (small (by simp))) av_nil))) (small (by simp))) (av_cons (ev_tup (ds := [.str "done", .int 0, .non]) (av_cons ev_str (av_cons ev_int (av_cons ev_non av_nil))) (small (by simp))) (av_cons (ev_tup (ds := [.str "from", .str "0", .tup []]) (av_cons ev_str (av_cons ev_str (av_cons (ev_tup (ds := []) av_nil (small (by simp))) av_nil))) (small (by simp))) (av_cons (ev_tup (ds := [.str "new", .int 0, .tup [.int 0]]) (av_cons ev_str (av_cons ev_int (av_cons (ev_tup (ds := [.int 0]) (av_cons ev_int av_nil) (small (by simp))) av_nil))) (small (by simp))) av_nil))))) (small (by decide))) (.inl rfl) (.inl rfl) (small (by decide)))) x5
  have x4 : SV T Γ_law ((defBody s_law).drop 3) [some (.scr ns), some (rowD k n b), some (.tup ((rowN k n b).map D.int)), none, none] (L ++ [Cell.xtup kinds]) (.rt (.bl true)) (L ++ [Cell.xtup kinds]) := sv_cons (s_set 3 (ev_lst (ds := bads1) (av_cons (ev_tup (ds := [.str "put", .int (-1), .tup []]) (av_cons ev_str (av_cons (ev_neg ev_int) (av_cons (ev_tup (ds := []) av_nil (small (by simp))) av_nil))) (small (by simp))) (av_cons (ev_tup (ds := [.str "put", .int 1000000, .tup []]) (av_cons ev_str (av_cons ev_int (av_cons (ev_tup (ds := []) av_nil (small (by simp))) av_nil))) (small (by simp))) (av_cons (ev_tup (ds := [.str "put", .bl true, .tup []]) (av_cons ev_str (av_cons ev_bl (av_cons (ev_tup (ds := []) av_nil (small (by simp))) av_nil))) (small (by simp))) (av_cons (ev_tup (ds := [.str "put", .int 0, .lst []]) (av_cons ev_str (av_cons ev_int (av_cons (ev_lst (ds := []) av_nil (small (by simp))) av_nil))) (small (by simp))) (av_cons (ev_tup (ds := [.str "put", .int 0, .tup [.int 256]]) (av_cons ev_str (av_cons ev_int (av_cons (ev_tup (ds := [.int 256]) (av_cons ev_int av_nil) (small (by simp))) av_nil))) (small (by simp))) av_nil))))) (small (by decide)))) x4'
  have x3 : SV T Γ_law ((defBody s_law).drop 2) [some (.scr ns), some (rowD k n b), some (.tup ((rowN k n b).map D.int)), none, none] L (.rt (.bl true)) (L ++ [Cell.xtup kinds]) :=
    sv_cons (s_ifF (tv_w (tv_orF (TV.to (tv_ne (ev_name 2) (ev_call (c_row_bytes' h g) (av_cons (ev_name 1) av_nil)) (shp_ints _).ok (shp_ints _).ok) (by rw [eqv_ints, decide_eq_true rfl]; rfl)) (wv_or1 (tv_notF (tv_val (ev_is_tuple h.no_isinstance h.no_tuple (ev_name 2) rfl)))))) sv_nil) x4
  have x2 : SV T Γ_law ((defBody s_law).drop 1) [some (.scr ns), some (rowD k n b), none, none, none] L (.rt (.bl true)) (L ++ [Cell.xtup kinds]) := sv_cons (s_set 2 (ev_call (c_row_bytes h g gr) (av_cons (ev_name 1) av_nil))) x3
  have x1 : SV T Γ_law (defBody s_law) [some (.scr ns), none, none, none, none] L (.rt (.bl true)) (L ++ [Cell.xtup kinds]) :=
    sv_cons (s_set 1 (d := rowD k n b) (ev_call rw_ (av_cons (ev_call (c_seed h) (av_cons (EV.to (ev_call (c_cell h (k := 0)) (av_cons (ev_name 0) (av_cons ev_int av_nil))) rfl) (av_cons ev_int av_nil))) av_nil))) x2
  exact x1
end
end Q
set_option Elab.async false
set_option linter.all false
set_option maxRecDepth 100000
set_option maxHeartbeats 0
namespace Q
open PySem PySem.Spec PyProof.Rows L2 G
/-! ### the hook: the objects that the module's names reach, by a short way -/
def valRefs (es : Array DictEntry) : List Addr := es.toList.flatMap fun e => He.refV e.val
def subsM (g : Addr → Option Obj) (a : Addr) : List Addr := match g a with
  | some ⟨_, _, .func fd, _⟩ => He.refV fd.code
  | some ⟨_, _, .cls cd, _⟩ => cd.ns :: (match g cd.ns with
    | some ⟨_, _, .dict es _, _⟩ => (valRefs es).flatMap fun f => f :: (match g f with
      | some ⟨_, _, .func fd, _⟩ => He.refV fd.code
      | _ => [])
    | _ => [])
  | _ => []
def asM (g : Addr → Option Obj) : List Addr := match g mainGlobals with
  | some ⟨_, _, .dict es _, _⟩ => mainGlobals :: (valRefs es ++ (valRefs es).flatMap (subsM g))
  | _ => []
abbrev AlM : Type := He.AlT × Bool
def obsM (fa : List He.Fa) (fn : List He.DefD) (ts : List He.Tab) (ex : PySem.W.Frag → Bool) (g : Addr → Option Obj) : AlM := (He.obsT fa fn ts (He.frG g (asM g)), ex (He.frG g (asM g)))
def hookM (fa : List He.Fa) (fn : List He.DefD) (ts : List He.Tab) (ex : PySem.W.Frag → Bool) : PySem.W.Hook where
  α := AlM
  obs := fun s => obsM fa fn ts ex s.heap.get?
  val := fun w => (He.valT fn ts w, true)
  says := fun w h => ∃ K : PySem.W.Frag, K.In h ∧ He.SaysT fa fn ts w K ∧ ex K = true
  of := fun _ _ e => ⟨_, He.frG_in, congrArg (fun z : AlM => z.1) e, congrArg (fun z : AlM => z.2) e⟩
  keeps := fun _ _ _ ⟨K, hK, c⟩ k => ⟨K, PySem.W.Frag.In.keeps hK k, c⟩
abbrev hk : PySem.W.Hook := hookM fa fn ts ex
def ob (s : PySem.W.SharedT) : AlM := obsM fa fn ts ex (HandSHeadRun.getT s)
theorem ob_eq (s : PySem.W.SharedT) : ob s = hk.obs s.abs := by
  have e : HandSHeadRun.getT s = s.abs.heap.get? := funext (HandSHeadRun.getT_eq s)
  show obsM fa fn ts ex (HandSHeadRun.getT s) = obsM fa fn ts ex s.abs.heap.get?
  rw [e]

theorem run0 (w : World) (os : OsState) : (HandSHeadRun.endF (HandSHeadRun.stepQ (HandSHeadRun.denQ HandSHeadRun.tabQ) R.prog w) 8000 R.prog w os).map (fun s => (HandSHeadRun.looksF R.prog (PySem.W.boot_heap (World.params w)) s.abs, HandSHeadRun.seenQ (PySem.W.view R.prog [25]) loose (importedModules R.prog.main.body) (fun s => PySem.W.xlAt (PySem.W.view R.prog [25]) [] s && PySem.W.recOk R.toRowW.records s) s.abs, ob s)) = some (true, PySem.W.openGood (PySem.W.view R.prog [25]) loose, (((true, fn.map He.DefD.val), ts.map fun t => some (He.keysIn (World.params w) t.2)), true)) := by
  kernel_rfl
theorem run (w : World) : HandSHeadRun.RunEq R (PySem.W.view R.prog [25]) hk ob 8000 loose w := fun os => run0 w os
end Q
set_option Elab.async false
set_option linter.all false
set_option maxRecDepth 100000
set_option maxHeartbeats 4000000
namespace G
open PySem PySem.Spec PyProof.Rows L2
/-- the first world: the script alone -/
def g0 (H : Hp) : Gw := ⟨0, fun _ => 0, fun _ => .data, H⟩
theorem g0_wo {K : PySem.W.Frag} {H : Hp} : Wo K (g0 H) [] := ⟨rfl, fun k c e => by simp at e⟩
theorem g0_scr {K : PySem.W.Frag} {H : Hp} {a : Addr} {ns : List Int} (h : SqL K H a (ns.map V.int)) : Dt K (g0 H) (.ref a) (.scr ns) := .scr (h.elim (fun z => .inl ⟨z, rfl⟩) .inr)
theorem sp0 {K : PySem.W.Frag} {H : Hp} {a : Addr} {ns : List Int} {L' : Store} (h : SqL K H a (ns.map V.int)) : spG K [.scr ns] [] (.rt (.bl true)) L' [.ref a] H (fun v _ => v = .bl true) fun _ _ _ => False :=
  ⟨g0 H, rfl, g0_wo, .cons (g0_scr h) .nil, fun v g' _ _ d => by cases d; rfl⟩
theorem cx0 {P : Program} {w : World} {H : Hp} {s : Shared} {e : Value} {s' : Shared} (c : L2.CX P w [] H s (fun _ _ _ => False) e s') : False := by
  obtain ⟨_, _, _, _, _, _, _, _, _, _, _, _, z⟩ := c
  exact z
/-- a law's end: F, the code of the law for each script -/
theorem ends_ {l : PySem.W.OpenLaw} {n k : Nat} {q : Program} {loose : List Str} {XP : (Str → Option Value) → Heap → Prop} {YP : World → Heap → Prop} {d : DefRec} {x : Str} (hn : l.most = some n) (hn2 : n ≤ sizeLine) (hdf : d.params.defaults = []) (hr : Room k callerA)
    (F : ∀ (w : World) (mg : Str → Option Value) (fa : Addr) (h : Heap), YP w h → h.Ns mainGlobals mg → mg d.name = some (.ref fa) → ∃ (K : PySem.W.Frag) (fd : FuncData), K.In h ∧ (∀ (s : Shared) (u : Value), BindsTo s fd ⟨[u], []⟩ [(x, u)]) ∧
      ∀ (ns : List Int), ∃ L' : Store, ∀ base : Heap, K.In base → base.Ns mainGlobals mg → FnOk l.prog w K mg base (L2.CX l.prog w) k fa fd [x] (spG K [.scr ns] [] (.rt (.bl true)) L')) :
    PySem.W.WalkO q loose XP YP l.row.toRowW d [] (fun f vs => PySem.call f vs) := by
  refine Att.attach_call hn hdf fun w s0 s1 mg mb fa o pm cd doc a vs ns G' Y' ho hd hcd hmg hobj hints hlen hg => ?_
  obtain ⟨K, fd, KX, hb, hF⟩ := F w mg fa _ Y' G'.T.g hmg
  obtain ⟨L', hF⟩ := hF ns
  exact law_call KX G'.T.g G'.T.b G'.T.builtins G'.T.nolimit hg hobj hints (Nat.le_trans hlen hn2) hr hF hb (fun H _ hS => sp0 hS) fun H e s' => cx0
end G
open PySem PySem.W PySem.Calls PyProof.Rows
theorem PySem.Challenge.cw_queuehold_k04_rows_holds : PySem.Challenge.rw_queuehold_k04_rows.Holds := by
  w_on; o_law
  refine HandSHeadRun.head_any (r := OpenLaw.row PySem.Challenge.rw_queuehold_k04_rows) (q := view (OpenLaw.row PySem.Challenge.rw_queuehold_k04_rows).prog [25]) (H := Q.hk) (ob := Q.ob) (M := 8000) (loose := Q.loose) (d := HandSHeadRun.topDef (OpenLaw.row PySem.Challenge.rw_queuehold_k04_rows).prog 25) (kwd := []) Q.ob_eq
    (by kernel_rfl) (fun s => by kernel_rfl) Q.run (by kernel_rfl) (by kernel_rfl) (by kernel_rfl) (by rfl) (by first | assumption | decide +kernel) (by decide +kernel) ⟨rfl, rfl, rfl, rfl, rfl, by decide +kernel⟩ ?hw ?hc
  case hw => w_witness2
  case hc =>
    refine G.ends_ (l := PySem.Challenge.rw_queuehold_k04_rows) (n := 63) (k := 6) (x := "_law_script") rfl (by decide) (by kernel_rfl) ⟨rfl, by decide, by decide⟩ ?_
    intro w mg fa h Y G hmg0
    obtain ⟨K, KX, c, ce⟩ := Y
    have hmg : mg ("law" : PySem.Str) = some (.ref fa) := by
      have e : (HandSHeadRun.topDef (OpenLaw.row PySem.Challenge.rw_queuehold_k04_rows).prog 25).name = ("law" : PySem.Str) := by kernel_rfl
      rw [← e]
      exact hmg0
    have t0 : Q.Tx ⟨PySem.Challenge.rw_queuehold_k04_rows.prog, w, K, mg, h⟩ := ⟨c, ce, KX, G⟩
    obtain ⟨fd, F⟩ := (Q.df_law t0).ex
    have hfa : mg ("law" : PySem.Str) = some (.ref (He.ga K "law")) := by
      have z := (Q.st_law t0 ⟨_, Q.law_sv (L := []) (ns := []) t0, rfl⟩).mg
      exact z
    rw [hmg] at hfa
    cases hfa
    refine ⟨K, fd, KX, fun s u => ?_, fun ns => ⟨([] : _root_.G.Store) ++ [.xtup Q.kinds], fun base hK hns => ?_⟩⟩
    · exact L2.FunD.bindsA (ps := ["_law_script"]) F (fun _ _ _ _ _ _ us hl => match us, hl with | [_], _ => rfl) s [u] rfl
    · have t : Q.Tx ⟨PySem.Challenge.rw_queuehold_k04_rows.prog, w, K, mg, base⟩ := ⟨c, ce, hK, hns⟩
      exact _root_.G.fn_ok (T := ⟨PySem.Challenge.rw_queuehold_k04_rows.prog, w, K, mg, base⟩) (ds := [.scr ns]) Q.sc_law rfl rfl ⟨_, Q.law_sv t, rfl⟩ F
