import PyProof.Rows.All
import Wide.All
import OpenK.AllK
import Wide.FinOn
import HandS.ForMost
import HandS.ForExc
import HandS.Defaults
import HandS.Conv
import HandS.Flow
import HandS.Style
import HandS.TupAny
import HandS.TupMul
import HandS.TryMany
import HandS.IsInst
import HandS.Wide
import HandS.SortInts
import HandS.HeadHook3
import HandS.Strs
import HandS.Iter
import KE.GoesEnum
import KE.KTupSum
import HandS.Deep
import HandS.More
import HandS.WordsDict
import PyProof.Rows.SortShellAny
import HandS.DictComp
import HandS.Head0
import HandS.Head1
import HandS.Head2
import HandS.HeadEnd
import HandS.HeadHook1
import HandS.HeadHook2
import PySem.Challenge.RW_queuehold_k08_made
set_option Elab.async false
set_option linter.all false
set_option maxRecDepth 100000
set_option maxHeartbeats 4000000
/-! G1: the ghost store: data, cells, worlds; what a value denotes. -/
namespace G
open PySem PySem.Spec PyProof.Rows L2

/-- data; ref k: the mutable object number k -/
inductive D where
  | non | bl (b : Bool) | int (i : Int) | str (x : Str) | ref (k : Nat) | tup (ds : List D) | lst (ds : List D) | scr (ns : List Int)
/-- what a mutable object holds; lock: a dict while it is walked -/
inductive Cell where
  | ins (C : Str) (fs : List (Str × D)) | dict (kvs : List (Key × D)) | lock (kvs : List (Key × D)) | list (ds : List D) | xtup (ss : List Str) | dead
abbrev Store := List Cell
abbrev Env' := List (Option D)
/-- whose an object is -/
inductive Col where
  | data | tmp | cell (k : Nat)
  deriving DecidableEq
structure Gw where
  n : Nat
  ι : Nat → Addr
  own : Addr → Col
  H : Hp

/-- a tuple of texts, just as it was laid -/
def XTo (h : Heap) (a : Addr) (ss : List Str) : Prop := ∃ (its : List Value) (n : Nat) (sl : Array (Option Value)), h.get? a = some ⟨.type "tuple", none, .seq its.toArray n, sl⟩ ∧ Vals (ss.map V.str) its
/-- a list, a tuple of the written part -/
def KL (K : PySem.W.Frag) (a : Addr) (xs : List V) : Prop := ∃ (o : Obj) (its : Array Value) (n : Nat), K.lookup a = some o ∧ o.cls = .type "list" ∧ o.dict = none ∧ o.data = .seq its n ∧ its.size ≤ sizeLine ∧ Vals xs its.toList
def KT (K : PySem.W.Frag) (a : Addr) (xs : List V) : Prop := ∃ (o : Obj) (its : Array Value) (n : Nat), K.lookup a = some o ∧ o.cls = .type "tuple" ∧ o.data = .seq its n ∧ its.size ≤ sizeLine ∧ Vals xs its.toList
def DLst (K : PySem.W.Frag) (g : Gw) (a : Addr) (xs : List V) : Prop := g.H a = some (.lst xs) ∧ g.own a = .data
def DScr (K : PySem.W.Frag) (g : Gw) (a : Addr) (xs : List V) : Prop := (Rd g.H a (.lst xs) ∧ g.own a = .data) ∨ KL K a xs
theorem DScr.sq {K : PySem.W.Frag} {g : Gw} {a : Addr} {xs : List V} (h : DScr K g a xs) : SqL K g.H a xs := h.elim (fun z => .inl z.1) .inr
def DTup (K : PySem.W.Frag) (g : Gw) (a : Addr) (xs : List V) : Prop := (Rd g.H a (.tup xs) ∧ g.own a = .data) ∨ KT K a xs
theorem DLst.sq {K : PySem.W.Frag} {g : Gw} {a : Addr} {xs : List V} (h : DLst K g a xs) : SqL K g.H a xs := .inl (.inl h.1)
theorem DTup.sq {K : PySem.W.Frag} {g : Gw} {a : Addr} {xs : List V} (h : DTup K g a xs) : SqT K g.H a xs := h.elim (fun z => .inl z.1) .inr

mutual
/-- v denotes d -/
inductive Dt (K : PySem.W.Frag) (g : Gw) : V → D → Prop
  | non : Dt K g .non .non
  | bl (b : Bool) : Dt K g (.bl b) (.bl b)
  | int (i : Int) : Dt K g (.int i) (.int i)
  | str (x : Str) : Dt K g (.str x) (.str x)
  | ref {k : Nat} (h : k < g.n) : Dt K g (.ref (g.ι k)) (.ref k)
  | tup {a : Addr} {xs : List V} {ds : List D} (h : DTup K g a xs) (l : DtL K g xs ds) : Dt K g (.ref a) (.tup ds)
  | lst {a : Addr} {xs : List V} {ds : List D} (h : DLst K g a xs) (l : DtL K g xs ds) : Dt K g (.ref a) (.lst ds)
  | scr {a : Addr} {ns : List Int} (h : DScr K g a (ns.map V.int)) : Dt K g (.ref a) (.scr ns)
inductive DtL (K : PySem.W.Frag) (g : Gw) : List V → List D → Prop
  | nil : DtL K g [] []
  | cons {v : V} {vs : List V} {d : D} {ds : List D} (h : Dt K g v d) (r : DtL K g vs ds) : DtL K g (v :: vs) (d :: ds)
end

/-- from world to world: data and temporaries stay, ids stay -/
structure Ext (g g' : Gw) : Prop where
  n : g.n ≤ g'.n
  ι : ∀ k, k < g.n → g'.ι k = g.ι k
  keep : ∀ a o, g.H a = some o → (g.own a = .data ∨ g.own a = .tmp) → g'.H a = some o ∧ g'.own a = g.own a
theorem Ext.refl (g : Gw) : Ext g g := ⟨Nat.le_refl _, fun _ _ => rfl, fun _ _ h _ => ⟨h, rfl⟩⟩
theorem Ext.trans {a b c : Gw} (x : Ext a b) (y : Ext b c) : Ext a c :=
  ⟨Nat.le_trans x.n y.n, fun k hk => (y.ι k (Nat.lt_of_lt_of_le hk x.n)).trans (x.ι k hk), fun p o h w => by
    obtain ⟨h1, w1⟩ := x.keep p o h w
    obtain ⟨h2, w2⟩ := y.keep p o h1 (by rw [w1]; exact w)
    exact ⟨h2, w2.trans w1⟩⟩
/-- the same of data alone -/
structure ExtD (g g' : Gw) : Prop where
  n : g.n ≤ g'.n
  ι : ∀ k, k < g.n → g'.ι k = g.ι k
  keep : ∀ a o, g.H a = some o → g.own a = .data → g'.H a = some o ∧ g'.own a = .data
theorem Ext.d {g g' : Gw} (e : Ext g g') : ExtD g g' := ⟨e.n, e.ι, fun a o h w => let ⟨h1, w1⟩ := e.keep a o h (.inl w); ⟨h1, w1.trans w⟩⟩
section
variable {K : PySem.W.Frag} {g g' : Gw}
theorem Rd.extD {a : Addr} {u : HO} (e : ExtD g g') (h : Rd g.H a u) (w : g.own a = .data) : Rd g'.H a u ∧ g'.own a = .data := by
  rcases h with h | ⟨o, h⟩
  · obtain ⟨h1, w1⟩ := e.keep a _ h w
    exact ⟨.inl h1, w1⟩
  · obtain ⟨h1, w1⟩ := e.keep a _ h w
    exact ⟨.inr ⟨o, h1⟩, w1⟩
theorem DLst.extD {a : Addr} {xs : List V} (e : ExtD g g') (h : DLst K g a xs) : DLst K g' a xs := e.keep a _ h.1 h.2
theorem DScr.extD {a : Addr} {xs : List V} (e : ExtD g g') (h : DScr K g a xs) : DScr K g' a xs := h.elim (fun z => .inl (Rd.extD e z.1 z.2)) .inr
theorem DTup.extD {a : Addr} {xs : List V} (e : ExtD g g') (h : DTup K g a xs) : DTup K g' a xs := h.elim (fun z => .inl (Rd.extD e z.1 z.2)) .inr
theorem DLst.ext {a : Addr} {xs : List V} (e : Ext g g') (h : DLst K g a xs) : DLst K g' a xs := h.extD e.d
theorem DScr.ext {a : Addr} {xs : List V} (e : Ext g g') (h : DScr K g a xs) : DScr K g' a xs := h.extD e.d
theorem DTup.ext {a : Addr} {xs : List V} (e : Ext g g') (h : DTup K g a xs) : DTup K g' a xs := h.extD e.d
mutual
theorem Dt.extD (e : ExtD g g') : ∀ {v : V} {d : D}, Dt K g v d → Dt K g' v d
  | _, _, .non => .non
  | _, _, .bl b => .bl b
  | _, _, .int i => .int i
  | _, _, .str x => .str x
  | _, _, .ref (k := k) h => by
    have q := e.ι k h
    rw [← q]
    exact .ref (Nat.lt_of_lt_of_le h e.n)
  | _, _, .tup h l => .tup (h.extD e) (DtL.extD e l)
  | _, _, .lst h l => .lst (h.extD e) (DtL.extD e l)
  | _, _, .scr h => .scr (h.extD e)
theorem DtL.extD (e : ExtD g g') : ∀ {vs : List V} {ds : List D}, DtL K g vs ds → DtL K g' vs ds
  | _, _, .nil => .nil
  | _, _, .cons h r => .cons (Dt.extD e h) (DtL.extD e r)
end
theorem Dt.ext (e : Ext g g') {v : V} {d : D} (h : Dt K g v d) : Dt K g' v d := h.extD e.d
theorem DtL.ext (e : Ext g g') {vs : List V} {ds : List D} (h : DtL K g vs ds) : DtL K g' vs ds := h.extD e.d
theorem DtL.len : ∀ {vs : List V} {ds : List D}, DtL K g vs ds → vs.length = ds.length
  | _, _, .nil => rfl
  | _, _, .cons _ r => congrArg Nat.succ (DtL.len r)
theorem DtL.get : ∀ {vs : List V} {ds : List D} {i : Nat} {d : D}, DtL K g vs ds → ds[i]? = some d → ∃ v, vs[i]? = some v ∧ Dt K g v d
  | _, _, _, _, .nil, e => by simp at e
  | _, _, 0, _, .cons h _, e => by simp at e; subst e; exact ⟨_, rfl, h⟩
  | _, _, i + 1, d, .cons _ r, e => by
    obtain ⟨v, h1, h2⟩ := DtL.get (i := i) (d := d) r (by simpa using e)
    exact ⟨v, by simpa using h1, h2⟩
theorem DtL.getV : ∀ {vs : List V} {ds : List D} {i : Nat} {v : V}, DtL K g vs ds → vs[i]? = some v → ∃ d, ds[i]? = some d ∧ Dt K g v d
  | _, _, _, _, .nil, e => by simp at e
  | _, _, 0, _, .cons h _, e => by simp at e; subst e; exact ⟨_, rfl, h⟩
  | _, _, i + 1, d, .cons _ r, e => by
    obtain ⟨v, h1, h2⟩ := DtL.getV (i := i) (v := d) r (by simpa using e)
    exact ⟨v, by simpa using h1, h2⟩
theorem DtL.append : ∀ {vs ws : List V} {ds es : List D}, DtL K g vs ds → DtL K g ws es → DtL K g (vs ++ ws) (ds ++ es)
  | _, _, _, _, .nil, s => s
  | _, _, _, _, .cons h r, s => .cons h (DtL.append r s)
theorem DtL.take : ∀ {vs : List V} {ds : List D} (n : Nat), DtL K g vs ds → DtL K g (vs.take n) (ds.take n)
  | _, _, 0, _ => .nil
  | _, _, _ + 1, .nil => .nil
  | _, _, n + 1, .cons h r => .cons h (DtL.take n r)
theorem DtL.drop : ∀ {vs : List V} {ds : List D} (n : Nat), DtL K g vs ds → DtL K g (vs.drop n) (ds.drop n)
  | _, _, 0, r => r
  | _, _, _ + 1, .nil => .nil
  | _, _, n + 1, .cons _ r => DtL.drop n r
theorem DtL.reverse : ∀ {vs : List V} {ds : List D}, DtL K g vs ds → DtL K g vs.reverse ds.reverse
  | _, _, .nil => .nil
  | _, _, .cons h r => by
    rw [List.reverse_cons, List.reverse_cons]
    exact DtL.append (DtL.reverse r) (.cons h .nil)
theorem DtL.snoc {vs : List V} {ds : List D} {v : V} {d : D} (h : DtL K g vs ds) (x : Dt K g v d) : DtL K g (vs ++ [v]) (ds ++ [d]) := h.append (.cons x .nil)
theorem DtL.ints : ∀ (ns : List Int), DtL K g (ns.map V.int) (ns.map D.int)
  | [] => .nil
  | n :: r => .cons (.int n) (DtL.ints r)
theorem DtL.ints_eq : ∀ {ns : List Int} {xs : List V}, DtL K g xs (ns.map D.int) → xs = ns.map V.int
  | [], _, h => by cases h; rfl
  | n :: r, _, h => by
    cases h with
    | cons h1 h2 =>
      cases h1
      rw [DtL.ints_eq h2]
      rfl
end

/-! ### cells -/
section
variable (K : PySem.W.Frag) (g : Gw)
def FldR : List (Str × V) → List (Str × D) → Prop := Paired fun p q => p.1 = q.1 ∧ Dt K g p.2 q.2
def KvR : List (Key × V) → List (Key × D) → Prop := Paired fun p q => p.1 = q.1 ∧ Dt K g p.2 q.2
def CellOk (k : Nat) : Cell → Prop
  | .ins C fs => g.own (g.ι k) = .cell k ∧ ∃ dx fv, g.H (g.ι k) = some (.ins (He.ga K C) dx fv) ∧ FldR K g fv fs
  | .dict kvs => g.own (g.ι k) = .cell k ∧ ∃ kv, g.H (g.ι k) = some (.dK kv) ∧ KvR K g kv kvs
  | .lock kvs => g.own (g.ι k) = .tmp ∧ ∃ o kv, g.H (g.ι k) = some (.frz o (.dK kv)) ∧ KvR K g kv kvs
  | .list ds => g.own (g.ι k) = .cell k ∧ ∃ xs, g.H (g.ι k) = some (.lst xs) ∧ DtL K g xs ds
  | .xtup ss => g.own (g.ι k) = .cell k ∧ ∃ φ, g.H (g.ι k) = some (.ext φ) ∧ ∀ h, φ h → XTo h (g.ι k) ss
  | .dead => False
structure Wo (L : Store) : Prop where
  n : g.n = L.length
  at_ : ∀ k c, L[k]? = some c → CellOk K g k c
  inj : ∀ j k, j < g.n → k < g.n → g.ι j = g.ι k → j = k
def EnvOk (σ : L2.St) (δ : Env') : Prop := σ.length = δ.length ∧ ∀ (i : Nat) (d : D), δ[i]? = some (some d) → ∃ v, σ[i]? = some (some v) ∧ Dt K g v d
end
section
variable {K : PySem.W.Frag} {g g' : Gw} {L : Store} {σ : L2.St} {δ : Env'}
theorem FldR.extD (e : ExtD g g') : ∀ {a b}, FldR K g a b → FldR K g' a b
  | _, _, .nil => .nil
  | _, _, .cons h r => .cons ⟨h.1, h.2.extD e⟩ (FldR.extD e r)
theorem KvR.extD (e : ExtD g g') : ∀ {a b}, KvR K g a b → KvR K g' a b
  | _, _, .nil => .nil
  | _, _, .cons h r => .cons ⟨h.1, h.2.extD e⟩ (KvR.extD e r)
theorem EnvOk.extD (e : ExtD g g') (h : EnvOk K g σ δ) : EnvOk K g' σ δ := ⟨h.1, fun i d q => by
  obtain ⟨v, h1, h2⟩ := h.2 i d q
  exact ⟨v, h1, h2.extD e⟩⟩
/-- a cell stays: its own object does -/
theorem CellOk.stayD {k : Nat} {c : Cell} (e : ExtD g g') (hk : k < g.n) (st : ∀ o, (g.own (g.ι k) = .cell k ∨ g.own (g.ι k) = .tmp) → g.H (g.ι k) = some o → g'.H (g.ι k) = some o ∧ g'.own (g.ι k) = g.own (g.ι k)) (h : CellOk K g k c) : CellOk K g' k c := by
  have ei := e.ι k hk
  cases c with
  | ins C fs =>
    obtain ⟨w, dx, fv, h1, h2⟩ := h
    obtain ⟨q1, q2⟩ := st _ (.inl w) h1
    exact ⟨by rw [ei]; exact q2.trans w, dx, fv, by rw [ei]; exact q1, h2.extD e⟩
  | dict kvs =>
    obtain ⟨w, kv, h1, h2⟩ := h
    obtain ⟨q1, q2⟩ := st _ (.inl w) h1
    exact ⟨by rw [ei]; exact q2.trans w, kv, by rw [ei]; exact q1, h2.extD e⟩
  | lock kvs =>
    obtain ⟨w, o, kv, h1, h2⟩ := h
    obtain ⟨q1, q2⟩ := st _ (.inr w) h1
    exact ⟨by rw [ei]; exact q2.trans w, o, kv, by rw [ei]; exact q1, h2.extD e⟩
  | list ds =>
    obtain ⟨w, xs, h1, h2⟩ := h
    obtain ⟨q1, q2⟩ := st _ (.inl w) h1
    exact ⟨by rw [ei]; exact q2.trans w, xs, by rw [ei]; exact q1, h2.extD e⟩
  | xtup ss =>
    obtain ⟨w, φ, h1, h2⟩ := h
    obtain ⟨q1, q2⟩ := st _ (.inl w) h1
    exact ⟨by rw [ei]; exact q2.trans w, φ, by rw [ei]; exact q1, by rw [ei]; exact h2⟩
  | dead => exact h
theorem FldR.ext (e : Ext g g') {a b} (h : FldR K g a b) : FldR K g' a b := h.extD e.d
theorem KvR.ext (e : Ext g g') {a b} (h : KvR K g a b) : KvR K g' a b := h.extD e.d
theorem EnvOk.ext (e : Ext g g') (h : EnvOk K g σ δ) : EnvOk K g' σ δ := h.extD e.d
theorem CellOk.stay {k : Nat} {c : Cell} (e : Ext g g') (hk : k < g.n) (st : ∀ o, (g.own (g.ι k) = .cell k ∨ g.own (g.ι k) = .tmp) → g.H (g.ι k) = some o → g'.H (g.ι k) = some o ∧ g'.own (g.ι k) = g.own (g.ι k)) (h : CellOk K g k c) : CellOk K g' k c := h.stayD e.d hk st
theorem Wo.lt (W : Wo K g L) {k : Nat} {c : Cell} (h : L[k]? = some c) : k < g.n := by
  rw [W.n]
  exact (List.getElem?_eq_some_iff.mp h).1
/-- a cell has its object -/
theorem CellOk.some {k : Nat} {c : Cell} (h : CellOk K g k c) : ∃ o, g.H (g.ι k) = some o := by
  cases c with
  | ins C fs => obtain ⟨_, dx, fv, h1, _⟩ := h; exact ⟨_, h1⟩
  | dict kvs => obtain ⟨_, kv, h1, _⟩ := h; exact ⟨_, h1⟩
  | lock kvs => obtain ⟨_, o, kv, h1, _⟩ := h; exact ⟨_, h1⟩
  | list ds => obtain ⟨_, xs, h1, _⟩ := h; exact ⟨_, h1⟩
  | xtup ss => obtain ⟨_, φ, h1, _⟩ := h; exact ⟨_, h1⟩
  | dead => exact h.elim
theorem Wo.there (W : Wo K g L) {k : Nat} (h : k < g.n) : ∃ o, g.H (g.ι k) = some o := by
  have hl : k < L.length := by rw [← W.n]; exact h
  exact (W.at_ k _ (List.getElem?_eq_getElem hl)).some
theorem Wo.off (W : Wo K g L) {k : Nat} (h : k < g.n) {p : Addr} (hp : g.H p = none) : g.ι k ≠ p := by
  obtain ⟨o, e⟩ := W.there h
  exact ne_of_none e hp
/-- a new object of color c at p -/
def Gw.push (g : Gw) (p : Addr) (c : Col) (o : HO) : Gw := ⟨g.n, g.ι, fun a => if a = p then c else g.own a, upd g.H p o⟩
theorem push_ext {p : Addr} {c : Col} {o : HO} (hp : g.H p = none) : Ext g (g.push p c o) := ⟨Nat.le_refl _, fun _ _ => rfl, fun a u h _ => by
  have ne : a ≠ p := ne_of_none h hp
  exact ⟨by show upd g.H p o a = _; rw [upd_ne ne]; exact h, by show (if a = p then c else g.own a) = _; rw [if_neg ne]⟩⟩
theorem Wo.push (W : Wo K g L) {p : Addr} {c : Col} {o : HO} (hp : g.H p = none) : Wo K (g.push p c o) L := ⟨W.n, fun k u h => (W.at_ k u h).stay (push_ext hp) (W.lt h) fun o' w e => by
  have ne : g.ι k ≠ p := ne_of_none e hp
  exact ⟨by show upd g.H p o (g.ι k) = _; rw [upd_ne ne]; exact e, by show (if g.ι k = p then c else g.own _) = _; rw [if_neg ne]⟩, W.inj⟩
theorem push_own {p : Addr} {c : Col} {o : HO} : (g.push p c o).own p = c := if_pos rfl
theorem push_at {p : Addr} {c : Col} {o : HO} : (g.push p c o).H p = some o := upd_same
/-- a new cell, the object at p -/
def Gw.cell (g : Gw) (p : Addr) (o : HO) : Gw := ⟨g.n + 1, fun k => if k = g.n then p else g.ι k, fun a => if a = p then .cell g.n else g.own a, upd g.H p o⟩
theorem cell_ext {p : Addr} {o : HO} (hp : g.H p = none) : Ext g (g.cell p o) := ⟨Nat.le_succ _, fun k hk => by
  show (if k = g.n then p else g.ι k) = _
  rw [if_neg (Nat.ne_of_lt hk)], fun a u h _ => by
  have ne : a ≠ p := ne_of_none h hp
  exact ⟨by show upd g.H p o a = _; rw [upd_ne ne]; exact h, by show (if a = p then _ else g.own a) = _; rw [if_neg ne]⟩⟩
theorem cell_ι {p : Addr} {o : HO} : (g.cell p o).ι g.n = p := if_pos rfl
theorem cell_own {p : Addr} {o : HO} : (g.cell p o).own p = .cell g.n := if_pos rfl
theorem Wo.cell (W : Wo K g L) {p : Addr} {o : HO} {c : Cell} (hp : g.H p = none) (hc : CellOk K (g.cell p o) g.n c) : Wo K (g.cell p o) (L ++ [c]) := by
  refine ⟨by show g.n + 1 = _; rw [List.length_append, W.n]; rfl, fun k u h => ?_, fun j k hj hk e => ?_⟩
  rotate_left
  · have hj : j < g.n + 1 := hj
    have hk : k < g.n + 1 := hk
    have e : (if j = g.n then p else g.ι j) = (if k = g.n then p else g.ι k) := e
    by_cases h1 : j = g.n
    · rw [if_pos h1] at e
      by_cases h2 : k = g.n
      · rw [h1, h2]
      · rw [if_neg h2] at e
        exact absurd e.symm (W.off (by omega) hp)
    · rw [if_neg h1] at e
      by_cases h2 : k = g.n
      · rw [if_pos h2] at e
        exact absurd e (W.off (by omega) hp)
      · rw [if_neg h2] at e
        exact W.inj j k (by omega) (by omega) e
  by_cases hk : k < L.length
  · rw [List.getElem?_append_left hk] at h
    refine (W.at_ k u h).stay (cell_ext hp) (W.lt h) fun o' w e => ?_
    have ne : g.ι k ≠ p := ne_of_none e hp
    exact ⟨by show upd g.H p o (g.ι k) = _; rw [upd_ne ne]; exact e, by show (if g.ι k = p then _ else g.own _) = _; rw [if_neg ne]⟩
  · have e : k = L.length := by
      have := (List.getElem?_eq_some_iff.mp h).1
      rw [List.length_append] at this
      simp at this
      omega
    subst e
    rw [List.getElem?_append_right (Nat.le_refl _), Nat.sub_self] at h
    cases h
    rw [← W.n]
    exact hc
/-- the object of cell k is written -/
def Gw.put (g : Gw) (k : Nat) (o : HO) : Gw := ⟨g.n, g.ι, g.own, upd g.H (g.ι k) o⟩
theorem put_ext {k : Nat} {o : HO} (w : g.own (g.ι k) = .cell k) : Ext g (g.put k o) := ⟨Nat.le_refl _, fun _ _ => rfl, fun a u h z => by
  have ne : a ≠ g.ι k := by
    intro e
    rw [e, w] at z
    rcases z with z | z <;> cases z
  exact ⟨by show upd g.H _ o a = _; rw [upd_ne ne]; exact h, rfl⟩⟩
theorem Wo.put (W : Wo K g L) {k : Nat} {o : HO} {c c' : Cell} (h : L[k]? = some c) (w : g.own (g.ι k) = .cell k) (hc : CellOk K (g.put k o) k c') : Wo K (g.put k o) (L.set k c') := by
  refine ⟨by show g.n = _; rw [List.length_set]; exact W.n, fun j u q => ?_, W.inj⟩
  by_cases hj : k = j
  · subst hj
    rw [List.getElem?_set_self (List.getElem?_eq_some_iff.mp h).1] at q
    cases q
    exact hc
  · rw [List.getElem?_set_ne hj] at q
    refine (W.at_ j u q).stay (put_ext w) (W.lt q) fun o' wj e => ?_
    have ne : g.ι j ≠ g.ι k := by
      intro z
      rw [z, w] at wj
      rcases wj with wj | wj
      · injection wj with wj
        exact hj wj
      · cases wj
    exact ⟨by show upd g.H _ o _ = _; rw [upd_ne ne]; exact e, rfl⟩
end
end G
set_option Elab.async false
set_option linter.all false
set_option maxRecDepth 100000
set_option maxHeartbeats 4000000
/-! G2: the judgements; names, constants, arithmetic, tests, tuples, lists; calls. -/
namespace G
open PySem PySem.Spec PyProof.Rows L2

/-- what is fixed of the program -/
structure Sta where
  P : Program
  w : World
  K : PySem.W.Frag
  mg : Str → Option Value
  base : Heap
/-- a body: its slots, its scope, the room left, whether nothing is handled -/
structure GC where
  N : List Str
  sc : Scope
  k : Nat
  c : Bool
structure Fit (T : Sta) (Γ : GC) (X : Cx) : Prop where
  P : X.prog = T.P
  w : X.w = T.w
  K : X.K = T.K
  mg : X.mg = T.mg
  base : X.base = T.base
  N : X.N = Γ.N
  sc : X.env.scope = Γ.sc
  calm : X.calm = Γ.c
  room : Γ.c = true → Room Γ.k X.A
  nd : X.N.Nodup
/-- a def's own body -/
structure FitF (T : Sta) (Γ : GC) (X : Cx) : Prop extends Fit T Γ X where
  stk : X.stack = X.env :: X.outer
  fr : X.env.frame = some X.env.locals
  ex : X.ex = []
  fn : ∀ x, X.fn x = true
  po : PassesOwn (model X.prog X.w) X.A X.env X.xe

/-! ### runs as readings -/
structure EXV (X : Cx) (e : Expr) (σ : L2.St) (H : Hp) (Q : VK) : Prop where
  run : ∀ (pins : List (Addr × Obj)) (s : Shared), Inv X pins σ H s → wpAny (model X.prog X.w) X.A (eval e X.env) (EP X pins σ Q) X.xe s
structure TXV (X : Cx) (e : Expr) (σ : L2.St) (H : Hp) (Q : Bool → Hp → Prop) : Prop where
  run : ∀ (pins : List (Addr × Obj)) (s : Shared), Inv X pins σ H s → wpAny (model X.prog X.w) X.A (isTrue e X.env (eval e X.env)) (TP X pins σ Q) X.xe s
structure WXV (X : Cx) (e : Expr) (σ : L2.St) (H : Hp) (Q : Bool → Hp → Prop) : Prop where
  run : ∀ (whole : Sem Value) (pins : List (Addr × Obj)) (s : Shared), Inv X pins σ H s → wpAny (model X.prog X.w) X.A (isTrue e X.env whole) (TP X pins σ Q) X.xe s
structure AXV (X : Cx) (es : List Expr) (σ : L2.St) (H : Hp) (Q : List V → Hp → Prop) : Prop where
  run : ∀ (pos : Pos) (pins : List (Addr × Obj)) (s : Shared), Inv X pins σ H s → wpAny (model X.prog X.w) X.A (spliced (backTo pos (starEach es X.env))) (AP X pins σ Q) X.xe s
structure SXV (X : Cx) (st : Stmt) (D : Ends) (σ : L2.St) (H : Hp) : Prop where
  run : ∀ (pins : List (Addr × Obj)) (s : Shared), Inv X pins σ H s → wpAny (model X.prog X.w) X.A (exec st X.env) (SP X pins D) X.xe s
structure BXV (X : Cx) (st : List Stmt) (D : Ends) (σ : L2.St) (H : Hp) : Prop where
  run : ∀ (pins : List (Addr × Obj)) (s : Shared), Inv X pins σ H s → wpAny (model X.prog X.w) X.A (execs st X.env) (SP X pins D) X.xe s
section
variable {X : Cx} {e : Expr} {es : List Expr} {st : Stmt} {sts : List Stmt} {σ : L2.St} {H : Hp}
theorem eself : PE X e (EXV X e) := ⟨fun pins s σ H Q I h => h.run pins s I⟩
theorem tself : PT X e (TXV X e) := ⟨fun pins s σ H Q I h => h.run pins s I⟩
theorem wself : PW X e (WXV X e) := ⟨fun wh pins s σ H Q I h => h.run wh pins s I⟩
theorem aself : PA X es (AXV X es) := ⟨fun pos pins s σ H Q I h => h.run pos pins s I⟩
theorem sself : PS X st (SXV X st) := ⟨fun pins s σ H D I h => h.run pins s I⟩
theorem bself : PSs X sts (BXV X sts) := ⟨fun pins s σ H D I h => h.run pins s I⟩
theorem eby {t : TE} {Q : VK} (p : PE X e t) (h : t σ H Q) : EXV X e σ H Q := ⟨fun pins s I => p.run pins s σ H Q I h⟩
theorem tby {t : TT} {Q : Bool → Hp → Prop} (p : PT X e t) (h : t σ H Q) : TXV X e σ H Q := ⟨fun pins s I => p.run pins s σ H Q I h⟩
theorem wby {t : TT} {Q : Bool → Hp → Prop} (p : PW X e t) (h : t σ H Q) : WXV X e σ H Q := ⟨fun wh pins s I => p.run wh pins s σ H Q I h⟩
theorem aby {t : TA} {Q : List V → Hp → Prop} (p : PA X es t) (h : t σ H Q) : AXV X es σ H Q := ⟨fun pos pins s I => p.run pos pins s σ H Q I h⟩
theorem sby {t : TS} {D : Ends} (p : PS X st t) (h : t D σ H) : SXV X st D σ H := ⟨fun pins s I => p.run pins s σ H D I h⟩
theorem bby {t : TS} {D : Ends} (p : PSs X sts t) (h : t D σ H) : BXV X sts D σ H := ⟨fun pins s I => p.run pins s σ H D I h⟩
end

/-! ### the judgements -/
section
variable (T : Sta) (Γ : GC)
/-- e gives d, the store goes from L to L' -/
def EV (e : Expr) (δ : Env') (L : Store) (d : D) (L' : Store) : Prop := ∀ X, Fit T Γ X → ∀ (g : Gw) (σ : L2.St), Wo T.K g L → EnvOk T.K g σ δ → ∀ Q : VK, (∀ v g', Ext g g' → Wo T.K g' L' → Dt T.K g' v d → Q v g'.H) → EXV X e σ g.H Q
/-- e raises C -/
def EX (e : Expr) (δ : Env') (L : Store) (C : Str) (L' : Store) : Prop := ∀ X, Fit T Γ X → ∀ W : WX, Takes X W → ∀ (g : Gw) (σ : L2.St), Wo T.K g L → EnvOk T.K g σ δ → (∀ g', Ext g g' → Wo T.K g' L' → W (.ref (He.ga T.K C)) none σ g'.H) → ∀ Q : VK, EXV X e σ g.H Q
def TV (e : Expr) (δ : Env') (L : Store) (b : Bool) (L' : Store) : Prop := ∀ X, Fit T Γ X → ∀ (g : Gw) (σ : L2.St), Wo T.K g L → EnvOk T.K g σ δ → ∀ Q : Bool → Hp → Prop, (∀ g', Ext g g' → Wo T.K g' L' → Q b g'.H) → TXV X e σ g.H Q
def WV (e : Expr) (δ : Env') (L : Store) (b : Bool) (L' : Store) : Prop := ∀ X, Fit T Γ X → ∀ (g : Gw) (σ : L2.St), Wo T.K g L → EnvOk T.K g σ δ → ∀ Q : Bool → Hp → Prop, (∀ g', Ext g g' → Wo T.K g' L' → Q b g'.H) → WXV X e σ g.H Q
def AV (es : List Expr) (δ : Env') (L : Store) (ds : List D) (L' : Store) : Prop := ∀ X, Fit T Γ X → ∀ (g : Gw) (σ : L2.St), Wo T.K g L → EnvOk T.K g σ δ → ∀ Q : List V → Hp → Prop, (∀ vs g', Ext g g' → Wo T.K g' L' → DtL T.K g' vs ds → Q vs g'.H) → AXV X es σ g.H Q
end
/-- how a body ends -/
inductive Oc where
  | nx (δ : Env') | rt (d : D) | bk (δ : Env') | ct (δ : Env') | ex (C : Str) (δ : Env')
/-- what must hold for an end o, L' from the world g -/
def PostS (K : PySem.W.Frag) (D : Ends) (W : WX) (g : Gw) (o : Oc) (L' : Store) : Prop := match o with
  | .nx δ => ∀ g' σ', Ext g g' → Wo K g' L' → EnvOk K g' σ' δ → D.nx σ' g'.H
  | .bk δ => ∀ g' σ', Ext g g' → Wo K g' L' → EnvOk K g' σ' δ → D.bk σ' g'.H
  | .ct δ => ∀ g' σ', Ext g g' → Wo K g' L' → EnvOk K g' σ' δ → D.ct σ' g'.H
  | .rt d => ∀ g' v, Ext g g' → Wo K g' L' → Dt K g' v d → D.rt v g'.H
  | .ex C δ => ∀ g' σ', Ext g g' → Wo K g' L' → EnvOk K g' σ' δ → W (.ref (He.ga K C)) none σ' g'.H
section
variable (T : Sta) (Γ : GC)
def S1 (st : Stmt) (δ : Env') (L : Store) (o : Oc) (L' : Store) : Prop := ∀ X, FitF T Γ X → ∀ W : WX, Takes X W → ∀ (g : Gw) (σ : L2.St), Wo T.K g L → EnvOk T.K g σ δ → ∀ D : Ends, PostS T.K D W g o L' → SXV X st D σ g.H
def SV (st : List Stmt) (δ : Env') (L : Store) (o : Oc) (L' : Store) : Prop := ∀ X, FitF T Γ X → ∀ W : WX, Takes X W → ∀ (g : Gw) (σ : L2.St), Wo T.K g L → EnvOk T.K g σ δ → ∀ D : Ends, PostS T.K D W g o L' → BXV X st D σ g.H
end
end G
set_option Elab.async false
set_option linter.all false
set_option maxRecDepth 100000
set_option maxHeartbeats 4000000
/-! G3: expressions. -/
namespace G
open PySem PySem.Spec PyProof.Rows L2
/-! ### names by their scope -/
def kindB (sc : Scope) (x : Str) (n : Nat) : Bool := match sc.names.lookup x with
  | some .local => decide (n ≤ 2)
  | some .cell => decide (n = 1 ∨ n = 0)
  | some .free => decide (n = 0)
  | some .globalImplicit => decide (n = 3)
  | _ => false
theorem vis_of {sc : Scope} {x : Str} (h : kindB sc x 0 = true) : Vis sc x := by
  unfold kindB at h
  unfold L2.Vis
  split at h <;> first | (rename_i e; rw [e]; simp; done) | cases h
theorem loc_of {sc : Scope} {x : Str} (h : kindB sc x 1 = true) : Loc sc x := by
  unfold kindB at h
  unfold L2.Loc
  split at h <;> first | (rename_i e; rw [e]; simp; done) | cases h
theorem lol_of {sc : Scope} {x : Str} (h : kindB sc x 2 = true) : sc.names.lookup x = some .local := by
  unfold kindB at h
  split at h <;> first | assumption | cases h
theorem gls_of {sc : Scope} {x : Str} (h : kindB sc x 3 = true) : sc.names.lookup x = some .globalImplicit := by
  unfold kindB at h
  split at h <;> first | assumption | cases h
/-! ### arguments without stars -/
def plainE : Expr → Bool
  | .Starred _ _ => false
  | _ => true
theorem star_cons {e : Expr} {es : List Expr} {env : Env} (h : plainE e = true) : starEach (e :: es) env = (false, eval e env) :: starEach es env := by
  cases e <;> first | rfl | cases h
theorem star_one {e : Expr} {env : Env} (h : plainE e = true) : starEach [e] env = [(false, eval e env)] := star_cons h
theorem star_any {pos : Pos} {env : Env} : ∀ {es : List Expr}, es.all plainE = true → (backTo pos (starEach es env)).any (·.1) = false
  | [], _ => rfl
  | e :: es, h => by
    rw [List.all_cons, Bool.and_eq_true] at h
    rw [star_cons h.1]
    exact star_any h.2
section
variable {T : Sta} {Γ : GC} {δ : Env'} {L M1 M2 M3 L' : Store}

/-! ### names, constants -/
theorem ev_name {x : Str} {pos : Pos} {d : D} (i : Nat) (hN : Γ.N[i]? = some x := by rfl) (hd : δ[i]? = some (some d) := by rfl) (hv : Vis Γ.sc x := by exact vis_of (by decide +kernel)) (h1 : (x == ("__debug__" : Str)) = false := by decide +kernel)
    (h2 : (x == ("__classdict__" : Str)) = false := by decide +kernel) : EV T Γ (.Name x pos) δ L d L := fun X F g σ W E Q q => by
  obtain ⟨v, e1, e2⟩ := E.2 i d hd
  exact eby (pe_var (by rw [F.N]; exact hN) (by rw [F.sc]; exact hv) h1 h2) ⟨v, e1, q v g (.refl g) W e2⟩
theorem ev_int {i : Int} {j : Nat} {pos : Pos} : EV T Γ (.Constant (.int i) j pos) δ L (.int i) L := fun X F g σ W E Q q => eby pe_int (q _ g (.refl g) W (.int i))
theorem ev_bl {b : Bool} {j : Nat} {pos : Pos} : EV T Γ (.Constant (.bool b) j pos) δ L (.bl b) L := fun X F g σ W E Q q => eby pe_bl (q _ g (.refl g) W (.bl b))
theorem ev_non {j : Nat} {pos : Pos} : EV T Γ (.Constant .none j pos) δ L .non L := fun X F g σ W E Q q => eby pe_non (q _ g (.refl g) W .non)
theorem ev_str {x : Str} {j : Nat} {pos : Pos} : EV T Γ (.Constant (.str x) j pos) δ L (.str x) L := fun X F g σ W E Q q => eby pe_str (q _ g (.refl g) W (.str x))
abbrev GlS (sc : Scope) (x : Str) : Prop := sc.names.lookup x = some .globalImplicit
theorem Fit.gl {X : Cx} (F : Fit T Γ X) {x : Str} (h : GlS Γ.sc x) : Gl X x := by
  show X.env.scope.names.lookup x = _
  rw [F.sc]
  exact h
theorem ev_glob {x : Str} {pos : Pos} {v : V} {u : Value} {d : D} (hm : T.mg x = some u) (r : RelV v u) (hd : ∀ g : Gw, Dt T.K g v d) (hg : GlS Γ.sc x := by exact gls_of (by decide +kernel)) (h1 : (x == ("__debug__" : Str)) = false := by decide +kernel) : EV T Γ (.Name x pos) δ L d L := fun X F g σ W E Q q =>
  eby (pe_glob (F.gl hg) (by rw [F.mg]; exact hm) r h1) (q v g (.refl g) W (hd g))

/-! ### operators -/
theorem ev_op {a b : Expr} {op : Operator} {pos : Pos} {x y d : D} (r : R2) (ho : ∀ X, Fit T Γ X → OpR X (binaryOp op) r) (ha : EV T Γ a δ L x M1) (hb : EV T Γ b δ M1 y M2)
    (hr : ∀ (g : Gw) v u, Wo T.K g M2 → Dt T.K g v x → Dt T.K g u y → ∀ Q : VK, (∀ z g', Ext g g' → Wo T.K g' M3 → Dt T.K g' z d → Q z g'.H) → r v u g.H Q) : EV T Γ (.BinOp a op b pos) δ L d M3 := fun X F g σ W E Q q => by
  refine eby (pe_op (ho X F) eself eself) ?_
  refine ha X F g σ W E _ fun v g1 e1 W1 d1 => ?_
  refine hb X F g1 σ W1 (E.ext e1) _ fun u g2 e2 W2 d2 => ?_
  exact hr g2 v u W2 (d1.ext e2) d2 Q fun z g3 e3 W3 d3 => q z g3 ((e1.trans e2).trans e3) W3 d3
theorem ev_cmp {a b : Expr} {op : CmpOp} {pos : Pos} {x y d : D} (r : R2) (ho : ∀ X, Fit T Γ X → OpR X (compareOp op) r) (ha : EV T Γ a δ L x M1) (hb : EV T Γ b δ M1 y M2)
    (hr : ∀ (g : Gw) v u, Wo T.K g M2 → Dt T.K g v x → Dt T.K g u y → ∀ Q : VK, (∀ z g', Ext g g' → Wo T.K g' M3 → Dt T.K g' z d → Q z g'.H) → r v u g.H Q) (hm : behindInMarks op b = false) : EV T Γ (.Compare a [op] [b] pos) δ L d M3 := fun X F g σ W E Q q => by
  refine eby (pe_cmpR (ho X F) eself eself hm) ?_
  refine ha X F g σ W E _ fun v g1 e1 W1 d1 => ?_
  refine hb X F g1 σ W1 (E.ext e1) _ fun u g2 e2 W2 d2 => ?_
  exact hr g2 v u W2 (d1.ext e2) d2 Q fun z g3 e3 W3 d3 => q z g3 ((e1.trans e2).trans e3) W3 d3
theorem tv_cmp {a b : Expr} {op : CmpOp} {pos : Pos} {x y : D} {k : Bool} (r : R2) (ho : ∀ X, Fit T Γ X → OpR X (compareOp op) r) (ha : EV T Γ a δ L x M1) (hb : EV T Γ b δ M1 y M2)
    (hr : ∀ (g : Gw) v u, Wo T.K g M2 → Dt T.K g v x → Dt T.K g u y → ∀ Q : VK, (∀ z g', Ext g g' → Wo T.K g' M3 → Dt T.K g' z (.bl k) → Q z g'.H) → r v u g.H Q) (hm : behindInMarks op b = false) : TV T Γ (.Compare a [op] [b] pos) δ L k M3 := fun X F g σ W E Q q => by
  refine tby (pt_cmpR (ho X F) eself eself hm) ?_
  refine ha X F g σ W E _ fun v g1 e1 W1 d1 => ?_
  refine hb X F g1 σ W1 (E.ext e1) _ fun u g2 e2 W2 d2 => ?_
  refine hr g2 v u W2 (d1.ext e2) d2 _ fun z g3 e3 W3 d3 => ?_
  cases d3
  exact ⟨k, rfl, q g3 ((e1.trans e2).trans e3) W3⟩
/-- a pure rule: the value alone -/
def Pu (T : Sta) (r : R2) (x y d : D) : Prop := ∀ (g : Gw) v u, Dt T.K g v x → Dt T.K g u y → ∀ Q : VK, (∀ z, Dt T.K g z d → Q z g.H) → r v u g.H Q
theorem Pu.to {r : R2} {x y d : D} (h : Pu T r x y d) : ∀ (g : Gw) v u, Wo T.K g L → Dt T.K g v x → Dt T.K g u y → ∀ Q : VK, (∀ z g', Ext g g' → Wo T.K g' L → Dt T.K g' z d → Q z g'.H) → r v u g.H Q :=
  fun g v u W a b Q q => h g v u a b Q fun z dz => q z g (.refl g) W dz
theorem pu_I0 {f : Int → Int → V} {k : Int → Int → D} (h : ∀ g i j, Dt T.K g (f i j) (k i j)) {i j : Int} : Pu T (rI0 f) (.int i) (.int j) (k i j) := fun g v u a b Q q => by
  cases a; cases b
  exact ⟨i, j, rfl, rfl, q _ (h g i j)⟩
theorem pu_I {C : Int → Int → Prop} {f : Int → Int → V} {k : Int → Int → D} (h : ∀ g i j, Dt T.K g (f i j) (k i j)) {i j : Int} (c : C i j) : Pu T (rI C f) (.int i) (.int j) (k i j) := fun g v u a b Q q => by
  cases a; cases b
  exact ⟨i, j, rfl, rfl, c, q _ (h g i j)⟩
section
variable {a b : Expr} {pos : Pos} {i j : Int}
theorem ev_add (ha : EV T Γ a δ L (.int i) M1) (hb : EV T Γ b δ M1 (.int j) M2) : EV T Γ (.BinOp a .Add b pos) δ L (.int (i + j)) M2 := ev_op _ (fun _ _ => op_add) ha hb (pu_I0 (k := fun i j => .int (i + j)) fun _ _ _ => .int _).to
theorem ev_sub (ha : EV T Γ a δ L (.int i) M1) (hb : EV T Γ b δ M1 (.int j) M2) : EV T Γ (.BinOp a .Sub b pos) δ L (.int (i - j)) M2 := ev_op _ (fun _ _ => op_sub) ha hb (pu_I0 (k := fun i j => .int (i - j)) fun _ _ _ => .int _).to
theorem ev_mul (ha : EV T Γ a δ L (.int i) M1) (hb : EV T Γ b δ M1 (.int j) M2) (h : CMul i j) : EV T Γ (.BinOp a .Mult b pos) δ L (.int (i * j)) M2 := ev_op _ (fun _ _ => op_mul) ha hb (pu_I (k := fun i j => .int (i * j)) (fun _ _ _ => .int _) h).to
theorem ev_mod (ha : EV T Γ a δ L (.int i) M1) (hb : EV T Γ b δ M1 (.int j) M2) (h : 0 < j) : EV T Γ (.BinOp a .Mod b pos) δ L (.int (i % j)) M2 := ev_op _ (fun _ _ => op_mod) ha hb (pu_I (C := fun _ j => 0 < j) (k := fun i j => .int (i % j)) (fun _ _ _ => .int _) h).to
theorem ev_div (ha : EV T Γ a δ L (.int i) M1) (hb : EV T Γ b δ M1 (.int j) M2) (h : CDiv i j) : EV T Γ (.BinOp a .FloorDiv b pos) δ L (.int (i / j)) M2 := ev_op _ (fun _ _ => op_fdiv) ha hb (pu_I (k := fun i j => .int (i / j)) (fun _ _ _ => .int _) h).to
theorem ev_pow (ha : EV T Γ a δ L (.int i) M1) (hb : EV T Γ b δ M1 (.int j) M2) (h : CPow i j) : EV T Γ (.BinOp a .Pow b pos) δ L (.int (i ^ j.toNat)) M2 := ev_op _ (fun _ _ => op_pow) ha hb (pu_I (k := fun i j => .int (i ^ j.toNat)) (fun _ _ _ => .int _) h).to
theorem ev_neg (ha : EV T Γ a δ L (.int i) M1) : EV T Γ (.UnaryOp .USub a pos) δ L (.int (-i)) M1 := fun X F g σ W E Q q => by
  refine eby (pe_un un_neg eself) ?_
  refine ha X F g σ W E _ fun v g1 e1 W1 d1 => ?_
  cases d1
  exact ⟨i, rfl, q _ g1 e1 W1 (.int _)⟩
theorem ev_addS {x y : Str} (ha : EV T Γ a δ L (.str x) M1) (hb : EV T Γ b δ M1 (.str y) M2) (h : x.length + y.length ≤ sizeLine) : EV T Γ (.BinOp a .Add b pos) δ L (.str (x ++ y)) M2 := ev_op _ (fun _ _ => op_add_str) ha hb fun g v u W a b Q q => by
  cases a; cases b
  exact ⟨x, y, rfl, rfl, h, q _ g (.refl g) W (.str _)⟩
/-! comparisons of ints: op_lt .. by the operator -/
def ropI : CmpOp → Int → Int → Bool
  | .Lt, i, j => decide (i < j)
  | .LtE, i, j => decide (i ≤ j)
  | .Gt, i, j => decide (j < i)
  | .GtE, i, j => decide (j ≤ i)
  | _, _, _ => false
theorem tv_lt (ha : EV T Γ a δ L (.int i) M1) (hb : EV T Γ b δ M1 (.int j) M2) : TV T Γ (.Compare a [.Lt] [b] pos) δ L (decide (i < j)) M2 := tv_cmp _ (fun _ _ => op_lt) ha hb (pu_I0 (k := fun i j => .bl (decide (i < j))) fun _ _ _ => .bl _).to (nomark _)
theorem tv_le (ha : EV T Γ a δ L (.int i) M1) (hb : EV T Γ b δ M1 (.int j) M2) : TV T Γ (.Compare a [.LtE] [b] pos) δ L (decide (i ≤ j)) M2 := tv_cmp _ (fun _ _ => op_le) ha hb (pu_I0 (k := fun i j => .bl (decide (i ≤ j))) fun _ _ _ => .bl _).to (nomark _)
theorem tv_gt (ha : EV T Γ a δ L (.int i) M1) (hb : EV T Γ b δ M1 (.int j) M2) : TV T Γ (.Compare a [.Gt] [b] pos) δ L (decide (j < i)) M2 := tv_cmp _ (fun _ _ => op_gt) ha hb (pu_I0 (k := fun i j => .bl (decide (j < i))) fun _ _ _ => .bl _).to (nomark _)
theorem tv_ge (ha : EV T Γ a δ L (.int i) M1) (hb : EV T Γ b δ M1 (.int j) M2) : TV T Γ (.Compare a [.GtE] [b] pos) δ L (decide (j ≤ i)) M2 := tv_cmp _ (fun _ _ => op_ge) ha hb (pu_I0 (k := fun i j => .bl (decide (j ≤ i))) fun _ _ _ => .bl _).to (nomark _)
theorem ev_lt (ha : EV T Γ a δ L (.int i) M1) (hb : EV T Γ b δ M1 (.int j) M2) : EV T Γ (.Compare a [.Lt] [b] pos) δ L (.bl (decide (i < j))) M2 := ev_cmp _ (fun _ _ => op_lt) ha hb (pu_I0 (k := fun i j => .bl (decide (i < j))) fun _ _ _ => .bl _).to (nomark _)
theorem ev_le (ha : EV T Γ a δ L (.int i) M1) (hb : EV T Γ b δ M1 (.int j) M2) : EV T Γ (.Compare a [.LtE] [b] pos) δ L (.bl (decide (i ≤ j))) M2 := ev_cmp _ (fun _ _ => op_le) ha hb (pu_I0 (k := fun i j => .bl (decide (i ≤ j))) fun _ _ _ => .bl _).to (nomark _)
theorem ev_gt (ha : EV T Γ a δ L (.int i) M1) (hb : EV T Γ b δ M1 (.int j) M2) : EV T Γ (.Compare a [.Gt] [b] pos) δ L (.bl (decide (j < i))) M2 := ev_cmp _ (fun _ _ => op_gt) ha hb (pu_I0 (k := fun i j => .bl (decide (j < i))) fun _ _ _ => .bl _).to (nomark _)
theorem ev_ge (ha : EV T Γ a δ L (.int i) M1) (hb : EV T Γ b δ M1 (.int j) M2) : EV T Γ (.Compare a [.GtE] [b] pos) δ L (.bl (decide (j ≤ i))) M2 := ev_cmp _ (fun _ _ => op_ge) ha hb (pu_I0 (k := fun i j => .bl (decide (j ≤ i))) fun _ _ _ => .bl _).to (nomark _)
/-- a <= b <= c of ints -/
theorem ev_chain {c : Expr} {op op' : CmpOp} {f f' : Int → Int → Bool} {l : Int} (ho : ∀ X : Cx, OpR X (compareOp op) (rI0 fun i j => .bl (f i j))) (ho' : ∀ X : Cx, OpR X (compareOp op') (rI0 fun i j => .bl (f' i j)))
    (ha : EV T Γ a δ L (.int i) M1) (hb : EV T Γ b δ M1 (.int j) M2) (hc : EV T Γ c δ M2 (.int l) M2) (hm : lastMarks [op, op'] [b, c] = false := by with_unfolding_all rfl) : EV T Γ (.Compare a [op, op'] [b, c] pos) δ L (.bl (f i j && f' j l)) M2 := fun X F g σ W E Q q => by
  refine eby (pe_chain (ho X) (ho' X) eself eself eself hm) ?_
  refine ha X F g σ W E _ fun v g1 e1 W1 d1 => ?_
  refine hb X F g1 σ W1 (E.ext e1) _ fun u g2 e2 W2 d2 => ?_
  cases d1; cases d2
  refine ⟨i, j, rfl, rfl, f i j, rfl, ?_⟩
  cases h : f i j with
  | true =>
    rw [if_pos rfl]
    refine hc X F g2 σ W2 ((E.ext e1).ext e2) _ fun w g3 e3 W3 d3 => ?_
    cases d3
    refine ⟨j, l, rfl, rfl, ?_⟩
    rw [h, Bool.true_and] at q
    exact q _ g3 ((e1.trans e2).trans e3) W3 (.bl _)
  | false =>
    rw [if_neg Bool.false_ne_true]
    rw [h, Bool.false_and] at q
    exact q _ g2 (e1.trans e2) W2 (.bl false)
end

/-! ### logic -/
section
variable {a b : Expr} {rest : List Expr} {pos : Pos} {x y : Bool}
theorem ev_and (ha : EV T Γ a δ L (.bl x) L) (hb : x = true → EV T Γ (.BoolOp .And (b :: rest) pos) δ L (.bl y) L) : EV T Γ (.BoolOp .And (a :: b :: rest) pos) δ L (.bl (x && y)) L := fun X F g σ W E Q q => by
  refine eby (pe_and eself eself) ?_
  refine ha X F g σ W E _ fun v g1 e1 W1 d1 => ?_
  cases d1
  refine ⟨x, rfl, ?_⟩
  cases x with
  | true =>
    rw [if_pos rfl]
    rw [Bool.true_and] at q
    exact hb rfl X F g1 σ W1 (E.ext e1) _ fun w g2 e2 W2 d2 => q w g2 (e1.trans e2) W2 d2
  | false =>
    rw [if_neg Bool.false_ne_true]
    rw [Bool.false_and] at q
    exact q _ g1 e1 W1 (.bl _)
theorem ev_or (ha : EV T Γ a δ L (.bl x) L) (hb : x = false → EV T Γ (.BoolOp .Or (b :: rest) pos) δ L (.bl y) L) : EV T Γ (.BoolOp .Or (a :: b :: rest) pos) δ L (.bl (x || y)) L := fun X F g σ W E Q q => by
  refine eby (pe_or eself eself) ?_
  refine ha X F g σ W E _ fun v g1 e1 W1 d1 => ?_
  cases d1
  refine ⟨x, rfl, ?_⟩
  cases x with
  | true =>
    rw [if_pos rfl]
    rw [Bool.true_or] at q
    exact q _ g1 e1 W1 (.bl _)
  | false =>
    rw [if_neg Bool.false_ne_true]
    rw [Bool.false_or] at q
    exact hb rfl X F g1 σ W1 (E.ext e1) _ fun w g2 e2 W2 d2 => q w g2 (e1.trans e2) W2 d2
theorem ev_one {op : BoolOp} {d : D} (ha : EV T Γ a δ L d M1) : EV T Γ (.BoolOp op [a] pos) δ L d M1 := fun X F g σ W E Q q => eby (pe_one eself) (ha X F g σ W E Q q)
theorem ev_not {b : Bool} (ha : TV T Γ a δ L b M1) (hn : ∀ X : Cx, PT X a (TXV X a) → PE X (.UnaryOp .Not a pos) (fun σ H Q => TXV X a σ H fun b H' => Q (.bl (!b)) H')) : EV T Γ (.UnaryOp .Not a pos) δ L (.bl (!b)) M1 := fun X F g σ W E Q q =>
  eby (hn X tself) (ha X F g σ W E _ fun g1 e1 W1 => q _ g1 e1 W1 (.bl _))
theorem tv_and (ha : TV T Γ a δ L x M1) (hb : x = true → WV T Γ (.BoolOp .And (b :: rest) pos) δ M1 y M2) (h0 : x = false → M2 = M1) : WV T Γ (.BoolOp .And (a :: b :: rest) pos) δ L (x && y) M2 := fun X F g σ W E Q q => by
  refine wby (pw_and tself wself) ?_
  refine ha X F g σ W E _ fun g1 e1 W1 => ?_
  cases x with
  | true =>
    rw [if_pos rfl]
    rw [Bool.true_and] at q
    exact hb rfl X F g1 σ W1 (E.ext e1) _ fun g2 e2 W2 => q g2 (e1.trans e2) W2
  | false =>
    rw [if_neg Bool.false_ne_true]
    rw [Bool.false_and] at q
    exact q g1 e1 (by rw [h0 rfl]; exact W1)
theorem tv_or (ha : TV T Γ a δ L x M1) (hb : x = false → WV T Γ (.BoolOp .Or (b :: rest) pos) δ M1 y M2) (h0 : x = true → M2 = M1) : WV T Γ (.BoolOp .Or (a :: b :: rest) pos) δ L (x || y) M2 := fun X F g σ W E Q q => by
  refine wby (pw_or tself wself) ?_
  refine ha X F g σ W E _ fun g1 e1 W1 => ?_
  cases x with
  | true =>
    rw [if_pos rfl]
    rw [Bool.true_or] at q
    exact q g1 e1 (by rw [h0 rfl]; exact W1)
  | false =>
    rw [if_neg Bool.false_ne_true]
    rw [Bool.false_or] at q
    exact hb rfl X F g1 σ W1 (E.ext e1) _ fun g2 e2 W2 => q g2 (e1.trans e2) W2
theorem wv_and1 (ha : TV T Γ a δ L x M1) : WV T Γ (.BoolOp .And [a] pos) δ L x M1 := fun X F g σ W E Q q => wby (pw_and1 tself) (ha X F g σ W E Q q)
theorem wv_or1 (ha : TV T Γ a δ L x M1) : WV T Γ (.BoolOp .Or [a] pos) δ L x M1 := fun X F g σ W E Q q => wby (pw_or1 tself) (ha X F g σ W E Q q)
theorem tv_w (h : WV T Γ a δ L x M1) : TV T Γ a δ L x M1 := fun X F g σ W E Q q => tby wself.pt (h X F g σ W E Q q)
theorem tv_not (ha : TV T Γ a δ L x M1) : TV T Γ (.UnaryOp .Not a pos) δ L (!x) M1 := fun X F g σ W E Q q => tby (pt_not tself) (ha X F g σ W E _ q)
/-- a test by a value that is a bool -/
theorem tv_val (h : EV T Γ a δ L (.bl x) M1) (he : ∀ (env : Env) whole, isTrue a env whole = (do let v ← whole; standAt a.pos; holding [v] (truthy v)) := by intro _ _; rfl) : TV T Γ a δ L x M1 := fun X F g σ W E Q q =>
  tby (pt_val eself (he _)) (h X F g σ W E _ fun v g1 e1 W1 d1 => by
    cases d1
    exact ⟨x, rfl, q g1 e1 W1⟩)
/-- truth -/
def Cell.truth : Option Cell → Option Bool
  | some (.list ds) => some (!ds.isEmpty)
  | some (.dict kvs) => some (!kvs.isEmpty)
  | _ => none
def D.truth (d : D) (L : Store) : Option Bool := match d with
  | .non => some false
  | .bl b => some b
  | .int i => some (i != 0)
  | .str z => if z.length ≤ sizeLine then some ((z.length : Int) != 0) else none
  | .tup ds => some (!ds.isEmpty)
  | .lst ds => some (!ds.isEmpty)
  | .ref k => Cell.truth L[k]?
  | .scr _ => none
theorem DtL.empty {K : PySem.W.Frag} {g : Gw} : ∀ {xs : List V} {ds : List D}, DtL K g xs ds → xs.isEmpty = ds.isEmpty
  | _, _, .nil => rfl
  | _, _, .cons _ _ => rfl
theorem KvR.empty {K : PySem.W.Frag} {g : Gw} : ∀ {xs ds}, KvR K g xs ds → xs.isEmpty = ds.isEmpty
  | _, _, .nil => rfl
  | _, _, .cons _ _ => rfl
theorem truV {g : Gw} {v : V} {d : D} {b : Bool} (W : Wo T.K g L) (h : Dt T.K g v d) (e : d.truth L = some b) : TruV T.K v g.H b := by
  cases h with
  | non => cases e; rfl
  | bl c => cases e; rfl
  | int i => cases e; rfl
  | str z =>
    have e' : (if z.length ≤ sizeLine then some ((z.length : Int) != 0) else none) = some b := e
    by_cases h : z.length ≤ sizeLine
    · rw [if_pos h] at e'
      exact ⟨h, (Option.some.inj e').symm⟩
    · rw [if_neg h] at e'
      cases e'
  | tup h l =>
    cases e
    exact .inr (.inl ⟨_, h.sq, by rw [l.empty]⟩)
  | lst h l =>
    cases e
    exact .inl ⟨_, h.sq, by rw [l.empty]⟩
  | scr h => cases e
  | ref hk =>
    rename_i k
    have e' : Cell.truth L[k]? = some b := e
    cases q : L[k]? with
    | none => rw [q] at e'; cases e'
    | some c =>
      rw [q] at e'
      cases c with
      | list ds =>
        obtain ⟨_, xs, h1, h2⟩ := W.at_ k _ q
        exact .inl ⟨xs, .inl (.inl h1), by rw [h2.empty]; exact (Option.some.inj e').symm⟩
      | dict kvs =>
        obtain ⟨_, xs, h1, h2⟩ := W.at_ k _ q
        exact .inr (.inr ⟨xs, h1, by rw [h2.empty]; exact (Option.some.inj e').symm⟩)
      | ins C fs => cases e'
      | lock kvs => cases e'
      | xtup ss => cases e'
      | dead => cases e'
theorem tv_truth {d : D} (h : EV T Γ a δ L d M1) (ht : d.truth M1 = some x) (he : ∀ (env : Env) whole, isTrue a env whole = (do let v ← whole; standAt a.pos; holding [v] (truthy v)) := by intro _ _; rfl) : TV T Γ a δ L x M1 := fun X F g σ W E Q q =>
  tby (pt_truth eself (he _)) (h X F g σ W E _ fun v g1 e1 W1 d1 => ⟨x, by rw [F.K]; exact truV W1 d1 ht, q g1 e1 W1⟩)
theorem ev_notV {d : D} (h : EV T Γ a δ L d M1) (ht : d.truth M1 = some x) : EV T Γ (.UnaryOp .Not a pos) δ L (.bl (!x)) M1 := fun X F g σ W E Q q =>
  eby (pe_notT eself) (h X F g σ W E _ fun v g1 e1 W1 d1 => ⟨x, by rw [F.K]; exact truV W1 d1 ht, q _ g1 e1 W1 (.bl _)⟩)
theorem ev_if {c : Expr} {d : D} (hc : TV T Γ c δ L x M1) (ha : x = true → EV T Γ a δ M1 d M2) (hb : x = false → EV T Γ b δ M1 d M2) : EV T Γ (.IfExp c a b pos) δ L d M2 := fun X F g σ W E Q q =>
  eby (pe_ifExp tself eself eself) (hc X F g σ W E _ fun g1 e1 W1 => by
    cases x with
    | true =>
      rw [if_pos rfl]
      exact ha rfl X F g1 σ W1 (E.ext e1) _ fun w g2 e2 W2 d2 => q w g2 (e1.trans e2) W2 d2
    | false =>
      rw [if_neg Bool.false_ne_true]
      exact hb rfl X F g1 σ W1 (E.ext e1) _ fun w g2 e2 W2 d2 => q w g2 (e1.trans e2) W2 d2)
end

/-! ### argument lists, displays -/
theorem av_nil : AV T Γ [] δ L [] L := fun X F g σ W E Q q => aby pa_nil (q [] g (.refl g) W .nil)
theorem av_cons {e : Expr} {es : List Expr} {d : D} {ds : List D} (h : EV T Γ e δ L d M1) (r : AV T Γ es δ M1 ds M2) (hs : ∀ env : Env, starEach (e :: es) env = (false, eval e env) :: starEach es env := by intro _; exact star_cons rfl) : AV T Γ (e :: es) δ L (d :: ds) M2 := fun X F g σ W E Q q =>
  aby (pa_cons eself aself (hs _)) (h X F g σ W E _ fun v g1 e1 W1 d1 => r X F g1 σ W1 (E.ext e1) _ fun vs g2 e2 W2 d2 => q (v :: vs) g2 (e1.trans e2) W2 (.cons (d1.ext e2) d2))
theorem ev_tup {es : List Expr} {n : Nat} {pos : Pos} {ds : List D} (h : AV T Γ es δ L ds M1) (hl : ds.length ≤ sizeLine) : EV T Γ (.Tuple es n pos) δ L (.tup ds) M1 := fun X F g σ W E Q q =>
  eby (pe_tup aself) (h X F g σ W E _ fun vs g1 e1 W1 d1 => ⟨by rw [d1.len]; exact hl, fun p hp => q (.ref p) (g1.push p .data (.tup vs)) (e1.trans (push_ext hp)) (W1.push hp) (.tup (.inl ⟨.inl push_at, push_own⟩) (d1.ext (push_ext hp)))⟩)
theorem ev_lst {es : List Expr} {pos : Pos} {ds : List D} (h : AV T Γ es δ L ds M1) (hl : ds.length ≤ sizeLine) : EV T Γ (.List es pos) δ L (.lst ds) M1 := fun X F g σ W E Q q =>
  eby (pe_lst aself) (h X F g σ W E _ fun vs g1 e1 W1 d1 => ⟨by rw [d1.len]; exact hl, fun p hp => q (.ref p) (g1.push p .data (.lst vs)) (e1.trans (push_ext hp)) (W1.push hp) (.lst ⟨push_at, push_own⟩ (d1.ext (push_ext hp)))⟩)
/-- the same as a new cell -/
theorem en_lst {es : List Expr} {pos : Pos} {ds : List D} (h : AV T Γ es δ L ds M1) (hl : ds.length ≤ sizeLine) : EV T Γ (.List es pos) δ L (.ref M1.length) (M1 ++ [.list ds]) := fun X F g σ W E Q q =>
  eby (pe_lst aself) (h X F g σ W E _ fun vs g1 e1 W1 d1 => ⟨by rw [d1.len]; exact hl, fun p hp => by
    have z := q (.ref p) (g1.cell p (.lst vs)) (e1.trans (cell_ext hp)) (W1.cell hp ⟨by rw [cell_ι]; exact cell_own, vs, by rw [cell_ι]; exact upd_same, d1.ext (cell_ext hp)⟩) (by
      have hn : M1.length < (g1.cell p (.lst vs)).n := by
        show M1.length < g1.n + 1
        rw [W1.n]
        exact Nat.lt_succ_self _
      have r := Dt.ref (K := T.K) (g := g1.cell p (.lst vs)) hn
      rw [← W1.n] at r ⊢
      rw [cell_ι] at r
      exact r)
    exact z⟩)
theorem en_dict {pos : Pos} : EV T Γ (.Dict [] [] pos) δ L (.ref L.length) (L ++ [.dict []]) := fun X F g σ W E Q q =>
  eby pe_dnewK fun p hp => by
    exact q (.ref p) (g.cell p (.dK [])) (cell_ext hp) (W.cell hp ⟨by rw [cell_ι]; exact cell_own, [], by rw [cell_ι]; exact upd_same, .nil⟩) (by
      have hn : L.length < (g.cell p (.dK [])).n := by
        show L.length < g.n + 1
        rw [W.n]
        exact Nat.lt_succ_self _
      have r := Dt.ref (K := T.K) (g := g.cell p (.dK [])) hn
      rw [← W.n] at r ⊢
      rw [cell_ι] at r
      exact r)
end
end G
set_option Elab.async false
set_option linter.all false
set_option maxRecDepth 100000
set_option maxHeartbeats 4000000
/-! G4: what a def keeps; calls; statements. -/
namespace G
open PySem PySem.Spec PyProof.Rows L2
/-- how a call ends -/
inductive Out where
  | rt (d : D) | ex (C : Str)
def PostF (K : PySem.W.Frag) (g : Gw) (o : Out) (L' : Store) (Q : VK) (E : XK) : Prop := match o with
  | .rt d => ∀ v g', Ext g g' → Wo K g' L' → Dt K g' v d → Q v g'.H
  | .ex C => ∀ g', Ext g g' → Wo K g' L' → E (.ref (He.ga K C)) none g'.H
def spG (K : PySem.W.Frag) (ds : List D) (L : Store) (o : Out) (L' : Store) : Sp := fun vs H Q E => ∃ g : Gw, g.H = H ∧ Wo K g L ∧ DtL K g vs ds ∧ PostF K g o L' Q E
/-- the def at f, with room for k calls: called with ds, L it ends with o, L' -/
structure Fn (T : Sta) (k : Nat) (f : Addr) (ds : List D) (L : Store) (o : Out) (L' : Store) : Prop where
  ex : ∃ (fd : FuncData) (ps : List Str), Binds T.K fd ps [] ∧ FnOk T.P T.w T.K T.mg T.base (L2.CX T.P T.w) k f fd ps (spG T.K ds L o L')
  kp : PySem.W.keepIn T.K (.ref f) = true
/-- a module's def x -/
structure FC (T : Sta) (k : Nat) (x : Str) (ds : List D) (L : Store) (o : Out) (L' : Store) : Prop where
  fn : Fn T k (He.ga T.K x) ds L o L'
  mg : T.mg x = some (.ref (He.ga T.K x))
/-- the method m of the class C; ds: with self -/
structure MC (T : Sta) (k : Nat) (C m : Str) (ds : List D) (L : Store) (o : Out) (L' : Store) : Prop where
  fn : Fn T k (He.ma T.K (He.ga T.K C) m) ds L o L'
  cls : Cls T.K (He.ga T.K C)
  meth : Meth T.K (He.ga T.K C) m (He.ma T.K (He.ga T.K C) m)
section
variable {T : Sta} {Γ : GC} {δ : Env'} {L M1 M2 M3 L' : Store}
theorem Fn.mono {j k : Nat} {f : Addr} {ds : List D} {o : Out} (h : Fn T j f ds L o L') (hk : j ≤ k) : Fn T k f ds L o L' := ⟨by
  obtain ⟨fd, ps, b, F⟩ := h.ex
  exact ⟨fd, ps, b, F.mono hk⟩, h.kp⟩
theorem FC.mono {j k : Nat} {x : Str} {ds : List D} {o : Out} (h : FC T j x ds L o L') (hk : j ≤ k) : FC T k x ds L o L' := ⟨h.fn.mono hk, h.mg⟩
theorem MC.mono {j k : Nat} {C x : Str} {ds : List D} {o : Out} (h : MC T j C x ds L o L') (hk : j ≤ k) : MC T k C x ds L o L' := ⟨h.fn.mono hk, h.cls, h.meth⟩
/-- the facts of one def of the text -/
structure Df (T : Sta) (f : Addr) (name qual : Str) (st : Stmt) : Prop where
  ex : ∃ fd, FunD T.K name qual (defArgs st) (defBody st) (defScope st) [] [] f fd
def Fin (o' : Oc) (o : Out) : Prop := match o' with | .nx _ => o = .rt .non | .rt d => o = .rt d | .ex C _ => o = .ex C | _ => False
/-- the code of a def, by its body -/
theorem fn_ok {f : Addr} {fd : FuncData} {name qual : Str} {st : Stmt} {N ps : List Str} {k : Nat} {ds : List D} {o : Out} {δ0 : Env'} (S : FnScope N ps (defScope st)) (hl : ds.length = ps.length) (hδ : δ0 = ds.map some ++ List.replicate (N.length - ds.length) none)
    (body : ∃ o', SV T ⟨N, defScope st, k, true⟩ (defBody st) δ0 L o' L' ∧ Fin o' o) (F : FunD T.K name qual (defArgs st) (defBody st) (defScope st) [] [] f fd) : FnOk T.P T.w T.K T.mg T.base (L2.CX T.P T.w) (k + 1) f fd ps (spG T.K ds L o L') := by
  obtain ⟨oc, od, dV, kV, doc, pm, an, cdv, ct, osl, rfl, lk, hcd, hdv, hkv⟩ := F.ex
  refine fn_of lk hcd S (fun vs H Q E h => ?_) fun A outer s H vs Q E hr h => ?_
  · obtain ⟨g, _, _, d, _⟩ := h
    rw [d.len, hl]
  · obtain ⟨g, rfl, W, d, post⟩ := h
    obtain ⟨o', hS, ho⟩ := body
    refine ⟨_, bself, ?_⟩
    refine hS _ ⟨⟨rfl, rfl, rfl, rfl, rfl, rfl, rfl, rfl, fun _ => hr, S.nd⟩, rfl, rfl, rfl, fun _ => rfl, ?_⟩ (fun cls d _ H => E cls d H) (takes_of rfl rfl rfl rfl) g _ W ?_ _ ?_
    · exact PassesOwn.leaving
    · rw [hδ]
      refine ⟨?_, fun i x q => ?_⟩
      · unfold L2.start
        rw [List.length_append, List.length_append, List.length_map, List.length_map, List.length_replicate, List.length_replicate, d.len]
      · by_cases hi : i < ds.length
        · rw [List.getElem?_append_left (by rw [List.length_map]; exact hi), List.getElem?_map] at q
          cases e : ds[i]? with
          | none => rw [e] at q; cases q
          | some y =>
            rw [e] at q
            cases q
            obtain ⟨v, h1, h2⟩ := d.get e
            refine ⟨v, ?_, h2⟩
            unfold L2.start
            rw [List.getElem?_append_left (by rw [List.length_map, d.len]; exact hi), List.getElem?_map, h1]
            rfl
        · rw [List.getElem?_append_right (by rw [List.length_map]; omega), List.getElem?_replicate] at q
          split at q <;> cases q
    · cases o' with
      | nx δ =>
        have e : o = .rt .non := ho
        subst e
        intro g' σ' e W' _
        exact post _ g' e W' .non
      | rt d' =>
        have e : o = .rt d' := ho
        subst e
        intro g' v e W' dv
        exact post v g' e W' dv
      | ex C δ =>
        have e : o = .ex C := ho
        subst e
        intro g' σ' e W' _
        exact post g' e W'
      | bk δ => cases ho
      | ct δ => cases ho

/-! ### calls -/
/-- from a body to its def -/
theorem fn_body {f : Addr} {name qual : Str} {st : Stmt} {N ps : List Str} {k : Nat} {ds : List D} {o : Out} {δ0 : Env'} (D0 : Df T f name qual st) (S : FnScope N ps (defScope st)) (hl : ds.length = ps.length)
    (hb : ∀ fd, FunD T.K name qual (defArgs st) (defBody st) (defScope st) [] [] f fd → Binds T.K fd ps []) (hδ : δ0 = ds.map some ++ List.replicate (N.length - ds.length) none)
    (body : ∃ o', SV T ⟨N, defScope st, k, true⟩ (defBody st) δ0 L o' L' ∧ Fin o' o) : Fn T (k + 1) f ds L o L' := by
  obtain ⟨fd, F⟩ := D0.ex
  exact ⟨⟨fd, ps, hb fd F, fn_ok S hl hδ body F⟩, F.kp⟩

theorem pass_no {X : Cx} {P : Program} {w : World} {σ : L2.St} : PassesAt (L2.CX P w) X σ (fun _ _ _ => False) := fun pins H s e s' I c => by
  obtain ⟨a, B, H', cls, d, e1, fl, ho, ub, na, os, ag, z⟩ := c
  exact z.elim
theorem pass_w {X : Cx} {P : Program} {w : World} {W : WX} (eP : X.prog = P) (ew : X.w = w) (tk : Takes X W) (σ : L2.St) : PassesAt (L2.CX P w) X σ (WE W σ) := by
  rw [← eP, ← ew]
  exact passAt tk σ
theorem FnOk.at {X : Cx} {k : Nat} {f : Addr} {fd : FuncData} {ps : List Str} {sp : Sp} (F : Fit T Γ X) (h : FnOk T.P T.w T.K T.mg T.base (L2.CX T.P T.w) k f fd ps sp) : FnOk X.prog X.w X.K X.mg X.base (L2.CX T.P T.w) k f fd ps sp := by
  rw [F.P, F.w, F.K, F.mg, F.base]
  exact h
theorem Fit.rm {X : Cx} (F : Fit T Γ X) (hc : Γ.c = true) {k : Nat} (h : k ≤ Γ.k) : Room k X.A := (F.room hc).mono h
/-- f(e, ..) -/
theorem ev_call {x : Str} {e : Expr} {es : List Expr} {p pos : Pos} {ds : List D} {d : D} {k : Nat} (C : FC T k x ds M1 (.rt d) M2) (ha : AV T Γ (e :: es) δ L ds M1) (hk : k ≤ Γ.k := by decide) (hc : Γ.c = true := by rfl) (hg : GlS Γ.sc x := by exact gls_of (by decide +kernel)) (hdb : (x == ("__debug__" : Str)) = false := by decide +kernel)
    (he : ∀ env : Env, starEach (e :: es) env = (false, eval e env) :: starEach es env := by intro _; exact star_cons rfl) (hpl : ∀ env : Env, (backTo pos (starEach es env)).any (·.1) = false := by intro _; exact star_any rfl) : EV T Γ (.Call (.Name x p) (e :: es) [] pos) δ L d M2 := fun X F g σ W E Q q => by
  obtain ⟨fd, ps, b, hF⟩ := C.fn.ex
  refine eby (pe_callS (FnOk.at F hF) (F.rm hc hk) (F.gl hg) (by rw [F.mg]; exact C.mg) (by rw [F.K]; exact C.fn.kp) (by rw [F.K]; exact b) (fun σ => pass_no) aself hdb (he _) (hpl _)) ?_
  refine ha X F g σ W E _ fun vs g1 e1 W1 d1 => ?_
  exact ⟨g1, rfl, W1, d1, fun v g2 e2 W2 d2 => q v g2 (e1.trans e2) W2 d2⟩
theorem ex_call {x C' : Str} {e : Expr} {es : List Expr} {p pos : Pos} {ds : List D} {k : Nat} (C : FC T k x ds M1 (.ex C') M2) (ha : AV T Γ (e :: es) δ L ds M1) (hk : k ≤ Γ.k := by decide) (hc : Γ.c = true := by rfl) (hg : GlS Γ.sc x := by exact gls_of (by decide +kernel)) (hdb : (x == ("__debug__" : Str)) = false := by decide +kernel)
    (he : ∀ env : Env, starEach (e :: es) env = (false, eval e env) :: starEach es env := by intro _; exact star_cons rfl) (hpl : ∀ env : Env, (backTo pos (starEach es env)).any (·.1) = false := by intro _; exact star_any rfl) : EX T Γ (.Call (.Name x p) (e :: es) [] pos) δ L C' M2 := fun X F Wx tk g σ W E q Q => by
  obtain ⟨fd, ps, b, hF⟩ := C.fn.ex
  refine eby (pe_callS (FnOk.at F hF) (F.rm hc hk) (F.gl hg) (by rw [F.mg]; exact C.mg) (by rw [F.K]; exact C.fn.kp) (by rw [F.K]; exact b) (pass_w F.P F.w tk) aself hdb (he _) (hpl _)) ?_
  refine ha X F g σ W E _ fun vs g1 e1 W1 d1 => ?_
  exact ⟨g1, rfl, W1, d1, fun g2 e2 W2 => q g2 (e1.trans e2) W2⟩
end
end G
set_option Elab.async false
set_option linter.all false
set_option maxRecDepth 100000
set_option maxHeartbeats 4000000
/-! G5: methods called, instances made. -/
namespace G
open PySem PySem.Spec PyProof.Rows L2
/-- the text's o.m(es) is run as a method call -/
def MForm (o : Expr) (m : Str) (apos : Pos) (es : List Expr) (pos : Pos) : Prop := ∀ env : Env, ∃ pl : Sem Bool, eval (.Call (.Attribute o m apos) es [] pos) env = (do let ov ← eval o env; standAt apos.atName; let (f, first) ← holding [ov] (getMethod ov m pl); callWith pos f first (backTo pos (starEach es env)) (backToKw pos (keywordEach [] env)))
section
variable {X : Cx} {k : Nat} {f C : Addr} {fd : FuncData} {ps : List Str} {sp : Sp} {E : L2.St → XK} {m : Str} {pos apos p : Pos} {o : Expr} {ta : TE} {CXX : CXT}
/-- what is asked of o.m(es): CallSlots' reading behind the receiver's -/
def tMethS (C : Addr) (m : Str) (sp : Sp) (E : L2.St → XK) (ta : TE) (t : TA) : TE := fun σ H Q => ta σ H fun x H1 => ∃ a dx fs, x = .ref a ∧ H1 a = some (.ins C dx fs) ∧ fs.lookup m = none ∧ t σ H1 fun vs H2 => sp (x :: vs) H2 Q (E σ)
theorem peM (he : PE X o ta) (c : Cls X.K C) (hm : Meth X.K C m f) (F : FnOk X.prog X.w X.K X.mg X.base CXX k f fd ps sp) (hr : Room k X.A) (hb : Binds X.K fd ps []) (hx : ∀ σ, PassesAt CXX X σ (E σ)) {e : Expr} {es : List Expr} {t : TA} (ha : PA X (e :: es) t)
    (hf : MForm o m apos (e :: es) pos) (h1 : starEach (e :: es) X.env = (false, eval e X.env) :: starEach es X.env) (h2 : (backTo pos (starEach es X.env)).any (·.1) = false) : PE X (.Call (.Attribute o m apos) (e :: es) [] pos) (tMethS C m sp E ta t) := ⟨fun pins s σ H Q I h => by
  obtain ⟨pl, ht⟩ := hf X.env
  exact PySem.W.methodCall_KW (pl := pl) (thn (he.run pins s σ H _ I h) fun u s1 z => by
    obtain ⟨x, H1, I1, rx, a, dx, fs, ex, ea, l, q⟩ := z
    subst ex
    cases (show u = Value.ref a from rx)
    exact getmeth_ok I1 ea c hm l (PySem.W.callWith_K (h₀ := X.base) (first := [Value.ref a]) I.ok.mod.kin hm.kp (thn (ha.run pos pins s1 σ H1 _ I1 q) fun us s2 y => by
      obtain ⟨vs, H2, I2, r, q2⟩ := y
      exact ⟨I2.kIn, run_fnS F hr hb (hx σ) I2 (Paired.cons (show RelV (V.ref a) (Value.ref a) from rfl) r) q2⟩) h1 h2)) ht⟩
theorem peM0 (he : PE X o ta) (c : Cls X.K C) (hm : Meth X.K C m f) (F : FnOk X.prog X.w X.K X.mg X.base CXX k f fd ps sp) (hr : Room k X.A) (hb : Binds X.K fd ps []) (hx : ∀ σ, PassesAt CXX X σ (E σ))
    (hf : MForm o m apos [] pos) : PE X (.Call (.Attribute o m apos) [] [] pos) (tMethS C m sp E ta tNil) := ⟨fun pins s σ H Q I h => by
  obtain ⟨pl, ht⟩ := hf X.env
  exact PySem.W.methodCall_KW (pl := pl) (thn (he.run pins s σ H _ I h) fun u s1 z => by
    obtain ⟨x, H1, I1, rx, a, dx, fs, ex, ea, l, q⟩ := z
    subst ex
    cases (show u = Value.ref a from rx)
    exact getmeth_ok I1 ea c hm l (PySem.W.callWith_K0 (first := [Value.ref a]) I1.kIn hm.kp (run_fnS F hr hb (hx σ) I1 (Paired.cons (show RelV (V.ref a) (Value.ref a) from rfl) .nil) q))) ht⟩
/-- f() -/
theorem peC0 {x : Str} (F : FnOk X.prog X.w X.K X.mg X.base CXX k f fd ps sp) (hr : Room k X.A) (hg : Gl X x) (hm : X.mg x = some (.ref f)) (hk : PySem.W.keepIn X.K (.ref f) = true) (hb : Binds X.K fd ps []) (hx : ∀ σ, PassesAt CXX X σ (E σ)) (hdb : (x == ("__debug__" : Str)) = false) :
    PE X (.Call (.Name x p) [] [] pos) (tCallS sp E tNil) := ⟨fun pins s σ H Q I h => wpAny_Call_Name_kw (ld_glob I hg hm (PySem.W.callWith_K0 I.kIn hk (run_fnS F hr hb (hx σ) I Paired.nil h)) hdb)⟩
end

section
variable {T : Sta} {Γ : GC} {δ : Env'} {L M1 M2 M3 L' : Store}
theorem FldR.none {K : PySem.W.Frag} {g : Gw} {m : Str} : ∀ {fv fs}, FldR K g fv fs → fs.lookup m = none → fv.lookup m = none
  | _, _, .nil, _ => rfl
  | (a, v) :: r, (b, d) :: r', .cons h t, e => by
    have ea : a = b := h.1
    subst ea
    rw [List.lookup_cons] at e ⊢
    cases q : (m == a) with
    | true => rw [q] at e; cases e
    | false =>
      rw [q] at e
      exact FldR.none t e
/-- the receiver d is an instance of C without the attribute m -/
def Recv (L : Store) (d : D) (C m : Str) : Prop := ∃ k fs, d = .ref k ∧ L[k]? = some (.ins C fs) ∧ fs.lookup m = none
theorem Recv.at {g : Gw} {v : V} {d : D} {C m : Str} (r : Recv L d C m) (W : Wo T.K g L) (h : Dt T.K g v d) : ∃ a dx fv, v = .ref a ∧ g.H a = some (.ins (He.ga T.K C) dx fv) ∧ fv.lookup m = none := by
  obtain ⟨k, fs, rfl, hk, hn⟩ := r
  cases h
  obtain ⟨_, dx, fv, h1, h2⟩ := W.at_ k _ hk
  exact ⟨_, dx, fv, rfl, h1, h2.none hn⟩
theorem ev_meth {C m : Str} {o e : Expr} {es : List Expr} {apos pos : Pos} {do_ d : D} {ds : List D} {k : Nat} (ho : EV T Γ o δ L do_ M1) (hr : Recv M1 do_ C m) (ha : AV T Γ (e :: es) δ M1 ds M2) (c : MC T k C m (do_ :: ds) M2 (.rt d) M3) (hk : k ≤ Γ.k := by decide) (hc : Γ.c = true := by rfl)
    (hf : MForm o m apos (e :: es) pos := by intro _; exact ⟨_, rfl⟩) (h1 : ∀ env : Env, starEach (e :: es) env = (false, eval e env) :: starEach es env := by intro _; exact star_cons rfl) (h2 : ∀ env : Env, (backTo pos (starEach es env)).any (·.1) = false := by intro _; exact star_any rfl) : EV T Γ (.Call (.Attribute o m apos) (e :: es) [] pos) δ L d M3 := fun X F g σ W E Q q => by
  obtain ⟨fd, ps, b, hF⟩ := c.fn.ex
  refine eby (peM eself (by rw [F.K]; exact c.cls) (by rw [F.K]; exact c.meth) (FnOk.at F hF) (F.rm hc hk) (by rw [F.K]; exact b) (fun σ => pass_no) aself hf (h1 _) (h2 _)) ?_
  refine ho X F g σ W E _ fun v g1 e1 W1 d1 => ?_
  obtain ⟨a, dx, fv, rfl, x1, x2⟩ := hr.at W1 d1
  refine ⟨a, dx, fv, rfl, x1, x2, ?_⟩
  refine ha X F g1 σ W1 (E.ext e1) _ fun vs g2 e2 W2 d2 => ?_
  exact ⟨g2, rfl, W2, .cons (d1.ext e2) d2, fun v g3 e3 W3 d3 => q v g3 ((e1.trans e2).trans e3) W3 d3⟩
theorem ex_meth {C m C' : Str} {o e : Expr} {es : List Expr} {apos pos : Pos} {do_ : D} {ds : List D} {k : Nat} (ho : EV T Γ o δ L do_ M1) (hr : Recv M1 do_ C m) (ha : AV T Γ (e :: es) δ M1 ds M2) (c : MC T k C m (do_ :: ds) M2 (.ex C') M3) (hk : k ≤ Γ.k := by decide) (hc : Γ.c = true := by rfl)
    (hf : MForm o m apos (e :: es) pos := by intro _; exact ⟨_, rfl⟩) (h1 : ∀ env : Env, starEach (e :: es) env = (false, eval e env) :: starEach es env := by intro _; exact star_cons rfl) (h2 : ∀ env : Env, (backTo pos (starEach es env)).any (·.1) = false := by intro _; exact star_any rfl) : EX T Γ (.Call (.Attribute o m apos) (e :: es) [] pos) δ L C' M3 := fun X F Wx tk g σ W E q Q => by
  obtain ⟨fd, ps, b, hF⟩ := c.fn.ex
  refine eby (peM eself (by rw [F.K]; exact c.cls) (by rw [F.K]; exact c.meth) (FnOk.at F hF) (F.rm hc hk) (by rw [F.K]; exact b) (pass_w F.P F.w tk) aself hf (h1 _) (h2 _)) ?_
  refine ho X F g σ W E _ fun v g1 e1 W1 d1 => ?_
  obtain ⟨a, dx, fv, rfl, x1, x2⟩ := hr.at W1 d1
  refine ⟨a, dx, fv, rfl, x1, x2, ?_⟩
  refine ha X F g1 σ W1 (E.ext e1) _ fun vs g2 e2 W2 d2 => ?_
  exact ⟨g2, rfl, W2, .cons (d1.ext e2) d2, fun g3 e3 W3 => q g3 ((e1.trans e2).trans e3) W3⟩
theorem ev_meth0 {C m : Str} {o : Expr} {apos pos : Pos} {do_ d : D} {k : Nat} (ho : EV T Γ o δ L do_ M1) (hr : Recv M1 do_ C m) (c : MC T k C m [do_] M1 (.rt d) M3) (hk : k ≤ Γ.k := by decide) (hc : Γ.c = true := by rfl)
    (hf : MForm o m apos [] pos := by intro _; exact ⟨_, rfl⟩) : EV T Γ (.Call (.Attribute o m apos) [] [] pos) δ L d M3 := fun X F g σ W E Q q => by
  obtain ⟨fd, ps, b, hF⟩ := c.fn.ex
  refine eby (peM0 eself (by rw [F.K]; exact c.cls) (by rw [F.K]; exact c.meth) (FnOk.at F hF) (F.rm hc hk) (by rw [F.K]; exact b) (fun σ => pass_no) hf) ?_
  refine ho X F g σ W E _ fun v g1 e1 W1 d1 => ?_
  obtain ⟨a, dx, fv, rfl, x1, x2⟩ := hr.at W1 d1
  exact ⟨a, dx, fv, rfl, x1, x2, g1, rfl, W1, .cons d1 .nil, fun v g3 e3 W3 d3 => q v g3 (e1.trans e3) W3 d3⟩
theorem ex_meth0 {C m C' : Str} {o : Expr} {apos pos : Pos} {do_ : D} {k : Nat} (ho : EV T Γ o δ L do_ M1) (hr : Recv M1 do_ C m) (c : MC T k C m [do_] M1 (.ex C') M3) (hk : k ≤ Γ.k := by decide) (hc : Γ.c = true := by rfl)
    (hf : MForm o m apos [] pos := by intro _; exact ⟨_, rfl⟩) : EX T Γ (.Call (.Attribute o m apos) [] [] pos) δ L C' M3 := fun X F Wx tk g σ W E q Q => by
  obtain ⟨fd, ps, b, hF⟩ := c.fn.ex
  refine eby (peM0 eself (by rw [F.K]; exact c.cls) (by rw [F.K]; exact c.meth) (FnOk.at F hF) (F.rm hc hk) (by rw [F.K]; exact b) (pass_w F.P F.w tk) hf) ?_
  refine ho X F g σ W E _ fun v g1 e1 W1 d1 => ?_
  obtain ⟨a, dx, fv, rfl, x1, x2⟩ := hr.at W1 d1
  exact ⟨a, dx, fv, rfl, x1, x2, g1, rfl, W1, .cons d1 .nil, fun g3 e3 W3 => q g3 (e1.trans e3) W3⟩
theorem ev_call0 {x : Str} {p pos : Pos} {d : D} {k : Nat} (C : FC T k x [] L (.rt d) M2) (hk : k ≤ Γ.k := by decide) (hc : Γ.c = true := by rfl) (hg : GlS Γ.sc x := by exact gls_of (by decide +kernel)) (hdb : (x == ("__debug__" : Str)) = false := by decide +kernel) : EV T Γ (.Call (.Name x p) [] [] pos) δ L d M2 := fun X F g σ W E Q q => by
  obtain ⟨fd, ps, b, hF⟩ := C.fn.ex
  exact eby (peC0 (E := fun _ _ _ _ => False) (FnOk.at F hF) (F.rm hc hk) (F.gl hg) (by rw [F.mg]; exact C.mg) (by rw [F.K]; exact C.fn.kp) (by rw [F.K]; exact b) (fun σ => pass_no) hdb) ⟨g, rfl, W, .nil, fun v g2 e2 W2 d2 => q v g2 e2 W2 d2⟩

/-! ### instances made: C(e, ..) by the contract of C.__init__ on the new, empty instance -/
theorem Gw.made {g : Gw} {x dx : Addr} {C : Addr} (W : Wo T.K g L) {Cn : Str} (eC : C = He.ga T.K Cn) (nx : g.H x = none) (nd : g.H dx = none) (ne : dx ≠ x) :
    ∃ g' : Gw, g'.H = upd (upd g.H dx (.own x)) x (.ins C dx []) ∧ Ext g g' ∧ Wo T.K g' (L ++ [.ins Cn []]) ∧ Dt T.K g' (.ref x) (.ref L.length) := by
  have n2 : (g.push dx .tmp (.own x)).H x = none := by
    show upd g.H dx _ x = none
    rw [upd_ne (Ne.symm ne)]
    exact nx
  have e1 := push_ext (g := g) (c := .tmp) (o := .own x) nd
  have e2 := cell_ext (g := g.push dx .tmp (.own x)) (o := .ins C dx []) n2
  refine ⟨(g.push dx .tmp (.own x)).cell x (.ins C dx []), rfl, e1.trans e2, (W.push nd).cell n2 ⟨by rw [cell_ι]; exact cell_own, dx, [], by rw [cell_ι]; rw [← eC]; exact upd_same, .nil⟩, ?_⟩
  have hn : L.length < ((g.push dx .tmp (.own x)).cell x (.ins C dx [])).n := by
    show L.length < g.n + 1
    rw [W.n]
    exact Nat.lt_succ_self _
  have r := Dt.ref (K := T.K) (g := (g.push dx .tmp (.own x)).cell x (.ins C dx [])) hn
  have el : L.length = (g.push dx .tmp (.own x)).n := W.n.symm
  rw [el] at r ⊢
  rw [cell_ι] at r
  exact r
/-- the class x can be made -/
structure KC (T : Sta) (x : Str) : Prop where
  mak : Mk T.K (He.ga T.K x) (He.ma T.K (He.ga T.K x) "__init__")
  mg : T.mg x = some (.ref (He.ga T.K x))
theorem ev_make {x : Str} {e : Expr} {es : List Expr} {p pos : Pos} {ds : List D} {k : Nat} (c : KC T x) (ha : AV T Γ (e :: es) δ L ds M1) (i : MC T k x "__init__" (.ref M1.length :: ds) (M1 ++ [.ins x []]) (.rt .non) M2) (hk : k + 1 ≤ Γ.k := by decide) (hc : Γ.c = true := by rfl) (hg : GlS Γ.sc x := by exact gls_of (by decide +kernel)) (hdb : (x == ("__debug__" : Str)) = false := by decide +kernel)
    (he : ∀ env : Env, starEach (e :: es) env = (false, eval e env) :: starEach es env := by intro _; exact star_cons rfl) (hpl : ∀ env : Env, (backTo pos (starEach es env)).any (·.1) = false := by intro _; exact star_any rfl) : EV T Γ (.Call (.Name x p) (e :: es) [] pos) δ L (.ref M1.length) M2 := fun X F g σ W E Q q => by
  obtain ⟨fd, ps, b, hF⟩ := i.fn.ex
  refine eby (pe_make (E := fun _ _ _ => False) (by rw [F.K]; exact c.mak) (FnOk.at F hF) (F.rm hc hk) (F.gl hg) (by rw [F.mg]; exact c.mg) (by rw [F.K]; exact b) .nil (fun pins σ H s e s' I c => pass_no pins H s e s' I c) aself hdb (he _) (hpl _)) ?_
  refine ha X F g σ W E _ fun vs g1 e1 W1 d1 => ?_
  intro a dx na nd ne
  obtain ⟨g2, h2, e2, W2, d2⟩ := Gw.made W1 rfl na nd ne
  refine ⟨g2, h2, W2, ?_, fun v g3 e3 W3 d3 => ?_⟩
  · rw [List.append_nil]
    exact .cons d2 (d1.ext e2)
  · cases d3
    exact ⟨rfl, q _ g3 ((e1.trans e2).trans e3) W3 (d2.ext e3)⟩
theorem ev_make0 {x : Str} {p pos : Pos} {k : Nat} (c : KC T x) (i : MC T k x "__init__" [.ref L.length] (L ++ [.ins x []]) (.rt .non) M2) (hk : k + 1 ≤ Γ.k := by decide) (hc : Γ.c = true := by rfl) (hg : GlS Γ.sc x := by exact gls_of (by decide +kernel)) (hdb : (x == ("__debug__" : Str)) = false := by decide +kernel) : EV T Γ (.Call (.Name x p) [] [] pos) δ L (.ref L.length) M2 := fun X F g σ W E Q q => by
  obtain ⟨fd, ps, b, hF⟩ := i.fn.ex
  refine eby (pe_make0 (E := fun _ _ _ => False) (by rw [F.K]; exact c.mak) (FnOk.at F hF) (F.rm hc hk) (F.gl hg) (by rw [F.mg]; exact c.mg) (by rw [F.K]; exact b) .nil (fun pins σ H s e s' I c => pass_no pins H s e s' I c) hdb) ?_
  intro a dx na nd ne
  obtain ⟨g2, h2, e2, W2, d2⟩ := Gw.made W rfl na nd ne
  refine ⟨g2, h2, W2, .cons d2 .nil, fun v g3 e3 W3 d3 => ?_⟩
  cases d3
  exact ⟨rfl, q _ g3 (e2.trans e3) W3 (d2.ext e3)⟩
end
end G
set_option Elab.async false
set_option linter.all false
set_option maxRecDepth 100000
set_option maxHeartbeats 4000000
/-! G6: statements. -/
namespace G
open PySem PySem.Spec PyProof.Rows L2
section
variable {T : Sta} {Γ : GC} {δ δ' : Env'} {L M1 M2 M3 L' : Store}
theorem FitF.fit {X : Cx} (F : FitF T Γ X) : Fit T Γ X := F.toFit
/-! ### blocks -/
theorem sv_nil : SV T Γ [] δ L (.nx δ) L := fun X F Wx tk g σ W E D q => bby pss_nil (q g σ (.refl g) W E)
theorem PostS.ext {K : PySem.W.Frag} {D : Ends} {W : WX} {g g1 : Gw} {o : Oc} {L' : Store} (e : Ext g g1) (h : PostS K D W g o L') : PostS K D W g1 o L' := by
  cases o with
  | nx δ => exact fun g' σ' e' => h g' σ' (e.trans e')
  | bk δ => exact fun g' σ' e' => h g' σ' (e.trans e')
  | ct δ => exact fun g' σ' e' => h g' σ' (e.trans e')
  | rt d => exact fun g' v e' => h g' v (e.trans e')
  | ex C δ => exact fun g' σ' e' => h g' σ' (e.trans e')
/-- the ends that leave the rest alone -/
def Oc.out : Oc → Prop
  | .nx _ => False
  | _ => True
theorem PostS.nx {K : PySem.W.Frag} {D : Ends} {W : WX} {g : Gw} {o : Oc} {L' : Store} (h : PostS K D W g o L') (ho : o.out) (N : L2.St → Hp → Prop) : PostS K { D with nx := N } W g o L' := by
  cases o with
  | nx δ => exact ho.elim
  | bk δ => exact h
  | ct δ => exact h
  | rt d => exact h
  | ex C δ => exact h
theorem sv_cons {st : Stmt} {rest : List Stmt} {o : Oc} (h : S1 T Γ st δ L (.nx δ') M1) (r : SV T Γ rest δ' M1 o L') : SV T Γ (st :: rest) δ L o L' := fun X F Wx tk g σ W E D q => by
  refine bby (pss_cons sself bself) ?_
  refine h X F Wx tk g σ W E _ fun g1 σ1 e1 W1 E1 => ?_
  exact r X F Wx tk g1 σ1 W1 E1 D (q.ext e1)
theorem sv_out {st : Stmt} {rest : List Stmt} {o : Oc} (h : S1 T Γ st δ L o L') (ho : o.out) : SV T Γ (st :: rest) δ L o L' := fun X F Wx tk g σ W E D q => by
  refine bby (pss_cons sself bself) ?_
  exact h X F Wx tk g σ W E _ (q.nx ho _)
theorem sv_one {st : Stmt} {o : Oc} (h : S1 T Γ st δ L o L') : SV T Γ [st] δ L o L' := fun X F Wx tk g σ W E D q => bby (pss_one sself) (h X F Wx tk g σ W E D q)

/-! ### return, expression statements, pass -/
theorem s_ret {e : Expr} {pos : Pos} {d : D} (h : EV T Γ e δ L d L') : S1 T Γ (.Return (some e) pos) δ L (.rt d) L' := fun X F Wx tk g σ W E D q => sby (ps_ret eself) (h X F.fit g σ W E _ fun v g1 e1 W1 d1 => q g1 v e1 W1 d1)
theorem s_retN {pos : Pos} : S1 T Γ (.Return none pos) δ L (.rt .non) L := fun X F Wx tk g σ W E D q => sby ps_retN (q g .non (.refl g) W .non)
theorem s_retX {e : Expr} {pos : Pos} {C : Str} (h : EX T Γ e δ L C L') : S1 T Γ (.Return (some e) pos) δ L (.ex C δ) L' := fun X F Wx tk g σ W E D q => sby (ps_ret eself) (h X F.fit Wx tk g σ W E (fun g1 e1 W1 => q g1 σ e1 W1 (E.ext e1)) _)
theorem s_expr {e : Expr} {pos : Pos} {d : D} (h : EV T Γ e δ L d L') (hs : ∀ env : Env, swapsWith e none pos.line env = pure false := by intro _; rfl) : S1 T Γ (.Expr e pos) δ L (.nx δ) L' := fun X F Wx tk g σ W E D q => sby (ps_expr eself (hs _)) (h X F.fit g σ W E _ fun v g1 e1 W1 d1 => q g1 σ e1 W1 (E.ext e1))
theorem s_exprX {e : Expr} {pos : Pos} {C : Str} (h : EX T Γ e δ L C L') (hs : ∀ env : Env, swapsWith e none pos.line env = pure false := by intro _; rfl) : S1 T Γ (.Expr e pos) δ L (.ex C δ) L' := fun X F Wx tk g σ W E D q => sby (ps_expr eself (hs _)) (h X F.fit Wx tk g σ W E (fun g1 e1 W1 => q g1 σ e1 W1 (E.ext e1)) _)
theorem s_pass {pos : Pos} : S1 T Γ (.Pass pos) δ L (.nx δ) L := fun X F Wx tk g σ W E D q => sby ps_pass (q g σ (.refl g) W E)
theorem s_cont {pos : Pos} : S1 T Γ (.Continue pos) δ L (.ct δ) L := fun X F Wx tk g σ W E D q => sby ps_continue (q g σ (.refl g) W E)

/-! ### if -/
theorem s_if {c : Expr} {a b : List Stmt} {pos : Pos} {x : Bool} {o : Oc} (hc : TV T Γ c δ L x M1) (ha : x = true → SV T Γ a δ M1 o L') (hb : x = false → SV T Γ b δ M1 o L') : S1 T Γ (.If c a b pos) δ L o L' := fun X F Wx tk g σ W E D q => by
  refine sby (ps_if tself bself bself) ?_
  refine hc X F.fit g σ W E _ fun g1 e1 W1 => ?_
  cases x with
  | true =>
    rw [if_pos rfl]
    exact ha rfl X F Wx tk g1 σ W1 (E.ext e1) D (q.ext e1)
  | false =>
    rw [if_neg Bool.false_ne_true]
    exact hb rfl X F Wx tk g1 σ W1 (E.ext e1) D (q.ext e1)
theorem s_ifT {c : Expr} {a b : List Stmt} {pos : Pos} {o : Oc} (hc : TV T Γ c δ L true M1) (ha : SV T Γ a δ M1 o L') : S1 T Γ (.If c a b pos) δ L o L' := s_if hc (fun _ => ha) fun e => nomatch e
theorem s_ifF {c : Expr} {a b : List Stmt} {pos : Pos} {o : Oc} (hc : TV T Γ c δ L false M1) (hb : SV T Γ b δ M1 o L') : S1 T Γ (.If c a b pos) δ L o L' := s_if hc (fun e => nomatch e) fun _ => hb

/-! ### targets -/
theorem EnvOk.set {K : PySem.W.Frag} {g : Gw} {σ : L2.St} {v : V} {d : D} (h : EnvOk K g σ δ) (i : Nat) (r : Dt K g v d) : EnvOk K g (σ.set i (some v)) (δ.set i (some d)) := by
  refine ⟨by rw [List.length_set, List.length_set]; exact h.1, fun j y q => ?_⟩
  by_cases hj : i = j
  · subst hj
    have hl : i < δ.length := by
      have := (List.getElem?_eq_some_iff.mp q).1
      rw [List.length_set] at this
      exact this
    rw [List.getElem?_set_self hl] at q
    cases q
    exact ⟨v, List.getElem?_set_self (by rw [h.1]; exact hl), r⟩
  · rw [List.getElem?_set_ne hj] at q
    obtain ⟨u, h1, h2⟩ := h.2 j y q
    exact ⟨u, by rw [List.getElem?_set_ne hj]; exact h1, h2⟩
/-- names may be stored, cells too -/
def StOk (X : Cx) : Prop := ∀ x, X.fn x = true
/-- the target's reading -/
def Tgt (T : Sta) (Γ : GC) (tg : Expr) (t : TG) : Prop := ∀ X, Fit T Γ X → StOk X → PG X tg t
def Tgs (T : Sta) (Γ : GC) (tgs : List Expr) (t : TGs) : Prop := ∀ X, Fit T Γ X → StOk X → PGs X tgs t
/-- σ' is σ but for the slots ix -/
def But (ix : List Nat) (σ σ' : L2.St) : Prop := σ'.length = σ.length ∧ ∀ j, j ∉ ix → σ'[j]? = σ[j]?
/-- d bound: from δ to δ', at the slots ix -/
def GB (T : Sta) (t : TG) (ix : List Nat) (d : D) (δ δ' : Env') : Prop := ∀ (g : Gw) (σ : L2.St) (v : V), EnvOk T.K g σ δ → Dt T.K g v d → ∀ Q : L2.St → Hp → Prop, (∀ σ', EnvOk T.K g σ' δ' → But ix σ σ' → Q σ' g.H) → t v σ g.H Q
def GBs (T : Sta) (t : TGs) (ix : List Nat) (ds : List D) (δ δ' : Env') : Prop := ∀ (g : Gw) (σ : L2.St) (vs : List V), EnvOk T.K g σ δ → DtL T.K g vs ds → ∀ Q : L2.St → Hp → Prop, (∀ σ', EnvOk T.K g σ' δ' → But ix σ σ' → Q σ' g.H) → t vs σ g.H Q
theorem tg_name {x : Str} {pos : Pos} (i : Nat) (hi : Γ.N[i]? = some x := by rfl) (hx : Loc Γ.sc x := by exact loc_of (by decide +kernel)) : Tgt T Γ (.Name x pos) (gName i) := fun X F hf => pg_name F.nd (by rw [F.N]; exact hi) (by rw [F.sc]; exact hx) (.inl (hf x))
theorem gb_name {d : D} {i : Nat} : GB T (gName i) [i] d δ (δ.set i (some d)) := fun g σ v E r Q q => q _ (E.set i r) ⟨List.length_set, fun j hj => List.getElem?_set_ne (fun e => hj (by simp [e]))⟩
theorem tg_nil : Tgs T Γ [] gNil := fun X F hf => pgs_nil
theorem tg_cons {tg : Expr} {tgs : List Expr} {t : TG} {u : TGs} (h : Tgt T Γ tg t) (r : Tgs T Γ tgs u) (hs : ∀ env : Env, (assignEach (tg :: tgs) env).map (·.2) = assign tg env :: (assignEach tgs env).map (·.2) := by intro _; rfl) : Tgs T Γ (tg :: tgs) (gCons t u) := fun X F hf => pgs_cons (h X F hf) (r X F hf) (hs _)
theorem gb_nil : GBs T gNil [] [] δ δ := fun g σ vs E r Q q => by
  cases r
  exact ⟨rfl, q σ E ⟨rfl, fun _ _ => rfl⟩⟩
theorem gb_cons {t : TG} {u : TGs} {ix iy : List Nat} {d : D} {ds : List D} {δ1 : Env'} (h : GB T t ix d δ δ1) (r : GBs T u iy ds δ1 δ') : GBs T (gCons t u) (ix ++ iy) (d :: ds) δ δ' := fun g σ vs E r' Q q => by
  cases r' with
  | cons r1 r2 => exact ⟨_, _, rfl, h g σ _ E r1 _ fun σ1 E1 b1 => r g σ1 _ E1 r2 Q fun σ2 E2 b2 => q σ2 E2 ⟨b2.1.trans b1.1, fun j hj => by
      rw [List.mem_append, not_or] at hj
      rw [b2.2 j hj.2, b1.2 j hj.1]⟩⟩
theorem tg_tup {tgs : List Expr} {n m : Nat} {pos : Pos} {t : TGs} (h : Tgs T Γ tgs t) (hc : Γ.c = true := by rfl) (hn : ∀ env : Env, (assignEach tgs env).length = n := by intro _; rfl) (hst : ∀ env : Env, (assignEach tgs env).findIdx? (·.1) = none := by intro _; rfl) : Tgt T Γ (.Tuple tgs m pos) (gTup T.K n t) := fun X F hf => by
  have z := pg_tup (X := X) (k := m) (pos := pos) (by rw [F.calm]; exact hc) (h X F hf) (hn _) (hst _)
  rw [F.K] at z
  exact z
theorem gb_tup {t : TGs} {ix : List Nat} {ds : List D} (h : GBs T t ix ds δ δ') : GB T (gTup T.K ds.length t) ix (.tup ds) δ δ' := fun g σ v E r Q q => by
  cases r with
  | tup hp hl => exact ⟨_, _, rfl, hp.sq, hl.len, h g σ _ E hl Q q⟩

/-! targets that are locals alone (a comprehension's) -/
def TgL (T : Sta) (Γ : GC) (tg : Expr) (t : TG) : Prop := ∀ X, Fit T Γ X → PG X tg t
def TgLs (T : Sta) (Γ : GC) (tgs : List Expr) (t : TGs) : Prop := ∀ X, Fit T Γ X → PGs X tgs t
theorem tl_name {x : Str} {pos : Pos} (i : Nat) (hi : Γ.N[i]? = some x := by rfl) (hx : Γ.sc.names.lookup x = some .local := by exact lol_of (by decide +kernel)) : TgL T Γ (.Name x pos) (gName i) := fun X F => pg_name F.nd (by rw [F.N]; exact hi) (by rw [F.sc]; exact .inl hx) (.inr (by rw [F.sc]; exact hx))
theorem tl_nil : TgLs T Γ [] gNil := fun X F => pgs_nil
theorem tl_cons {tg : Expr} {tgs : List Expr} {t : TG} {u : TGs} (h : TgL T Γ tg t) (r : TgLs T Γ tgs u) (hs : ∀ env : Env, (assignEach (tg :: tgs) env).map (·.2) = assign tg env :: (assignEach tgs env).map (·.2) := by intro _; rfl) : TgLs T Γ (tg :: tgs) (gCons t u) := fun X F => pgs_cons (h X F) (r X F) (hs _)
theorem tl_tup {tgs : List Expr} {n m : Nat} {pos : Pos} {t : TGs} (h : TgLs T Γ tgs t) (hc : Γ.c = true := by rfl) (hn : ∀ env : Env, (assignEach tgs env).length = n := by intro _; rfl) (hst : ∀ env : Env, (assignEach tgs env).findIdx? (·.1) = none := by intro _; rfl) : TgL T Γ (.Tuple tgs m pos) (gTup T.K n t) := fun X F => by
  have z := pg_tup (X := X) (k := m) (pos := pos) (by rw [F.calm]; exact hc) (h X F) (hn _) (hst _)
  rw [F.K] at z
  exact z

/-! ### assignments -/
theorem FitF.st {X : Cx} (F : FitF T Γ X) : StOk X := F.fn
theorem s_asg {tg e : Expr} {pos : Pos} {d : D} {t : TG} {ix : List Nat} (h : EV T Γ e δ L d L') (ht : Tgt T Γ tg t) (hg : GB T t ix d δ δ') (hs : ∀ env : Env, swapsWithSole [tg] e pos.line env = pure false := by intro _; rfl) (hw : ∀ env : Env, swappedStores [tg] e env = pure none := by intro _; rfl) (h1 : ∀ env : Env, (assignEach [tg] env).map (·.2) = [assign tg env] := by intro _; rfl) : S1 T Γ (.Assign [tg] e pos) δ L (.nx δ') L' := fun X F Wx tk g σ W E D q => by
  refine sby (ps_asg eself (ht X F.fit F.st) (hs _) (hw _) (h1 _)) ?_
  refine h X F.fit g σ W E _ fun v g1 e1 W1 d1 => ?_
  exact hg g1 σ v (E.ext e1) d1 D.nx fun σ' E' _ => q g1 σ' e1 W1 E'
theorem s_set {x : Str} {e : Expr} {pos pos' : Pos} {d : D} (i : Nat) (h : EV T Γ e δ L d L') (hi : Γ.N[i]? = some x := by rfl) (hx : Loc Γ.sc x := by exact loc_of (by decide +kernel)) (hs : ∀ env : Env, swapsWith e (some (.Name x pos')) pos.line env = pure false := by intro _; rfl) : S1 T Γ (.Assign [.Name x pos'] e pos) δ L (.nx (δ.set i (some d))) L' := fun X F Wx tk g σ W E D q => by
  refine sby (ps_set (i := i) F.nd (by rw [F.N]; exact hi) (by rw [F.sc]; exact hx) eself (hs _) (.inl (F.fn x))) ?_
  exact h X F.fit g σ W E _ fun v g1 e1 W1 d1 => q g1 _ e1 W1 ((E.ext e1).set i d1)
theorem s_setX {x C : Str} {e : Expr} {pos pos' : Pos} (i : Nat) (h : EX T Γ e δ L C L') (hi : Γ.N[i]? = some x := by rfl) (hx : Loc Γ.sc x := by exact loc_of (by decide +kernel)) (hs : ∀ env : Env, swapsWith e (some (.Name x pos')) pos.line env = pure false := by intro _; rfl) : S1 T Γ (.Assign [.Name x pos'] e pos) δ L (.ex C δ) L' := fun X F Wx tk g σ W E D q => by
  refine sby (ps_set (i := i) F.nd (by rw [F.N]; exact hi) (by rw [F.sc]; exact hx) eself (hs _) (.inl (F.fn x))) ?_
  exact h X F.fit Wx tk g σ W E (fun g1 e1 W1 => q g1 σ e1 W1 (E.ext e1)) _
theorem s_asgX {tg e : Expr} {pos : Pos} {C : Str} {t : TG} (h : EX T Γ e δ L C L') (ht : Tgt T Γ tg t) (hs : ∀ env : Env, swapsWithSole [tg] e pos.line env = pure false := by intro _; rfl) (hw : ∀ env : Env, swappedStores [tg] e env = pure none := by intro _; rfl) (h1 : ∀ env : Env, (assignEach [tg] env).map (·.2) = [assign tg env] := by intro _; rfl) : S1 T Γ (.Assign [tg] e pos) δ L (.ex C δ) L' := fun X F Wx tk g σ W E D q => by
  refine sby (ps_asg eself (ht X F.fit F.st) (hs _) (hw _) (h1 _)) ?_
  exact h X F.fit Wx tk g σ W E (fun g1 e1 W1 => q g1 σ e1 W1 (E.ext e1)) _
/-- x += e, two ints -/
theorem s_augI {x : Str} {e : Expr} {pos pos' : Pos} {a b : Int} {op : Operator} {f : Int → Int → Int} (i : Nat) (ho : ∀ X : Cx, PIp X op (ipI f)) (hd : δ[i]? = some (some (.int a))) (h : EV T Γ e δ L (.int b) L') (hi : Γ.N[i]? = some x := by rfl) (hx : Loc Γ.sc x := by exact loc_of (by decide +kernel)) : S1 T Γ (.AugAssign (.Name x pos') op e pos) δ L (.nx (δ.set i (some (.int (f a b))))) L' := fun X F Wx tk g σ W E D q => by
  refine sby (ps_aug (i := i) F.nd (by rw [F.N]; exact hi) (by rw [F.sc]; exact hx) eself (ho X) (.inl (F.fn x))) ?_
  obtain ⟨v, h1, h2⟩ := E.2 i _ hd
  cases h2
  refine ⟨_, h1, h X F.fit g σ W E _ fun u g1 e1 W1 d1 => ?_⟩
  cases d1
  exact ⟨a, b, rfl, rfl, q g1 _ e1 W1 ((E.ext e1).set i (.int _))⟩

/-! ### raise -/
/-- the class x is an exception of one's own -/
structure XC (T : Sta) (x : Str) : Prop where
  mg : T.mg x = some (.ref (He.ga T.K x))
  exc : PySem.W.excIn T.K (He.ga T.K x) He.veBase "ValueError.__new__" = true
  kp : PySem.W.keepIn T.K (.ref (He.ga T.K x)) = true
  sub : PySem.W.subIn T.K (.ref (He.ga T.K x)) (.type "BaseException") = some true
  ty : PySem.W.typeIn T.K (.ref (He.ga T.K x)) = some (.type "type")
theorem s_raise {x m : Str} {j : Nat} {p p2 pos pos2 : Pos} (c : XC T x) (hc : Γ.c = true := by rfl) (hg : GlS Γ.sc x := by exact gls_of (by decide +kernel)) (hdb : (x == ("__debug__" : Str)) = false := by decide +kernel) : S1 T Γ (.Raise (some (.Call (.Name x p) [.Constant (.str m) j p2] [] pos)) none pos2) δ L (.ex x δ) L := fun X F Wx tk g σ W E D q =>
  sby (ps_raise (by rw [F.calm]; exact hc) tk (pmk_own PySem.F.excBase_ValueError (by rw [F.K]; exact c.exc) (by rw [F.mg]; exact c.mg) (by rw [F.K]; exact c.kp) (raises_own (by rw [F.K]; exact c.sub) (by rw [F.K]; exact c.ty)) (F.fit.gl hg) hdb)) (q g σ (.refl g) W E)
end
end G
set_option Elab.async false
set_option linter.all false
set_option maxRecDepth 100000
set_option maxHeartbeats 4000000
/-! G7: instances, dicts, lists that change. -/
namespace G
open PySem PySem.Spec PyProof.Rows L2
section
variable {κ α : Type} [DecidableEq κ]
/-- a dict's pairs: read, put, dropped -/
def lkA (k : κ) : List (κ × α) → Option α
  | [] => none
  | (a, x) :: r => if a = k then some x else lkA k r
def putA (k : κ) (v : α) (l : List (κ × α)) : List (κ × α) := if (l.any fun p => decide (p.1 = k)) = true then l.map (fun p => if p.1 = k then (p.1, v) else p) else l ++ [(k, v)]
def delA (k : κ) (l : List (κ × α)) : List (κ × α) := l.filter fun p => decide (p.1 ≠ k)
/-- a field put -/
def fldA (f : κ) (v : α) : List (κ × α) → List (κ × α)
  | [] => [(f, v)]
  | (g, x) :: r => if g = f then (g, v) :: r else (g, x) :: fldA f v r
end
/-- a key as data -/
def kD : Key → D
  | .inl i => .int i
  | .inr x => .str x
theorem Dt.key {K : PySem.W.Frag} {g : Gw} {v : V} {k : Key} (h : Dt K g v (kD k)) : v = kV k := by
  cases k <;> cases h <;> rfl
section
variable {K : PySem.W.Frag} {g : Gw}
theorem KvR.lk {k : Key} : ∀ {kv kvs}, KvR K g kv kvs → (∀ d, lkA k kvs = some d → ∃ v, valV kv k = some v ∧ Dt K g v d) ∧ (lkA k kvs = none → valV kv k = none)
  | _, _, .nil => ⟨fun d e => (nomatch e), fun _ => rfl⟩
  | (a, v) :: r, (b, d) :: r', .cons h t => by
    have ea : a = b := h.1
    subst ea
    have ih := KvR.lk (k := k) t
    by_cases q : a = k
    · refine ⟨fun x e => ?_, fun e => ?_⟩
      · unfold lkA at e
        rw [if_pos q] at e
        cases e
        exact ⟨v, by unfold valV; rw [List.find?_cons_of_pos (by simp [q])]; rfl, h.2⟩
      · unfold lkA at e
        rw [if_pos q] at e
        cases e
    · have z : valV ((a, v) :: r) k = valV r k := by unfold valV; rw [List.find?_cons_of_neg (by simp [q])]
      have y : lkA k ((a, d) :: r') = lkA k r' := by
        show (if a = k then some d else lkA k r') = _
        rw [if_neg q]
      rw [z, y]
      exact ih
theorem KvR.any {k : Key} : ∀ {kv kvs}, KvR K g kv kvs → (kv.any fun p => decide (p.1 = k)) = kvs.any fun p => decide (p.1 = k)
  | _, _, .nil => rfl
  | (a, v) :: r, (b, d) :: r', .cons h t => by
    have ea : a = b := h.1
    subst ea
    simp only [List.any_cons, KvR.any t]
theorem KvR.mapp {k : Key} {v : V} {d : D} (x : Dt K g v d) : ∀ {kv kvs}, KvR K g kv kvs → KvR K g (kv.map fun p => if p.1 = k then (p.1, v) else p) (kvs.map fun p => if p.1 = k then (p.1, d) else p)
  | _, _, .nil => .nil
  | (a, w) :: r, (b, e) :: r', .cons h t => by
    have ea : a = b := h.1
    subst ea
    refine .cons ?_ (KvR.mapp x t)
    by_cases q : a = k
    · have e1 : (fun p : Key × V => if p.1 = k then (p.1, v) else p) (a, w) = (a, v) := if_pos q
      have e2 : (fun p : Key × D => if p.1 = k then (p.1, d) else p) (a, e) = (a, d) := if_pos q
      rw [e1, e2]
      exact ⟨rfl, x⟩
    · have e1 : (fun p : Key × V => if p.1 = k then (p.1, v) else p) (a, w) = (a, w) := if_neg q
      have e2 : (fun p : Key × D => if p.1 = k then (p.1, d) else p) (a, e) = (a, e) := if_neg q
      rw [e1, e2]
      exact h
theorem KvR.app : ∀ {kv kvs kv2 kvs2}, KvR K g kv kvs → KvR K g kv2 kvs2 → KvR K g (kv ++ kv2) (kvs ++ kvs2)
  | _, _, _, _, .nil, s => s
  | _, _, _, _, .cons h t, s => .cons h (KvR.app t s)
theorem KvR.put {k : Key} {v : V} {d : D} {kv kvs} (x : Dt K g v d) (h : KvR K g kv kvs) : KvR K g (putK kv k v) (putA k d kvs) := by
  unfold putK putA
  rw [h.any]
  by_cases q : (kvs.any fun p => decide (p.1 = k)) = true
  · rw [if_pos q, if_pos q]
    exact h.mapp x
  · rw [if_neg q, if_neg q]
    exact h.app (.cons ⟨rfl, x⟩ .nil)
theorem KvR.del {k : Key} : ∀ {kv kvs}, KvR K g kv kvs → KvR K g (dropK kv k) (delA k kvs)
  | _, _, .nil => .nil
  | (a, w) :: r, (b, e) :: r', .cons h t => by
    have ea : a = b := h.1
    subst ea
    have ih := KvR.del (k := k) t
    unfold dropK delA at ih ⊢
    by_cases q : a = k
    · rw [List.filter_cons, List.filter_cons, if_neg (by simp [q]), if_neg (by simp [q])]
      exact ih
    · rw [List.filter_cons, List.filter_cons, if_pos (by simp [q]), if_pos (by simp [q])]
      exact .cons h ih
theorem KvR.len : ∀ {kv kvs}, KvR K g kv kvs → kv.length = kvs.length
  | _, _, .nil => rfl
  | _, _, .cons _ t => congrArg Nat.succ (KvR.len t)
theorem KvR.keys : ∀ {kv kvs}, KvR K g kv kvs → kv.map (·.1) = kvs.map (·.1)
  | _, _, .nil => rfl
  | _, _, .cons h t => by
    rw [List.map_cons, List.map_cons, KvR.keys t, h.1]
theorem FldR.lk {f : Str} {d : D} : ∀ {fv fs}, FldR K g fv fs → fs.lookup f = some d → ∃ v, fv.lookup f = some v ∧ Dt K g v d
  | _, _, .nil, e => nomatch e
  | (a, v) :: r, (b, x) :: r', .cons h t, e => by
    have ea : a = b := h.1
    subst ea
    rw [List.lookup_cons] at e ⊢
    cases q : (f == a) with
    | true =>
      rw [q] at e
      cases e
      exact ⟨v, rfl, h.2⟩
    | false =>
      rw [q] at e
      exact FldR.lk t e
theorem FldR.put {f : Str} {v : V} {d : D} (x : Dt K g v d) : ∀ {fv fs}, FldR K g fv fs → FldR K g (putF f v fv) (fldA f d fs)
  | _, _, .nil => .cons ⟨rfl, x⟩ .nil
  | (a, w) :: r, (b, y) :: r', .cons h t => by
    have ea : a = b := h.1
    subst ea
    show FldR K g (if a = f then (a, v) :: r else (a, w) :: putF f v r) (if a = f then (a, d) :: r' else (a, y) :: fldA f d r')
    by_cases q : a = f
    · rw [if_pos q, if_pos q]
      exact .cons ⟨rfl, x⟩ t
    · rw [if_neg q, if_neg q]
      exact .cons h (FldR.put x t)
theorem FldR.len : ∀ {fv fs}, FldR K g fv fs → fv.length = fs.length
  | _, _, .nil => rfl
  | _, _, .cons _ t => congrArg Nat.succ (FldR.len t)
end
/-- f is a plain attribute of C's instances -/
structure FldOk (T : Sta) (C f : Str) : Prop where
  cls : Cls T.K (He.ga T.K C)
  no : NoAttr T.K (He.ga T.K C) f
section
variable {T : Sta} {Γ : GC} {δ δ' : Env'} {L M1 M2 M3 L' : Store}
theorem Wo.ins {g : Gw} (W : Wo T.K g L) {k : Nat} {C : Str} {fs} (h : L[k]? = some (.ins C fs)) : g.own (g.ι k) = .cell k ∧ ∃ dx fv, g.H (g.ι k) = some (.ins (He.ga T.K C) dx fv) ∧ FldR T.K g fv fs := W.at_ k _ h
theorem Wo.dict {g : Gw} (W : Wo T.K g L) {k : Nat} {kvs} (h : L[k]? = some (.dict kvs)) : g.own (g.ι k) = .cell k ∧ ∃ kv, g.H (g.ι k) = some (.dK kv) ∧ KvR T.K g kv kvs := W.at_ k _ h
theorem Wo.list {g : Gw} (W : Wo T.K g L) {k : Nat} {ds} (h : L[k]? = some (.list ds)) : g.own (g.ι k) = .cell k ∧ ∃ xs, g.H (g.ι k) = some (.lst xs) ∧ DtL T.K g xs ds := W.at_ k _ h
/-- a dict that is read: as it is, or while it is walked -/
def RdDict (L : Store) (k : Nat) (kvs : List (Key × D)) : Prop := L[k]? = some (.dict kvs) ∨ L[k]? = some (.lock kvs)
theorem RdDict.at {g : Gw} (W : Wo T.K g L) {k : Nat} {kvs} (h : RdDict L k kvs) : ∃ kv, Rd g.H (g.ι k) (.dK kv) ∧ KvR T.K g kv kvs := by
  rcases h with h | h
  · obtain ⟨_, kv, h1, h2⟩ := W.dict h
    exact ⟨kv, .inl h1, h2⟩
  · obtain ⟨_, o, kv, h1, h2⟩ := (show CellOk T.K g k (.lock kvs) from W.at_ k _ h)
    exact ⟨kv, .inr ⟨o, h1⟩, h2⟩
/-! ### fields -/
theorem ev_fld {o : Expr} {f C : Str} {pos : Pos} {k : Nat} {fs : List (Str × D)} {d : D} (ho : EV T Γ o δ L (.ref k) M1) (hk : M1[k]? = some (.ins C fs)) (hf : fs.lookup f = some d) (c : FldOk T C f) (hb : ∀ env : Env, attributeBase o f env (eval o env) = eval o env := by intro _; rfl) : EV T Γ (.Attribute o f pos) δ L d M1 := fun X F g σ W E Q q => by
  refine eby (pe_fld eself (hb _)) ?_
  refine ho X F g σ W E _ fun v g1 e1 W1 d1 => ?_
  cases d1
  obtain ⟨_, dx, fv, h1, h2⟩ := W1.ins hk
  obtain ⟨v, h3, h4⟩ := h2.lk hf
  exact ⟨_, _, dx, fv, v, rfl, h1, by rw [F.K]; exact c.cls, by rw [F.K]; exact c.no, h3, q v g1 e1 W1 h4⟩
theorem s_fld {o v : Expr} {f C : Str} {pos pos' : Pos} {k : Nat} {fs : List (Str × D)} {d : D} (hv : EV T Γ v δ L d M1) (ho : EV T Γ o δ M1 (.ref k) M2) (hk : M2[k]? = some (.ins C fs)) (c : FldOk T C f) (hl : fs.length < 1000 := by decide) (hs : ∀ env : Env, swapsWith v (some (.Attribute o f pos')) pos.line env = pure false := by intro _; rfl) :
    S1 T Γ (.Assign [.Attribute o f pos'] v pos) δ L (.nx δ) (M2.set k (.ins C (fldA f d fs))) := fun X F Wx tk g σ W E D q => by
  refine sby (ps_fld eself eself (hs _)) ?_
  refine hv X F.fit g σ W E _ fun u g1 e1 W1 d1 => ?_
  refine ho X F.fit g1 σ W1 (E.ext e1) _ fun x g2 e2 W2 d2 => ?_
  cases d2
  obtain ⟨w, dx, fv, h1, h2⟩ := W2.ins hk
  refine ⟨_, _, dx, fv, rfl, h1, by rw [F.K]; exact c.cls, by rw [F.K]; exact c.no, by rw [h2.len]; exact hl, ?_⟩
  have e3 := put_ext (o := HO.ins (He.ga T.K C) dx (putF f u fv)) w
  exact q (g2.put k _) σ ((e1.trans e2).trans e3) (W2.put hk w ⟨w, dx, _, upd_same, (h2.ext e3).put ((d1.ext e2).ext e3)⟩) (((E.ext e1).ext e2).ext e3)
theorem s_fldX {o v : Expr} {f C' : Str} {pos pos' : Pos} (hv : EX T Γ v δ L C' M1) (hs : ∀ env : Env, swapsWith v (some (.Attribute o f pos')) pos.line env = pure false := by intro _; rfl) :
    S1 T Γ (.Assign [.Attribute o f pos'] v pos) δ L (.ex C' δ) M1 := fun X F Wx tk g σ W E D q => by
  refine sby (ps_fld eself eself (hs _)) ?_
  exact hv X F.fit Wx tk g σ W E (fun g1 e1 W1 => q g1 σ e1 W1 (E.ext e1)) _
/-- o.f += v, o.f -= v of ints -/
theorem s_fldaug {o v : Expr} {f C : Str} {op : Operator} {h : Int → Int → Int} {pos pos' : Pos} {k : Nat} {fs : List (Str × D)} {a b : Int} (hop : ∀ X : Cx, InOp X op (rI0 fun i j => .int (h i j))) (ho : EV T Γ o δ L (.ref k) M1) (hk : M1[k]? = some (.ins C fs)) (hf : fs.lookup f = some (.int a)) (hv : EV T Γ v δ M1 (.int b) M1) (c : FldOk T C f) (hl : fs.length < 1000 := by decide) :
    S1 T Γ (.AugAssign (.Attribute o f pos') op v pos) δ L (.nx δ) (M1.set k (.ins C (fldA f (.int (h a b)) fs))) := fun X F Wx tk g σ W E D q => by
  refine sby (ps_fldaug eself eself (hop X)) ?_
  refine ho X F.fit g σ W E _ fun u g1 e1 W1 d1 => ?_
  cases d1
  obtain ⟨w, dx, fv, h1, h2⟩ := W1.ins hk
  obtain ⟨x, h3, h4⟩ := h2.lk hf
  cases h4
  refine ⟨_, _, dx, fv, _, rfl, h1, by rw [F.K]; exact c.cls, by rw [F.K]; exact c.no, h3, ?_⟩
  refine hv X F.fit g1 σ W1 (E.ext e1) _ fun y g2 e2 W2 d2 => ?_
  cases d2
  obtain ⟨w2, dx2, fv2, h5, h6⟩ := W2.ins hk
  have ei : g2.ι k = g1.ι k := e2.ι k (W1.lt hk)
  refine ⟨a, b, rfl, rfl, dx2, fv2, by rw [← ei]; exact h5, by rw [h6.len]; exact hl, ?_⟩
  have e3 := put_ext (o := HO.ins (He.ga T.K C) dx2 (putF f (.int (h a b)) fv2)) w2
  have z := q (g2.put k _) σ ((e1.trans e2).trans e3) (W2.put hk w2 ⟨w2, dx2, _, upd_same, (h6.ext e3).put (.int _)⟩) (((E.ext e1).ext e2).ext e3)
  rw [← ei]
  exact z

/-! ### dicts -/
theorem ev_dget {o i : Expr} {pos : Pos} {k : Nat} {kvs} {y : Key} {d : D} (ho : EV T Γ o δ L (.ref k) M1) (hi : EV T Γ i δ M1 (kD y) M2) (hk : RdDict M2 k kvs) (hl : lkA y kvs = some d) (hc : Γ.c = true := by rfl) (hs : NoSl i := by intro _ _; rfl) : EV T Γ (.Subscript o i pos) δ L d M2 := fun X F g σ W E Q q => by
  refine eby (pe_dget (hu_of (F.room hc)) eself eself hs) ?_
  refine ho X F g σ W E _ fun v g1 e1 W1 d1 => ?_
  refine hi X F g1 σ W1 (E.ext e1) _ fun u g2 e2 W2 d2 => ?_
  have d1' := d1.ext e2
  cases d1'
  obtain ⟨kv, h1, h2⟩ := hk.at W2
  obtain ⟨w, h3, h4⟩ := h2.lk.1 d hl
  exact ⟨_, w, rfl, .inl ⟨kv, y, h1, d2.key, h3.symm⟩, q w g2 (e1.trans e2) W2 h4⟩
theorem lk_isSome {g : Gw} {kv kvs} {y : Key} (h : KvR T.K g kv kvs) : (valV kv y).isSome = (lkA y kvs).isSome := by
  cases e : lkA y kvs with
  | none => rw [h.lk.2 e]; rfl
  | some d =>
    obtain ⟨v, h1, _⟩ := h.lk.1 d e
    rw [h1]
    rfl
theorem ev_din {o i : Expr} {pos : Pos} {k : Nat} {kvs} {y : Key} (hi : EV T Γ i δ L (kD y) M1) (ho : EV T Γ o δ M1 (.ref k) M2) (hk : RdDict M2 k kvs) (hc : Γ.c = true := by rfl) (hm : behindInMarks .In o = false := by rfl) : EV T Γ (.Compare i [.In] [o] pos) δ L (.bl (lkA y kvs).isSome) M2 := fun X F g σ W E Q q => by
  refine eby (pe_cmp (pc_din (hu_of (F.room hc)) eself eself) hm) ?_
  refine hi X F g σ W E _ fun v g1 e1 W1 d1 => ?_
  refine ho X F g1 σ W1 (E.ext e1) _ fun u g2 e2 W2 d2 => ?_
  cases d2
  obtain ⟨kv, h1, h2⟩ := hk.at W2
  have z := lk_isSome (T := T) (y := y) h2
  refine ⟨_, valV kv y, rfl, .inl ⟨kv, y, h1, d1.key, rfl⟩, ?_⟩
  rw [z]
  exact q _ g2 (e1.trans e2) W2 (.bl _)
theorem ev_dnin {o i : Expr} {pos : Pos} {k : Nat} {kvs} {y : Key} (hi : EV T Γ i δ L (kD y) M1) (ho : EV T Γ o δ M1 (.ref k) M2) (hk : RdDict M2 k kvs) (hc : Γ.c = true := by rfl) (hm : behindInMarks .NotIn o = false := by rfl) : EV T Γ (.Compare i [.NotIn] [o] pos) δ L (.bl (!(lkA y kvs).isSome)) M2 := fun X F g σ W E Q q => by
  refine eby (pe_cmp (pc_dnotin (hu_of (F.room hc)) eself eself) hm) ?_
  refine hi X F g σ W E _ fun v g1 e1 W1 d1 => ?_
  refine ho X F g1 σ W1 (E.ext e1) _ fun u g2 e2 W2 d2 => ?_
  cases d2
  obtain ⟨kv, h1, h2⟩ := hk.at W2
  have z := lk_isSome (T := T) (y := y) h2
  refine ⟨_, valV kv y, rfl, .inl ⟨kv, y, h1, d1.key, rfl⟩, ?_⟩
  rw [z]
  exact q _ g2 (e1.trans e2) W2 (.bl _)
theorem s_dput {o i v : Expr} {pos pos' : Pos} {k : Nat} {kvs} {y : Key} {d : D} (hv : EV T Γ v δ L d M1) (ho : EV T Γ o δ M1 (.ref k) M2) (hi : EV T Γ i δ M2 (kD y) M3) (hk : M3[k]? = some (.dict kvs)) (hl : kvs.length < sizeLine) (hc : Γ.c = true := by rfl)
    (hs : ∀ env : Env, swapsWith v (some (.Subscript o i pos')) pos.line env = pure false := by intro _; rfl) : S1 T Γ (.Assign [.Subscript o i pos'] v pos) δ L (.nx δ) (M3.set k (.dict (putA y d kvs))) := fun X F Wx tk g σ W E D q => by
  refine sby (ps_dput (hu_of (F.room hc)) eself eself eself (hs _)) ?_
  refine hv X F.fit g σ W E _ fun u g1 e1 W1 d1 => ?_
  refine ho X F.fit g1 σ W1 (E.ext e1) _ fun x g2 e2 W2 d2 => ?_
  refine hi X F.fit g2 σ W2 ((E.ext e1).ext e2) _ fun z g3 e3 W3 d3 => ?_
  have d2' := d2.ext e3
  cases d2'
  obtain ⟨w, kv, h1, h2⟩ := W3.dict hk
  refine ⟨_, _, rfl, .inl ⟨kv, y, h1, d3.key, by rw [h2.len]; exact hl, rfl⟩, ?_⟩
  have e4 := put_ext (o := HO.dK (putK kv y u)) w
  exact q (g3.put k _) σ (((e1.trans e2).trans e3).trans e4) (W3.put hk w ⟨w, _, upd_same, (h2.ext e4).put (((d1.ext e2).ext e3).ext e4)⟩) ((((E.ext e1).ext e2).ext e3).ext e4)
/-- d[k] += e of ints -/
theorem s_daug {o i v : Expr} {op : Operator} {h : Int → Int → Int} {pos pos' : Pos} {k : Nat} {kvs} {y : Key} {a b : Int} (hop : ∀ X : Cx, InOp X op (rI0 fun i j => .int (h i j))) (ho : EV T Γ o δ L (.ref k) M1) (hi : EV T Γ i δ M1 (kD y) M2) (hk : M2[k]? = some (.dict kvs)) (hg : lkA y kvs = some (.int a)) (hv : EV T Γ v δ M2 (.int b) M2) (hl : kvs.length < sizeLine) (hc : Γ.c = true := by rfl)
    (ha : ∀ ov iv new, augStore i ov iv new = (do holding [new, ov, iv] (setItem ov iv new); release [new, ov, iv] []; pure .next) := by intro _ _ _; rfl) : S1 T Γ (.AugAssign (.Subscript o i pos') op v pos) δ L (.nx δ) (M2.set k (.dict (putA y (.int (h a b)) kvs))) := fun X F Wx tk g σ W E D q => by
  refine sby (ps_daug (hu_of (F.room hc)) eself eself eself (hop X) ha) ?_
  refine ho X F.fit g σ W E _ fun u g1 e1 W1 d1 => ?_
  refine hi X F.fit g1 σ W1 (E.ext e1) _ fun x g2 e2 W2 d2 => ?_
  have d1' := d1.ext e2
  cases d1'
  obtain ⟨w, kv, h1, h2⟩ := W2.dict hk
  obtain ⟨z, h3, h4⟩ := h2.lk.1 _ hg
  cases h4
  refine ⟨_, _, rfl, .inl ⟨kv, y, .inl h1, d2.key, h3.symm⟩, ?_⟩
  refine hv X F.fit g2 σ W2 ((E.ext e1).ext e2) _ fun t g3 e3 W3 d3 => ?_
  cases d3
  obtain ⟨w3, kv3, h5, h6⟩ := W3.dict hk
  have ei : g3.ι k = g2.ι k := e3.ι k (W2.lt hk)
  refine ⟨a, b, rfl, rfl, _, .inl ⟨kv3, y, by rw [← ei]; exact h5, d2.key, by rw [h6.len]; exact hl, rfl⟩, ?_⟩
  have e4 := put_ext (o := HO.dK (putK kv3 y (.int (h a b)))) w3
  have z := q (g3.put k _) σ (((e1.trans e2).trans e3).trans e4) (W3.put hk w3 ⟨w3, _, upd_same, (h6.ext e4).put (.int _)⟩) ((((E.ext e1).ext e2).ext e3).ext e4)
  rw [← ei]
  exact z
/-- d.pop(k), the key there -/
theorem ev_dpop {o i : Expr} {apos pos : Pos} {k : Nat} {kvs} {y : Key} {d : D} (ho : EV T Γ o δ L (.ref k) M1) (hk1 : ∃ kvs, M1[k]? = some (.dict kvs)) (hi : EV T Γ i δ M1 (kD y) M2) (hk : M2[k]? = some (.dict kvs)) (hl : lkA y kvs = some d) (m : ∀ X : Cx, L2.M1 X o "pop" apos i pos) : EV T Γ (.Call (.Attribute o "pop" apos) [i] [] pos) δ L d (M2.set k (.dict (delA y kvs))) := fun X F g σ W E Q q => by
  refine eby (pe_dpop1 eself eself (m X)) ?_
  refine ho X F g σ W E _ fun v g1 e1 W1 d1 => ?_
  have hn : k < g1.n := by cases d1; assumption
  have ev : v = .ref (g1.ι k) := by cases d1; rfl
  obtain ⟨kvs1, hk1⟩ := hk1
  obtain ⟨_, kv1, x1, _⟩ := W1.dict hk1
  refine ⟨_, ev, .inl ⟨kv1, .inl x1⟩, ?_⟩
  refine hi X F g1 σ W1 (E.ext e1) _ fun u g2 e2 W2 d2 => ?_
  obtain ⟨w, kv, h1, h2⟩ := W2.dict hk
  obtain ⟨z, h3, h4⟩ := h2.lk.1 d hl
  have ei : g2.ι k = g1.ι k := e2.ι k hn
  refine ⟨kv, y, z, by rw [← ei]; exact h1, d2.key, h3, ?_⟩
  have e3 := put_ext (o := HO.dK (dropK kv y)) w
  have r := q z (g2.put k _) ((e1.trans e2).trans e3) (W2.put hk w ⟨w, _, upd_same, (h2.ext e3).del⟩) (h4.ext e3)
  rw [← ei]
  exact r
end
end G
set_option Elab.async false
set_option linter.all false
set_option maxRecDepth 100000
set_option maxHeartbeats 4000000
/-! G8: what is walked; for, while; comprehensions. -/
namespace G
open PySem PySem.Spec PyProof.Rows L2
/-- J walks items, where P is true of the store -/
structure ItOk (K : PySem.W.Frag) (J : It) (P : Store → Prop) (items : List D) (g1 : Gw) : Prop where
  go : ∀ g L i, Ext g1 g → Wo K g L → P L → i < items.length → J.go i g.H
  yld : ∀ g L i x H' d, Ext g1 g → Wo K g L → P L → items[i]? = some d → J.yld i g.H x H' → ∃ g' : Gw, g'.H = H' ∧ Ext g g' ∧ Wo K g' L ∧ Dt K g' x d
  stop : ∀ g L i, Ext g1 g → Wo K g L → P L → items.length ≤ i → J.stop i g.H
def IV (T : Sta) (Γ : GC) (tg iter : Expr) (δ : Env') (L : Store) (P : Store → Prop) (items : List D) (M1 : Store) : Prop := ∀ X, Fit T Γ X → ∃ wi : TI, PI X tg iter wi ∧ ∀ (g : Gw) (σ : L2.St), Wo T.K g L → EnvOk T.K g σ δ → ∀ R : It → Hp → Prop, (∀ J g1, Ext g g1 → Wo T.K g1 M1 → ItOk T.K J P items g1 → R J g1.H) → wi σ g.H R
section
variable {T : Sta} {Γ : GC} {δ δ' : Env'} {L M1 M2 M3 L' : Store}
theorem itl_ok {a : Addr} {xs : List V} {ds : List D} {P : Store → Prop} {g1 : Gw} (h : ∀ g L, Ext g1 g → Wo T.K g L → P L → ∃ xs', SqL T.K g.H a xs' ∧ DtL T.K g xs' ds) : ItOk T.K (Itl T.K a) P ds g1 where
  go := fun g L i e W p hi => by
    obtain ⟨xs', h1, h2⟩ := h g L e W p
    have hl : i < xs'.length := by rw [h2.len]; exact hi
    exact ⟨xs', xs'[i], h1, List.getElem?_eq_getElem hl⟩
  yld := fun g L i x H' d e W p hd ⟨q1, q2⟩ => by
    obtain ⟨xs', h1, h2⟩ := h g L e W p
    subst q1
    obtain ⟨v, h3, h4⟩ := h2.get hd
    have z := q2 xs' h1
    rw [h3] at z
    cases z
    exact ⟨g, rfl, .refl g, W, h4⟩
  stop := fun g L i e W p hi => by
    obtain ⟨xs', h1, h2⟩ := h g L e W p
    exact ⟨xs', h1, by rw [h2.len]; exact hi⟩
theorem iv_lst {tg e : Expr} {ds : List D} (h : EV T Γ e δ L (.lst ds) M1) : IV T Γ tg e δ L (fun _ => True) ds M1 := fun X F => ⟨_, pi_list eself, fun g σ W E R r => h X F g σ W E _ fun v g1 e1 W1 d1 => by
  cases d1 with
  | lst hp hl => exact ⟨_, rfl, ⟨_, by rw [F.K]; exact hp.sq⟩, by
      rw [F.K]
      exact r _ g1 e1 W1 (itl_ok (xs := []) fun g2 L2 e2 W2 _ => ⟨_, (hp.ext e2).sq, hl.ext e2⟩)⟩⟩
theorem iv_scr {tg e : Expr} {ns : List Int} (h : EV T Γ e δ L (.scr ns) M1) : IV T Γ tg e δ L (fun _ => True) (ns.map D.int) M1 := fun X F => ⟨_, pi_list eself, fun g σ W E R r => h X F g σ W E _ fun v g1 e1 W1 d1 => by
  cases d1 with
  | scr hp => exact ⟨_, rfl, ⟨_, by rw [F.K]; exact hp.sq⟩, by
      rw [F.K]
      exact r _ g1 e1 W1 (itl_ok (xs := []) fun g2 L2 e2 W2 _ => ⟨_, (hp.ext e2).sq, DtL.ints _⟩)⟩⟩
theorem iv_cell {tg e : Expr} {k : Nat} {ds : List D} (h : EV T Γ e δ L (.ref k) M1) (hk : M1[k]? = some (.list ds)) : IV T Γ tg e δ L (fun L => L[k]? = some (.list ds)) ds M1 := fun X F => ⟨_, pi_list eself, fun g σ W E R r => h X F g σ W E _ fun v g1 e1 W1 d1 => by
  cases d1 with
  | ref hn =>
    obtain ⟨_, xs, h1, h2⟩ := W1.list hk
    exact ⟨_, rfl, ⟨xs, .inl (.inl h1)⟩, by
      rw [F.K]
      exact r _ g1 e1 W1 (itl_ok (xs := []) fun g2 L2 e2 W2 p => by
        obtain ⟨_, ys, h3, h4⟩ := W2.list p
        rw [e2.ι k hn] at h3
        exact ⟨ys, .inl (.inl h3), h4⟩)⟩⟩
theorem iv_tup {tg e : Expr} {ds : List D} (h : EV T Γ e δ L (.tup ds) M1) : IV T Γ tg e δ L (fun _ => True) ds M1 := fun X F => ⟨_, pi_tup eself, fun g σ W E R r => h X F g σ W E _ fun v g1 e1 W1 d1 => by
  cases d1 with
  | @tup a xs _ hp hl => exact ⟨_, rfl, ⟨_, by rw [F.K]; exact hp.sq⟩, by
      rw [F.K]
      refine r _ g1 e1 W1 ⟨fun g L i e W p hi => ?_, fun g L i x H' d e W p hd q => ?_, fun g L i e W p hi => ?_⟩
      · have hl' : i < xs.length := by rw [hl.len]; exact hi
        exact ⟨xs, xs[i], (hp.ext e).sq, List.getElem?_eq_getElem hl'⟩
      · obtain ⟨q1, q2⟩ := q
        subst q1
        obtain ⟨v, h3, h4⟩ := (hl.ext e).get hd
        have z := q2 xs (hp.ext e).sq
        rw [h3] at z
        cases z
        exact ⟨g, rfl, .refl g, W, h4⟩
      · exact ⟨xs, (hp.ext e).sq, by rw [hl.len]; exact hi⟩⟩⟩
def rngD (lo : Int) (n : Nat) : List D := (List.range n).map fun i : Nat => .int (lo + (i : Int))
theorem itr_ok {lo : Int} {n : Nat} {g1 : Gw} : ItOk T.K (Itr lo n) (fun _ => True) (rngD lo n) g1 where
  go := fun g L i e W p hi => by
    unfold rngD at hi
    rw [List.length_map, List.length_range] at hi
    exact hi
  yld := fun g L i x H' d e W p hd q => by
    obtain ⟨q1, q2⟩ := q
    subst q1 q2
    unfold rngD at hd
    rw [List.getElem?_map] at hd
    cases h : (List.range n)[i]? with
    | none => rw [h] at hd; cases hd
    | some j =>
      rw [h] at hd
      cases hd
      have ej : j = i := by
        obtain ⟨_, z⟩ := List.getElem?_eq_some_iff.mp h
        rw [List.getElem_range] at z
        exact z.symm
      subst ej
      exact ⟨g, rfl, .refl g, W, .int _⟩
  stop := fun g L i e W p hi => by
    unfold rngD at hi
    rw [List.length_map, List.length_range] at hi
    exact hi
theorem iv_range1 {tg a : Expr} {p pos : Pos} {n : Int} (h : EV T Γ a δ L (.int n) M1) (hm : T.mg "range" = none) (h1 : -(2 ^ 62) ≤ n) (h2 : n < 2 ^ 62) (hg : GlS Γ.sc "range" := by exact gls_of (by decide +kernel)) (hs : ∀ env : Env, starEach [a] env = [(false, eval a env)] := by intro _; exact star_one rfl) : IV T Γ tg (.Call (.Name "range" p) [a] [] pos) δ L (fun _ => True) (rngD 0 n.toNat) M1 := fun X F =>
  ⟨_, pi_range1 (F.gl hg) (by rw [F.mg]; exact hm) (pa_cons eself pa_nil (hs _)) (hs _), fun g σ W E R r => h X F g σ W E _ fun v g1 e1 W1 d1 => by
    cases d1
    exact ⟨n, rfl, h1, h2, r _ g1 e1 W1 itr_ok⟩⟩
theorem iv_range2 {tg a b : Expr} {p pos : Pos} {n m : Int} (h : EV T Γ a δ L (.int n) M1) (h' : EV T Γ b δ M1 (.int m) M2) (hm : T.mg "range" = none) (h1 : -(2 ^ 62) ≤ n ∧ n < 2 ^ 62 ∧ -(2 ^ 62) ≤ m ∧ m < 2 ^ 62) (hg : GlS Γ.sc "range" := by exact gls_of (by decide +kernel)) (hs : ∀ env : Env, starEach [a, b] env = [(false, eval a env), (false, eval b env)] := by intro _; rfl) (hs2 : ∀ env : Env, starEach [b] env = [(false, eval b env)] := by intro _; exact star_one rfl) : IV T Γ tg (.Call (.Name "range" p) [a, b] [] pos) δ L (fun _ => True) (rngD n (m - n).toNat) M2 := fun X F =>
  ⟨_, pi_range2 (F.gl hg) (by rw [F.mg]; exact hm) (pa_cons eself (pa_cons eself pa_nil (hs2 _)) (by rw [hs, hs2])) (hs _) (hs2 _), fun g σ W E R r => h X F g σ W E _ fun v g1 e1 W1 d1 => h' X F g1 σ W1 (E.ext e1) _ fun u g2 e2 W2 d2 => by
    cases d1
    cases d2
    exact ⟨n, m, rfl, h1, r _ g2 (e1.trans e2) W2 itr_ok⟩⟩
end
/-! ### for -/
inductive FV (T : Sta) (Γ : GC) (t : TG) (body : List Stmt) (P : Store → Prop) : List D → Env' → Store → Oc → Store → Prop
  | nil {a : Env'} {S : Store} : FV T Γ t body P [] a S (.nx a) S
  | step {d : D} {ds : List D} {ix : List Nat} {a a1 a2 : Env'} {S S1 S' : Store} {o : Oc} (b : GB T t ix d a a1) (s : SV T Γ body a1 S (.nx a2) S1) (p : P S1) (r : FV T Γ t body P ds a2 S1 o S') : FV T Γ t body P (d :: ds) a S o S'
  | cont {d : D} {ds : List D} {ix : List Nat} {a a1 a2 : Env'} {S S1 S' : Store} {o : Oc} (b : GB T t ix d a a1) (s : SV T Γ body a1 S (.ct a2) S1) (p : P S1) (r : FV T Γ t body P ds a2 S1 o S') : FV T Γ t body P (d :: ds) a S o S'
  | ret {d : D} {ds : List D} {ix : List Nat} {a a1 : Env'} {y : D} {S S1 : Store} (b : GB T t ix d a a1) (s : SV T Γ body a1 S (.rt y) S1) : FV T Γ t body P (d :: ds) a S (.rt y) S1
  | exc {d : D} {ds : List D} {ix : List Nat} {a a1 a2 : Env'} {C : Str} {S S1 : Store} (b : GB T t ix d a a1) (s : SV T Γ body a1 S (.ex C a2) S1) : FV T Γ t body P (d :: ds) a S (.ex C a2) S1
  | brk {d : D} {ds : List D} {ix : List Nat} {a a1 a2 : Env'} {S S1 : Store} (b : GB T t ix d a a1) (s : SV T Γ body a1 S (.bk a2) S1) : FV T Γ t body P (d :: ds) a S (.nx a2) S1
section
variable {T : Sta} {Γ : GC} {δ δ' : Env'} {L M1 M2 M3 L' : Store}
theorem s_for {tg iter : Expr} {body : List Stmt} {pos : Pos} {t : TG} {P : Store → Prop} {items : List D} {o : Oc} (hi : IV T Γ tg iter δ L P items M1) (hP : P M1) (ht : Tgt T Γ tg t) (hf : FV T Γ t body P items δ M1 o L') (hc : Γ.c = true := by rfl)
    (hs : ∀ (env : Env) x, foldedSetIterable iter env x = pure x := by intro _ _; rfl) : S1 T Γ (.For tg iter body [] pos) δ L o L' := fun X F Wx tk g σ W E Dn q => by
  obtain ⟨wi, hpi, hw⟩ := hi X F.fit
  refine sby (ps_for F.po (by rw [F.calm]; exact hc) hpi (ht X F.fit F.st) bself (hs _)) ?_
  refine hw g σ W E _ fun J g1 e1 W1 ok => ?_
  refine ⟨fun i m σ' H' => ∃ (g' : Gw) (δ' : Env') (L₁ : Store) (rest : List D), g'.H = H' ∧ Ext g1 g' ∧ Wo T.K g' L₁ ∧ EnvOk T.K g' σ' δ' ∧ P L₁ ∧ items.drop i = rest ∧ m = rest.length ∧ FV T Γ t body P rest δ' L₁ o L',
    ⟨_, g1, δ, M1, items, rfl, .refl g1, W1, E.ext e1, hP, rfl, rfl, hf⟩, ?_⟩
  rintro i m σ' H' ⟨g', δ', L₁, rest, rfl, e', W', E', p', hr, rfl, fv⟩
  have qx : PostS T.K Dn Wx g' o L' := (q.ext e1).ext e'
  have at_ : ∀ {d ds}, rest = d :: ds → i < items.length ∧ items[i]? = some d ∧ items.drop (i + 1) = ds := fun {d ds} er => by
    rw [er] at hr
    have hl : i < items.length := by
      rcases Nat.lt_or_ge i items.length with h | h
      · exact h
      · rw [List.drop_eq_nil_of_le h] at hr; cases hr
    rw [List.drop_eq_getElem_cons hl] at hr
    injection hr with h1 h2
    exact ⟨hl, by rw [List.getElem?_eq_getElem hl, h1], h2⟩
  have nxt : ∀ {d ds δ2 M} , rest = d :: ds → P M → FV T Γ t body P ds δ2 M o L' → ∀ g3 σ3, Ext g' g3 → Wo T.K g3 M → EnvOk T.K g3 σ3 δ2 →
      ∃ m', m' < rest.length ∧ ∃ (g'' : Gw) (δ'' : Env') (L₂ : Store) (rest' : List D), g''.H = g3.H ∧ Ext g1 g'' ∧ Wo T.K g'' L₂ ∧ EnvOk T.K g'' σ3 δ'' ∧ P L₂ ∧ items.drop (i + 1) = rest' ∧ m' = rest'.length ∧ FV T Γ t body P rest' δ'' L₂ o L' :=
    fun {d ds δ2 M} er p fr g3 σ3 e3 W3 E3 => ⟨ds.length, by rw [er]; exact Nat.lt_succ_self _, g3, δ2, M, ds, rfl, e'.trans e3, W3, E3, p, (at_ er).2.2, rfl, fr⟩
  cases fv with
  | nil =>
    have hl : items.length ≤ i := by
      rcases Nat.lt_or_ge i items.length with h | h
      · rw [List.drop_eq_getElem_cons h] at hr; cases hr
      · exact h
    exact .inl ⟨ok.stop g' _ i e' W' p' hl, qx g' σ' (.refl g') W' E'⟩
  | @step d ds ix _ δ1 δ2 _ M _ _ b s p r =>
    obtain ⟨hl, hd, _⟩ := at_ rfl
    refine .inr ⟨ok.go g' L₁ i e' W' p' hl, fun σ3 H3 => ∃ g3 : Gw, g3.H = H3 ∧ Ext g' g3 ∧ Wo T.K g3 M ∧ EnvOk T.K g3 σ3 δ2, ?_, fun x H2 y => ?_⟩
    · rintro σ3 H3 ⟨g3, rfl, e3, W3, E3⟩
      exact nxt rfl p r g3 σ3 e3 W3 E3
    · obtain ⟨g2, rfl, e2, W2, d2⟩ := ok.yld g' L₁ i x H2 d e' W' p' hd y
      refine b g2 σ' x (E'.ext e2) d2 _ fun σ2 E2 _ => ?_
      exact s X F Wx tk g2 σ2 W2 E2 _ fun g3 σ3 e3 W3 E3 => ⟨g3, rfl, e2.trans e3, W3, E3⟩
  | @cont d ds ix _ δ1 δ2 _ M _ _ b s p r =>
    obtain ⟨hl, hd, _⟩ := at_ rfl
    refine .inr ⟨ok.go g' L₁ i e' W' p' hl, fun σ3 H3 => ∃ g3 : Gw, g3.H = H3 ∧ Ext g' g3 ∧ Wo T.K g3 M ∧ EnvOk T.K g3 σ3 δ2, ?_, fun x H2 y => ?_⟩
    · rintro σ3 H3 ⟨g3, rfl, e3, W3, E3⟩
      exact nxt rfl p r g3 σ3 e3 W3 E3
    · obtain ⟨g2, rfl, e2, W2, d2⟩ := ok.yld g' L₁ i x H2 d e' W' p' hd y
      refine b g2 σ' x (E'.ext e2) d2 _ fun σ2 E2 _ => ?_
      exact s X F Wx tk g2 σ2 W2 E2 _ fun g3 σ3 e3 W3 E3 => ⟨g3, rfl, e2.trans e3, W3, E3⟩
  | @ret d ds ix _ δ1 y _ M b s =>
    obtain ⟨hl, hd, _⟩ := at_ rfl
    refine .inr ⟨ok.go g' L₁ i e' W' p' hl, fun _ _ => False, fun _ _ z => z.elim, fun x H2 y => ?_⟩
    obtain ⟨g2, rfl, e2, W2, d2⟩ := ok.yld g' L₁ i x H2 d e' W' p' hd y
    refine b g2 σ' x (E'.ext e2) d2 _ fun σ2 E2 _ => ?_
    exact s X F Wx tk g2 σ2 W2 E2 _ fun g3 v e3 W3 d3 => qx g3 v (e2.trans e3) W3 d3
  | @exc d ds ix _ δ1 δ2 C _ M b s =>
    obtain ⟨hl, hd, _⟩ := at_ rfl
    refine .inr ⟨ok.go g' L₁ i e' W' p' hl, fun _ _ => False, fun _ _ z => z.elim, fun x H2 y => ?_⟩
    obtain ⟨g2, rfl, e2, W2, d2⟩ := ok.yld g' L₁ i x H2 d e' W' p' hd y
    refine b g2 σ' x (E'.ext e2) d2 _ fun σ2 E2 _ => ?_
    exact s X F Wx tk g2 σ2 W2 E2 _ fun g3 σ3 e3 W3 E3 => qx g3 σ3 (e2.trans e3) W3 E3
  | @brk d ds ix _ δ1 δ2 _ M b s =>
    obtain ⟨hl, hd, _⟩ := at_ rfl
    refine .inr ⟨ok.go g' L₁ i e' W' p' hl, fun _ _ => False, fun _ _ z => z.elim, fun x H2 y => ?_⟩
    obtain ⟨g2, rfl, e2, W2, d2⟩ := ok.yld g' L₁ i x H2 d e' W' p' hd y
    refine b g2 σ' x (E'.ext e2) d2 _ fun σ2 E2 _ => ?_
    exact s X F Wx tk g2 σ2 W2 E2 _ fun g3 σ3 e3 W3 E3 => qx g3 σ3 (e2.trans e3) W3 E3
end
end G
set_option Elab.async false
set_option linter.all false
set_option maxRecDepth 100000
set_option maxHeartbeats 4000000
/-! G9: while; comprehensions. -/
namespace G
open PySem PySem.Spec PyProof.Rows L2
inductive WhV (T : Sta) (Γ : GC) (c : Expr) (body : List Stmt) : Env' → Store → Oc → Store → Nat → Prop
  | stop {a : Env'} {S S1 : Store} (h : TV T Γ c a S false S1) : WhV T Γ c body a S (.nx a) S1 0
  | step {a a2 : Env'} {S S1 S2 S' : Store} {o : Oc} {n : Nat} (h : TV T Γ c a S true S1) (s : SV T Γ body a S1 (.nx a2) S2) (r : WhV T Γ c body a2 S2 o S' n) : WhV T Γ c body a S o S' (n + 1)
  | ret {a : Env'} {S S1 S2 : Store} {y : D} (h : TV T Γ c a S true S1) (s : SV T Γ body a S1 (.rt y) S2) : WhV T Γ c body a S (.rt y) S2 0
  | exc {a a2 : Env'} {S S1 S2 : Store} {C : Str} (h : TV T Γ c a S true S1) (s : SV T Γ body a S1 (.ex C a2) S2) : WhV T Γ c body a S (.ex C a2) S2 0
section
variable {T : Sta} {Γ : GC} {δ δ' : Env'} {L M1 M2 M3 L' : Store}
theorem s_while {c : Expr} {body : List Stmt} {pos : Pos} {o : Oc} {n : Nat} (h : WhV T Γ c body δ L o L' n) : S1 T Γ (.While c body [] pos) δ L o L' := fun X F Wx tk g σ W E Dn q => by
  refine sby (ps_while F.po tself bself) ?_
  refine ⟨fun m σ' H' => ∃ (g' : Gw) (δ' : Env') (S : Store), g'.H = H' ∧ Ext g g' ∧ Wo T.K g' S ∧ EnvOk T.K g' σ' δ' ∧ WhV T Γ c body δ' S o L' m, ⟨n, g, δ, L, rfl, .refl g, W, E, h⟩, ?_⟩
  rintro m σ' H' ⟨g', δ', S, rfl, e', W', E', wv⟩
  have qx : PostS T.K Dn Wx g' o L' := q.ext e'
  cases wv with
  | stop h =>
    refine h X F.fit g' σ' W' E' _ fun g1 e1 W1 => ?_
    rw [if_neg Bool.false_ne_true]
    exact qx g1 σ' e1 W1 (E'.ext e1)
  | @step _ a2 _ S1 S2 _ _ n h s r =>
    refine h X F.fit g' σ' W' E' _ fun g1 e1 W1 => ?_
    rw [if_pos rfl]
    refine ⟨fun σ3 H3 => ∃ g3 : Gw, g3.H = H3 ∧ Ext g' g3 ∧ Wo T.K g3 S2 ∧ EnvOk T.K g3 σ3 a2, ?_, ?_⟩
    · rintro σ3 H3 ⟨g3, rfl, e3, W3, E3⟩
      exact ⟨n, Nat.lt_succ_self _, g3, a2, S2, rfl, e'.trans e3, W3, E3, r⟩
    · exact s X F Wx tk g1 σ' W1 (E'.ext e1) _ fun g3 σ3 e3 W3 E3 => ⟨g3, rfl, e1.trans e3, W3, E3⟩
  | ret h2 s =>
    refine h2 X F.fit g' σ' W' E' _ fun g1 e1 W1 => ?_
    rw [if_pos rfl]
    exact ⟨fun _ _ => False, fun _ _ z => z.elim, s X F Wx tk g1 σ' W1 (E'.ext e1) _ fun g3 v e3 W3 d3 => qx g3 v (e1.trans e3) W3 d3⟩
  | exc h2 s =>
    refine h2 X F.fit g' σ' W' E' _ fun g1 e1 W1 => ?_
    rw [if_pos rfl]
    exact ⟨fun _ _ => False, fun _ _ z => z.elim, s X F Wx tk g1 σ' W1 (E'.ext e1) _ fun g3 σ3 e3 W3 E3 => qx g3 σ3 (e1.trans e3) W3 E3⟩

/-! ### comprehensions -/
def GC.blk (Γ : GC) (scope : Scope) : GC := ⟨Γ.N, relS scope Γ.sc, Γ.k, Γ.c⟩
theorem Fit.blk {X : Cx} (F : Fit T Γ X) (s : Shared) (H : Hp) (scope : Scope) (C : Addr) (cl : List (Str × Addr)) (fp : List Addr) : Fit T (Γ.blk scope) (X.blk s H scope (compEnvC scope cl C X.env) fp) := ⟨F.P, F.w, F.K, F.mg, F.base, F.N, by
  show relS scope X.env.scope = relS scope Γ.sc
  rw [F.sc], F.calm, F.room, F.nd⟩
def wipeE (δ : Env') : List Nat → Env'
  | [] => δ
  | v :: vs => (wipeE δ vs).set v none
theorem wipeE_len (δ : Env') : ∀ vs, (wipeE δ vs).length = δ.length
  | [] => rfl
  | v :: vs => by
    unfold wipeE
    rw [List.length_set, wipeE_len δ vs]
theorem EnvOk.wipe {K : PySem.W.Frag} {g : Gw} {σ : L2.St} (h : EnvOk K g σ δ) : ∀ vs, EnvOk K g (L2.wipe σ vs) (wipeE δ vs)
  | [] => h
  | v :: vs => by
    have ih := EnvOk.wipe h vs
    refine ⟨by unfold L2.wipe wipeE; rw [List.length_set, List.length_set]; exact ih.1, fun j y q => ?_⟩
    unfold L2.wipe
    unfold wipeE at q
    by_cases hj : v = j
    · subst hj
      have hl : v < (wipeE δ vs).length := by
        have := (List.getElem?_eq_some_iff.mp q).1
        rw [List.length_set] at this
        exact this
      rw [List.getElem?_set_self hl] at q
      cases q
    · rw [List.getElem?_set_ne hj] at q
      obtain ⟨u, h1, h2⟩ := ih.2 j y q
      exact ⟨u, by rw [List.getElem?_set_ne hj]; exact h1, h2⟩
theorem wipe_at (σ : L2.St) (j : Nat) : ∀ vs, (L2.wipe σ vs)[j]? = if j ∈ vs then (if j < σ.length then some none else none) else σ[j]?
  | [] => by simp [L2.wipe]
  | v :: vs => by
    unfold L2.wipe
    by_cases hj : v = j
    · subst hj
      rw [if_pos List.mem_cons_self]
      by_cases hl : v < σ.length
      · rw [if_pos hl, List.getElem?_set_self (by rw [L2.wipe_length]; exact hl)]
      · rw [if_neg hl]
        exact List.getElem?_eq_none (by rw [List.length_set, L2.wipe_length]; omega)
    · rw [List.getElem?_set_ne hj, wipe_at σ j vs]
      have : (j ∈ v :: vs) = (j ∈ vs) := by simp [List.mem_cons, Ne.symm hj]
      simp only [this]
theorem wipe_but {σ σ2 : L2.St} {vs ix : List Nat} (b : But ix (L2.wipe σ vs) σ2) (hs : ∀ j ∈ ix, j ∈ vs) : L2.wipe σ2 vs = L2.wipe σ vs := by
  have hl : σ2.length = σ.length := b.1.trans (L2.wipe_length σ vs)
  apply List.ext_getElem?
  intro j
  rw [wipe_at, wipe_at, hl]
  by_cases hj : j ∈ vs
  · rw [if_pos hj, if_pos hj]
  · rw [if_neg hj, if_neg hj, b.2 j (fun h => hj (hs j h)), wipe_at, if_neg hj]
/-- [elt for tg in iter if c]: f tells what is given of an item -/
def testsOf : Option Expr → List Expr
  | none => []
  | some c => [c]
def TTv (T : Sta) (Γ : GC) (c : Option Expr) (δ : Env') (L : Store) (b : Bool) : Prop := match c with
  | none => b = true
  | some e => TV T Γ e δ L b L
def tstT (T : Sta) (Γ : GC) : Option Expr → TT
  | none => tYes
  | some e => fun σ H Q => ∀ X', Fit T Γ X' → TXV X' e σ H Q
/-- the reading of a comprehension -/
theorem lc_rd {elt : Expr} {c : Option Expr} {scope : Scope} {P : Store → Prop} {items : List D} {t : TG} {ix : List Nat} (own : List (Str × Nat)) (f : D → Option D) {X : Cx} (F : Fit T Γ X) {wi : TI} (hw : ∀ (g : Gw) (σ : L2.St), Wo T.K g L → EnvOk T.K g σ δ → ∀ R : It → Hp → Prop, (∀ J g1, Ext g g1 → Wo T.K g1 M1 → ItOk T.K J P items g1 → R J g1.H) → wi σ g.H R) (hP : P M1)
    (hx : ∀ j ∈ ix, j ∈ own.map (·.2)) (turn : ∀ (i : Nat) (d : D), items[i]? = some d → ∃ δ1, GB T t ix d (wipeE δ (own.map (·.2))) δ1 ∧ TTv T (Γ.blk scope) c δ1 M1 (f d).isSome ∧ ∀ y, f d = some y → EV T (Γ.blk scope) elt δ1 M1 y M1) (hz : items.length ≤ sizeLine)
    (g : Gw) (σ : L2.St) (W : Wo T.K g L) (E : EnvOk T.K g σ δ) (Q : VK) (q : ∀ v g', Ext g g' → Wo T.K g' M1 → Dt T.K g' v (.lst (items.filterMap f)) → Q v g'.H) :
    tLc wi t (tstT T (Γ.blk scope) c) (fun σ H Q => ∀ X', Fit T (Γ.blk scope) X' → EXV X' elt σ H Q) (own.map (·.2)) σ g.H Q := by
  refine hw g σ W E _ fun J g1 e1 W1 iok => ?_
  intro A hA
  have offA : ∀ g2 : Gw, Ext g1 g2 → Wo T.K g2 M1 → ∀ k, k < g2.n → g2.ι k ≠ A := fun g2 e2 W2 k hk => by
    have hk1 : k < g1.n := by rw [W1.n, ← W2.n]; exact hk
    rw [e2.ι k hk1]
    exact W1.off hk1 hA
  refine ⟨fun i m H' => ∃ g' : Gw, g'.H = H' ∧ Ext g1 g' ∧ Wo T.K g' M1 ∧ g'.own A = .tmp ∧ (∃ acc, H' A = some (.lst acc) ∧ DtL T.K g' acc ((items.take i).filterMap f)) ∧ m = items.length - i ∧ i ≤ items.length,
    ⟨_, g1.push A .tmp (.lst []), rfl, push_ext hA, W1.push hA, push_own, ⟨[], upd_same, by rw [List.take_zero]; exact .nil⟩, rfl, Nat.zero_le _⟩, ?_⟩
  rintro i m H' ⟨g', rfl, e', W', ow, ⟨acc, hacc, dacc⟩, rfl, hle⟩
  by_cases hl : i < items.length
  · refine .inr ⟨iok.go g' M1 i e' W' hP hl, fun H3 => ∃ g3 : Gw, g3.H = H3 ∧ Ext g1 g3 ∧ Wo T.K g3 M1 ∧ g3.own A = .tmp ∧ ∃ acc, H3 A = some (.lst acc) ∧ DtL T.K g3 acc ((items.take (i + 1)).filterMap f), ?_, fun x H2 y => ?_⟩
    · rintro H3 ⟨g3, rfl, e3, W3, o3, a3⟩
      exact ⟨items.length - (i + 1), by omega, g3, rfl, e3, W3, o3, a3, rfl, hl⟩
    · have hd : items[i]? = some items[i] := List.getElem?_eq_getElem hl
      obtain ⟨g2, rfl, e2, W2, d2⟩ := iok.yld g' M1 i x H2 _ e' W' hP hd y
      obtain ⟨δ1, hb, htt, hel⟩ := turn i _ hd
      have E2 : EnvOk T.K g2 (L2.wipe σ (own.map (·.2))) (wipeE δ (own.map (·.2))) := (((E.ext e1).ext e').ext e2).wipe _
      refine hb g2 _ x E2 d2 _ fun σ2 E3 b3 => ?_
      have tk1 : (items.take (i + 1)).filterMap f = (items.take i).filterMap f ++ [items[i]].filterMap f := by
        rw [← List.filterMap_append, List.take_append_getElem hl]
      refine ⟨wipe_but b3 hx, ?_⟩
      have e12 : Ext g1 g2 := e'.trans e2
      have fin : ∀ g3 : Gw, Ext g2 g3 → Wo T.K g3 M1 → if (f items[i]).isSome = true then (∀ X', Fit T (Γ.blk scope) X' → EXV X' elt σ2 g3.H fun y H4 => ∃ acc, H4 A = some (.lst acc) ∧ acc.length < sizeLine ∧ ∃ g3 : Gw, g3.H = upd H4 A (.lst (acc ++ [y])) ∧ Ext g1 g3 ∧ Wo T.K g3 M1 ∧ g3.own A = .tmp ∧ ∃ acc2, upd H4 A (.lst (acc ++ [y])) A = some (.lst acc2) ∧ DtL T.K g3 acc2 ((items.take (i + 1)).filterMap f))
          else ∃ g4 : Gw, g4.H = g3.H ∧ Ext g1 g4 ∧ Wo T.K g4 M1 ∧ g4.own A = .tmp ∧ ∃ acc, g3.H A = some (.lst acc) ∧ DtL T.K g4 acc ((items.take (i + 1)).filterMap f) := fun g3 e3 W3 => by
        cases hf : f items[i] with
        | none =>
          rw [if_neg (by simp)]
          obtain ⟨k1, k2⟩ := (e2.trans e3).keep A _ hacc (.inr ow)
          refine ⟨g3, rfl, e12.trans e3, W3, k2.trans ow, acc, k1, ?_⟩
          rw [tk1]
          simp only [List.filterMap_cons, hf, List.filterMap_nil, List.append_nil]
          exact (dacc.ext e2).ext e3
        | some y =>
          rw [if_pos (by simp)]
          intro X' F'
          refine hel y hf X' F' g3 σ2 W3 (E3.ext e3) _ fun v g4 e4 W4 d4 => ?_
          obtain ⟨k1, k2⟩ := ((e2.trans e3).trans e4).keep A _ hacc (.inr ow)
          have ow4 : g4.own A = .tmp := k2.trans ow
          refine ⟨acc, k1, ?_, ?_⟩
          · rw [dacc.len]
            have h1 := List.length_filterMap_le f (items.take i)
            have h2 : (items.take i).length ≤ i := List.length_take_le _ _
            omega
          · have ed : ExtD g4 ⟨g4.n, g4.ι, g4.own, upd g4.H A (.lst (acc ++ [v]))⟩ := ⟨Nat.le_refl _, fun _ _ => rfl, fun a o h w => by
              have ne : a ≠ A := by
                intro z
                rw [z, ow4] at w
                cases w
              exact ⟨by show upd g4.H A _ a = _; rw [upd_ne ne]; exact h, w⟩⟩
            refine ⟨⟨g4.n, g4.ι, g4.own, upd g4.H A (.lst (acc ++ [v]))⟩, rfl, ?_, ?_, ow4, acc ++ [v], upd_same, ?_⟩
            · have e14 := (e12.trans e3).trans e4
              refine ⟨e14.n, e14.ι, fun a o h w => ?_⟩
              have ne : a ≠ A := ne_of_none h hA
              obtain ⟨q1, q2⟩ := e14.keep a o h w
              exact ⟨by show upd g4.H A _ a = _; rw [upd_ne ne]; exact q1, q2⟩
            · refine ⟨W4.n, fun k u h => (W4.at_ k u h).stayD ed (W4.lt h) fun o w hh => ?_, W4.inj⟩
              have ne : g4.ι k ≠ A := offA g4 ((e12.trans e3).trans e4) W4 k (W4.lt h)
              exact ⟨by show upd g4.H A _ _ = _; rw [upd_ne ne]; exact hh, rfl⟩
            · rw [tk1]
              simp only [List.filterMap_cons, hf, List.filterMap_nil]
              exact (((dacc.ext e2).ext e3).ext e4 |>.extD ed).snoc (d4.extD ed)
      cases c with
      | none =>
        have z := fin g2 (.refl g2) W2
        have hs : (f items[i]).isSome = true := htt
        rw [hs, if_pos rfl] at z
        exact z
      | some e => exact fun X' F' => htt X' F' g2 σ2 W2 E3 _ fun g3 e3 W3 => fin g3 e3 W3
  · have hl' : items.length ≤ i := by omega
    refine .inl ⟨iok.stop g' M1 i e' W' hP hl', ?_⟩
    have ed : ExtD g' ⟨g'.n, g'.ι, fun a => if a = A then .data else g'.own a, g'.H⟩ := ⟨Nat.le_refl _, fun _ _ => rfl, fun a o h w => ⟨h, by
      show (if a = A then Col.data else g'.own a) = .data
      by_cases z : a = A
      · rw [if_pos z]
      · rw [if_neg z]
        exact w⟩⟩
    have ei : items.take i = items := List.take_of_length_le hl'
    rw [ei] at dacc
    refine q (.ref A) ⟨g'.n, g'.ι, fun a => if a = A then .data else g'.own a, g'.H⟩ (e1.trans ?_) ?_ (.lst ⟨hacc, if_pos rfl⟩ (dacc.extD ed))
    · refine ⟨e'.n, e'.ι, fun a o h w => ?_⟩
      have ne : a ≠ A := ne_of_none h hA
      obtain ⟨q1, q2⟩ := e'.keep a o h w
      exact ⟨q1, by show (if a = A then Col.data else g'.own a) = _; rw [if_neg ne]; exact q2⟩
    · refine ⟨W'.n, fun k u h => (W'.at_ k u h).stayD ed (W'.lt h) fun o w hh => ⟨hh, ?_⟩, W'.inj⟩
      show (if g'.ι k = A then Col.data else g'.own (g'.ι k)) = _
      rw [if_neg (offA g' e' W' k (W'.lt h))]
theorem lc_pts {X : Cx} (F : Fit T Γ X) {c : Option Expr} {scope : Scope} : ∀ (s : Shared) (H : Hp) (C : Addr) (cl : List (Str × Addr)) (fp : List Addr), PTs (X.blk s H scope (compEnvC scope cl C X.env) fp) (testsOf c) (tstT T (Γ.blk scope) c) := fun s H C cl fp => by
  cases c with
  | none => exact pts_nil
  | some e => exact pts_one ⟨fun pins s' σ' H' Q' I h => tself.run pins s' σ' H' Q' I (h _ (F.blk s H scope C cl fp))⟩
theorem ev_lc {elt tg iter : Expr} {c : Option Expr} {scope : Scope} {pos : Pos} {P : Store → Prop} {items : List D} {t : TG} {ix : List Nat} (own : List (Str × Nat)) (f : D → Option D) (hi : IV T Γ tg iter δ L P items M1) (hP : P M1) (ht : TgL T (Γ.blk scope) tg t)
    (hx : ∀ j ∈ ix, j ∈ own.map (·.2)) (turn : ∀ (i : Nat) (d : D), items[i]? = some d → ∃ δ1, GB T t ix d (wipeE δ (own.map (·.2))) δ1 ∧ TTv T (Γ.blk scope) c δ1 M1 (f d).isSome ∧ ∀ y, f d = some y → EV T (Γ.blk scope) elt δ1 M1 y M1) (hz : items.length ≤ sizeLine) (hc : Γ.c = true := by rfl)
    (ok : blkC Γ.N Γ.sc scope own = true := by decide +kernel) (hs : ∀ (env : Env) x, foldedSetIterable iter env x = pure x := by intro _ _; rfl) : EV T Γ (.ListComp elt [⟨tg, iter, testsOf c, 0⟩] scope pos) δ L (.lst (items.filterMap f)) M1 := fun X F g σ W E Q q => by
  obtain ⟨wi, hpi, hw⟩ := hi X F
  exact eby (pe_lc (own := own) (te := fun σ H Q => ∀ X', Fit T (Γ.blk scope) X' → EXV X' elt σ H Q) (by rw [F.calm]; exact hc) F.nd hpi (by rw [F.N, F.sc]; exact blkOk_by ok) (fun s H C cl fp => ht _ (F.blk s H scope C cl fp)) (lc_pts F)
    (fun s H C cl fp => ⟨fun pins s' σ' H' Q' I h => eself.run pins s' σ' H' Q' I (h _ (F.blk s H scope C cl fp))⟩) (hs _)) (lc_rd own f F hw hP hx turn hz g σ W E Q q)
/-- y = [elt for ..] on one line, y a local -/
theorem s_setlc {elt tg iter : Expr} {c : Option Expr} {scope : Scope} {pos spos py : Pos} {y : Str} {P : Store → Prop} {items : List D} {t : TG} {ix : List Nat} (i : Nat) (own : List (Str × Nat)) (f : D → Option D) (hi : IV T Γ tg iter δ L P items M1) (hP : P M1) (ht : TgL T (Γ.blk scope) tg t)
    (hx : ∀ j ∈ ix, j ∈ own.map (·.2)) (turn : ∀ (i : Nat) (d : D), items[i]? = some d → ∃ δ1, GB T t ix d (wipeE δ (own.map (·.2))) δ1 ∧ TTv T (Γ.blk scope) c δ1 M1 (f d).isSome ∧ ∀ y, f d = some y → EV T (Γ.blk scope) elt δ1 M1 y M1) (hz : items.length ≤ sizeLine) (hc : Γ.c = true := by rfl)
    (ok : blkC Γ.N Γ.sc scope own = true := by decide +kernel) (hs : ∀ (env : Env) x, foldedSetIterable iter env x = pure x := by intro _ _; rfl) (hy : Γ.N[i]? = some y) (hyl : Γ.sc.names.lookup y = some .local) (hk : Γ.sc.kind = .function) (hl : (py.line == pos.line) = true)
    (ha : (scope.names.any fun (n, k) => n == y && (k == .local || k == .cell)) = false) : S1 T Γ (.Assign [.Name y py] (.ListComp elt [⟨tg, iter, testsOf c, 0⟩] scope pos) spos) δ L (.nx (δ.set i (some (.lst (items.filterMap f))))) M1 := fun X F Wx tk g σ W E D q => by
  obtain ⟨wi, hpi, hw⟩ := hi X F.toFit
  have F' := F.toFit
  refine sby (ps_setLc (i := i) (own := own) (te := fun σ H Q => ∀ X', Fit T (Γ.blk scope) X' → EXV X' elt σ H Q) (by rw [F'.calm]; exact hc) F'.nd (by rw [F'.N]; exact hy) (by rw [F'.sc]; exact hyl) (sw_true (by rw [F'.sc]; exact hk) (by rw [F'.sc]; exact hyl) hl ha) hpi (by rw [F'.N, F'.sc]; exact blkOk_by ok) (fun s H C cl fp => ht _ (F'.blk s H scope C cl fp)) (lc_pts F')
    (fun s H C cl fp => ⟨fun pins s' σ' H' Q' I h => eself.run pins s' σ' H' Q' I (h _ (F'.blk s H scope C cl fp))⟩) (hs _)) ?_
  exact lc_rd own f F' hw hP hx turn hz g σ W E _ fun v g1 e1 W1 d1 => q g1 _ e1 W1 ((E.ext e1).set i d1)
end
end G
set_option Elab.async false
set_option linter.all false
set_option maxRecDepth 100000
set_option maxHeartbeats 4000000
/-! G10: sequences, equality, built-ins. -/
namespace G
open PySem PySem.Spec PyProof.Rows L2
/-! ### equality of data -/
mutual
def D.py : D → PyData
  | .non => .none
  | .bl b => .bool b
  | .int i => .int i
  | .str x => .str x
  | .ref _ => .dict []
  | .scr _ => .dict []
  | .tup ds => .tuple (pyL ds)
  | .lst ds => .list (pyL ds)
def pyL : List D → List PyData
  | [] => []
  | d :: ds => d.py :: pyL ds
end
section
variable {K : PySem.W.Frag} {g : Gw}
mutual
theorem Dt.dp : ∀ {v : V} {d : D}, Dt K g v d → d.py.canLay0 = true → Dp K g.H v d.py
  | _, _, .non, _ => .non
  | _, _, .bl b, _ => .bl b
  | _, _, .int i, _ => .int i
  | _, _, .str x, _ => .str x
  | _, _, .ref _, h => by simp [D.py, PyData.canLay0] at h
  | _, _, .scr _, h => by simp [D.py, PyData.canLay0] at h
  | _, _, .tup (ds := ds) p l, h => by
    have h' : PyData.canLayAll0 (pyL ds) = true := by simpa [D.py, PyData.canLay0] using h
    exact .tup p.sq (DtL.dp l h')
  | _, _, .lst (ds := ds) p l, h => by
    have h' : PyData.canLayAll0 (pyL ds) = true := by simpa [D.py, PyData.canLay0] using h
    exact .lst p.sq (DtL.dp l h')
theorem DtL.dp : ∀ {vs : List V} {ds : List D}, DtL K g vs ds → PyData.canLayAll0 (pyL ds) = true → DpAll K g.H vs (pyL ds)
  | _, _, .nil, _ => .nil
  | _, _, .cons (d := d) (ds := ds) h r, q => by
    have q' : PyData.canLay0 d.py = true ∧ PyData.canLayAll0 (pyL ds) = true := by simpa [pyL, PyData.canLayAll0] using q
    exact .cons (Dt.dp h q'.1) (DtL.dp r q'.2)
end
end
section
variable {T : Sta} {Γ : GC} {δ δ' : Env'} {L M1 M2 M3 L' : Store} {a b : Expr} {pos : Pos} {x y : D}
theorem ev_eq (ha : EV T Γ a δ L x M1) (hb : EV T Γ b δ M1 y M2) (hx : SeqAt.shaped x.py = true) (hy : SeqAt.shaped y.py = true) (hc : Γ.c = true := by rfl) : EV T Γ (.Compare a [.Eq] [b] pos) δ L (.bl (PyData.eqv x.py y.py)) M2 :=
  ev_cmp (rEqD T.K) (fun X F => by rw [← F.K]; exact op_eqD (F.room hc).units) ha hb (fun g v u W dv du Q q => ⟨x.py, y.py, dv.dp (SeqAt.canLay_of_shaped hx), du.dp (SeqAt.canLay_of_shaped hy), hx, hy, q _ g (.refl g) W (.bl _)⟩) (nomark _)
theorem ev_ne (ha : EV T Γ a δ L x M1) (hb : EV T Γ b δ M1 y M2) (hx : SeqAt.shaped x.py = true) (hy : SeqAt.shaped y.py = true) (hc : Γ.c = true := by rfl) : EV T Γ (.Compare a [.NotEq] [b] pos) δ L (.bl (!PyData.eqv x.py y.py)) M2 :=
  ev_cmp (rNeD T.K) (fun X F => by rw [← F.K]; exact op_neD (F.room hc).units) ha hb (fun g v u W dv du Q q => ⟨x.py, y.py, dv.dp (SeqAt.canLay_of_shaped hx), du.dp (SeqAt.canLay_of_shaped hy), hx, hy, q _ g (.refl g) W (.bl _)⟩) (nomark _)
def D.isNon : D → Bool
  | .non => true
  | _ => false
theorem Dt.isNon {K : PySem.W.Frag} {g : Gw} {v : V} {d : D} (h : Dt K g v d) : decide (v = .non) = d.isNon := by cases h <;> rfl
theorem ev_isN {j : Nat} {p : Pos} (ha : EV T Γ a δ L x M1) : EV T Γ (.Compare a [.Is] [.Constant .none j p] pos) δ L (.bl x.isNon) M1 :=
  ev_cmp _ (fun X F => op_isN) ha ev_non (fun g v u W dv du Q q => by
    cases du
    refine ⟨rfl, ?_⟩
    rw [dv.isNon]
    exact q _ g (.refl g) W (.bl _)) (nomark _)
theorem ev_notN {j : Nat} {p : Pos} (ha : EV T Γ a δ L x M1) : EV T Γ (.Compare a [.IsNot] [.Constant .none j p] pos) δ L (.bl (!x.isNon)) M1 :=
  ev_cmp _ (fun X F => op_notN) ha ev_non (fun g v u W dv du Q q => by
    cases du
    refine ⟨rfl, ?_⟩
    rw [dv.isNon]
    exact q _ g (.refl g) W (.bl _)) (nomark _)
/-! ### items, slices -/
theorem atI_dt {K : PySem.W.Frag} {g : Gw} {xs : List V} {ds : List D} {i : Int} {d : D} (h : DtL K g xs ds) (e : atI ds i = some d) : ∃ v, atI xs i = some v ∧ Dt K g v d := by
  unfold atI at e ⊢
  rw [h.len]
  cases q : ixN ds.length i with
  | none => rw [q] at e; cases e
  | some j =>
    rw [q] at e
    exact h.get e
/-- a list or a tuple, as data or as a cell, with its items -/
inductive SeqD (L : Store) : D → List D → Prop
  | tup {ds : List D} : SeqD L (.tup ds) ds
  | lst {ds : List D} : SeqD L (.lst ds) ds
  | scr {ns : List Int} : SeqD L (.scr ns) (ns.map D.int)
  | cell {k : Nat} {ds : List D} (h : L[k]? = some (.list ds)) : SeqD L (.ref k) ds
theorem SeqD.at {g : Gw} {v : V} {d : D} {ds : List D} (s : SeqD L d ds) (W : Wo T.K g L) (h : Dt T.K g v d) : ∃ a xs, v = .ref a ∧ (SqL T.K g.H a xs ∨ SqT T.K g.H a xs) ∧ DtL T.K g xs ds := by
  cases s with
  | tup => cases h with | tup p l => exact ⟨_, _, rfl, .inr p.sq, l⟩
  | lst => cases h with | lst p l => exact ⟨_, _, rfl, .inl p.sq, l⟩
  | scr => cases h with | scr p => exact ⟨_, _, rfl, .inl p.sq, DtL.ints _⟩
  | cell hk =>
    cases h
    obtain ⟨_, xs, h1, h2⟩ := W.list hk
    exact ⟨_, xs, rfl, .inl (.inl (.inl h1)), h2⟩
theorem ev_ix {i : Int} {d : D} {ds : List D} (ha : EV T Γ a δ L x M1) (hb : EV T Γ b δ M1 (.int i) M2) (s : SeqD M2 x ds) (h : atI ds i = some d) (hp : PlainIx b := by intro _ _; rfl) : EV T Γ (.Subscript a b pos) δ L d M2 := fun X F g σ W E Q q => by
  refine eby (pe_ix ix_seq eself eself hp) ?_
  refine ha X F g σ W E _ fun v g1 e1 W1 d1 => ?_
  refine hb X F g1 σ W1 (E.ext e1) _ fun u g2 e2 W2 d2 => ?_
  cases d2
  obtain ⟨p, xs, rfl, h1, h2⟩ := s.at W2 (d1.ext e2)
  obtain ⟨w, h3, h4⟩ := atI_dt h2 h
  rw [F.K]
  rcases h1 with h1 | h1
  · exact .inl ⟨p, xs, i, w, rfl, rfl, h1, h3, q w g2 (e1.trans e2) W2 h4⟩
  · exact .inr (.inl ⟨p, xs, i, w, rfl, rfl, h1, h3, q w g2 (e1.trans e2) W2 h4⟩)
/-- an optional part of a slice -/
def OV (T : Sta) (Γ : GC) (e : Option Expr) (δ : Env') (L : Store) (i : Option Int) : Prop := match e, i with
  | none, none => True
  | some e, some i => EV T Γ e δ L (.int i) L
  | _, _ => False
def cutD (ds : List D) (lo hi : Option Int) : List D := (ds.drop (HT.sIx ds.length 0 lo)).take (HT.sIx ds.length ds.length hi - HT.sIx ds.length 0 lo)
theorem cut_dt {K : PySem.W.Frag} {g : Gw} {xs : List V} {ds : List D} {lo hi : Option Int} (h : DtL K g xs ds) : DtL K g (cutV xs lo hi) (cutD ds lo hi) := by
  unfold cutV cutD
  rw [h.len]
  exact (h.drop _).take _
theorem ov_at {X : Cx} {e : Option Expr} {i : Option Int} (F : Fit T Γ X) (h : OV T Γ e δ L i) : ∃ to : TO, PO X e to ∧ ∀ (g : Gw) (σ : L2.St), Wo T.K g L → EnvOk T.K g σ δ → ∀ Q : Option Int → Hp → Prop, (∀ g', Ext g g' → Wo T.K g' L → Q i g'.H) → to σ g.H Q := by
  cases e with
  | none =>
    cases i with
    | none => exact ⟨_, po_none, fun g σ W E Q q => q g (.refl g) W⟩
    | some i => exact h.elim
  | some e =>
    cases i with
    | none => exact h.elim
    | some i => exact ⟨_, po_some eself, fun g σ W E Q q => h X F g σ W E _ fun v g1 e1 W1 d1 => by
        cases d1
        exact ⟨i, rfl, q g1 e1 W1⟩⟩
theorem ev_slT {lo hi : Option Expr} {p2 : Pos} {i j : Option Int} {ds : List D} (ha : EV T Γ a δ L (.tup ds) M1) (hl : OV T Γ lo δ M1 i) (hh : OV T Γ hi δ M1 j) : EV T Γ (.Subscript a (.Slice lo hi none p2) pos) δ L (.tup (cutD ds i j)) M1 := fun X F g σ W E Q q => by
  obtain ⟨tl, pl, hl'⟩ := ov_at F hl
  obtain ⟨th, ph, hh'⟩ := ov_at F hh
  refine eby (pe_slice sl_tupA eself pl ph) ?_
  refine ha X F g σ W E _ fun v g1 e1 W1 d1 => ?_
  refine hl' g1 σ W1 (E.ext e1) _ fun g2 e2 W2 => ?_
  refine hh' g2 σ W2 ((E.ext e1).ext e2) _ fun g3 e3 W3 => ?_
  have d3 := (d1.ext e2).ext e3
  cases d3 with
  | @tup A xs _ hp hl =>
    refine ⟨A, xs, rfl, by rw [F.K]; exact hp.sq, fun hw => ?_, fun _ p hp' => ?_⟩
    · refine q _ g3 ((e1.trans e2).trans e3) W3 (.tup hp ?_)
      have z := cut_dt (lo := i) (hi := j) hl
      have e : cutV xs i j = xs := by
        unfold cutV
        rw [hw.1, hw.2]
        simp
      rw [e] at z
      exact z
    · have e4 := push_ext (c := .data) (o := .tup (cutV xs i j)) hp'
      exact q _ (g3.push p .data (.tup (cutV xs i j))) (((e1.trans e2).trans e3).trans e4) (W3.push hp') (.tup (.inl ⟨.inl push_at, push_own⟩) ((cut_dt hl).ext e4))
theorem ev_slL {lo hi : Option Expr} {p2 : Pos} {i j : Option Int} {ds : List D} (ha : EV T Γ a δ L x M1) (hs : SeqD M1 x ds) (ht : ∀ ds, x ≠ .tup ds) (hl : OV T Γ lo δ M1 i) (hh : OV T Γ hi δ M1 j) : EV T Γ (.Subscript a (.Slice lo hi none p2) pos) δ L (.lst (cutD ds i j)) M1 := fun X F g σ W E Q q => by
  obtain ⟨tl, pl, hl'⟩ := ov_at F hl
  obtain ⟨th, ph, hh'⟩ := ov_at F hh
  refine eby (pe_slice sl_list eself pl ph) ?_
  refine ha X F g σ W E _ fun v g1 e1 W1 d1 => ?_
  refine hl' g1 σ W1 (E.ext e1) _ fun g2 e2 W2 => ?_
  refine hh' g2 σ W2 ((E.ext e1).ext e2) _ fun g3 e3 W3 => ?_
  have d3 := (d1.ext e2).ext e3
  have key : ∃ A xs, v = .ref A ∧ SqL T.K g3.H A xs ∧ DtL T.K g3 xs ds := by
    cases hs with
    | tup => exact absurd rfl (ht _)
    | lst => cases d3 with | lst p l => exact ⟨_, _, rfl, p.sq, l⟩
    | scr => cases d3 with | scr p => exact ⟨_, _, rfl, p.sq, DtL.ints _⟩
    | cell hk =>
      cases d3
      obtain ⟨_, xs, h1, h2⟩ := W3.list hk
      exact ⟨_, xs, rfl, .inl (.inl h1), h2⟩
  obtain ⟨A, xs, rfl, h1, h2⟩ := key
  refine ⟨A, xs, rfl, by rw [F.K]; exact h1, fun p hp' => ?_⟩
  have e4 := push_ext (c := .data) (o := .lst (cutV xs i j)) hp'
  exact q _ (g3.push p .data (.lst (cutV xs i j))) (((e1.trans e2).trans e3).trans e4) (W3.push hp') (.lst ⟨push_at, push_own⟩ ((cut_dt h2).ext e4))
/-! ### +, * of sequences -/
theorem ev_catT {ds es : List D} (ha : EV T Γ a δ L (.tup ds) M1) (hb : EV T Γ b δ M1 (.tup es) M2) (hz : ds.length + es.length ≤ sizeLine) : EV T Γ (.BinOp a .Add b pos) δ L (.tup (ds ++ es)) M2 :=
  ev_op (rCatA T.K) (fun X F => by rw [← F.K]; exact op_catA) ha hb fun g v u W dv du Q q => by
    cases dv with
    | @tup A xs _ hp hl =>
      cases du with
      | @tup B ys _ hp2 hl2 =>
        refine ⟨A, B, xs, ys, rfl, rfl, hp.sq, hp2.sq, by rw [hl.len, hl2.len]; exact hz, fun e => ?_, fun _ e => ?_, fun _ _ p hp' => ?_⟩
        · subst e
          cases hl
          exact q _ g (.refl g) W (.tup hp2 hl2)
        · subst e
          cases hl2
          rw [List.append_nil] at q
          exact q _ g (.refl g) W (.tup hp hl)
        · have e4 := push_ext (c := .data) (o := .tup (xs ++ ys)) hp'
          exact q _ (g.push p .data (.tup (xs ++ ys))) e4 (W.push hp') (.tup (.inl ⟨.inl push_at, push_own⟩) ((hl.append hl2).ext e4))
/-- lists: data or cells -/
theorem ev_catL {y : D} {ds es : List D} (ha : EV T Γ a δ L x M1) (hb : EV T Γ b δ M1 y M2) (hx : x = .lst ds ∨ ∃ k, x = .ref k ∧ M2[k]? = some (.list ds)) (hy : y = .lst es ∨ ∃ k, y = .ref k ∧ M2[k]? = some (.list es)) (hz : ds.length + es.length ≤ sizeLine) : EV T Γ (.BinOp a .Add b pos) δ L (.lst (ds ++ es)) M2 :=
  ev_op rCat (fun X F => op_cat) ha hb fun g v u W dv du Q q => by
    have key : ∀ {v : V} {d : D} {ds : List D}, Dt T.K g v d → (d = .lst ds ∨ ∃ k, d = .ref k ∧ M2[k]? = some (.list ds)) → ∃ A xs, v = .ref A ∧ g.H A = some (.lst xs) ∧ DtL T.K g xs ds := fun {v d ds} h o => by
      rcases o with rfl | ⟨k, rfl, hk⟩
      · cases h with | lst p l => exact ⟨_, _, rfl, p.1, l⟩
      · cases h
        obtain ⟨_, xs, h1, h2⟩ := W.list hk
        exact ⟨_, xs, rfl, h1, h2⟩
    obtain ⟨A, xs, rfl, h1, h2⟩ := key dv hx
    obtain ⟨B, ys, rfl, h3, h4⟩ := key du hy
    refine ⟨A, B, xs, ys, rfl, rfl, h1, h3, by rw [h2.len, h4.len]; exact hz, fun p hp' => ?_⟩
    have e4 := push_ext (c := .data) (o := .lst (xs ++ ys)) hp'
    exact q _ (g.push p .data (.lst (xs ++ ys))) e4 (W.push hp') (.lst ⟨push_at, push_own⟩ ((h2.append h4).ext e4))
/-! ### in -/
def D.flat : D → Bool
  | .non | .bl _ | .int _ | .str _ => true
  | _ => false
def eqD : D → D → Bool
  | .non, .non => true
  | .bl a, .bl b => a == b
  | .bl a, .int b => (if a then 1 else 0) == b
  | .int a, .bl b => a == (if b then 1 else 0)
  | .int a, .int b => a == b
  | .str a, .str b => a == b
  | _, _ => false
theorem flat_dt {K : PySem.W.Frag} {g : Gw} {v : V} {d : D} (h : Dt K g v d) (f : d.flat = true) : flatV v = true := by
  cases h <;> first | rfl | cases f
theorem eq_dt {K : PySem.W.Frag} {g : Gw} {v u : V} {d e : D} (h : Dt K g v d) (h' : Dt K g u e) (f : d.flat = true) (f' : e.flat = true) : eqV v u = eqD d e := by
  cases h <;> cases h' <;> first | rfl | (cases f; done) | (cases f'; done)
theorem flats_dt {K : PySem.W.Frag} {g : Gw} : ∀ {xs : List V} {ds : List D}, DtL K g xs ds → ds.all D.flat = true → xs.all flatV = true
  | _, _, .nil, _ => rfl
  | _, _, .cons h r, f => by
    rw [List.all_cons, Bool.and_eq_true] at f
    rw [List.all_cons, flat_dt h f.1, flats_dt r f.2]
    rfl
theorem inV_dt {K : PySem.W.Frag} {g : Gw} {v : V} {d : D} (h : Dt K g v d) (f : d.flat = true) : ∀ {xs : List V} {ds : List D}, DtL K g xs ds → ds.all D.flat = true → inV v xs = ds.any fun y => eqD y d
  | _, _, .nil, _ => rfl
  | _, _, .cons h' r, q => by
    rw [List.all_cons, Bool.and_eq_true] at q
    have ih := inV_dt h f r q.2
    unfold inV at ih ⊢
    rw [List.any_cons, List.any_cons, ih, eq_dt h' h q.1 f]
theorem ev_in {ds : List D} (ha : EV T Γ a δ L x M1) (hb : EV T Γ b δ M1 y M2) (s : SeqD M2 y ds) (fx : x.flat = true) (fs : ds.all D.flat = true) (hm : behindInMarks .In b = false := by rfl) : EV T Γ (.Compare a [.In] [b] pos) δ L (.bl (ds.any fun y => eqD y x)) M2 :=
  ev_cmp (rIn T.K false) (fun X F => by rw [← F.K]; exact op_in_seq) ha hb (fun g v u W dv du Q q => by
    obtain ⟨A, xs, rfl, h1, h2⟩ := s.at W du
    refine ⟨A, xs, rfl, h1, flat_dt dv fx, flats_dt h2 fs, ?_⟩
    rw [if_neg Bool.false_ne_true, inV_dt dv fx h2 fs]
    exact q _ g (.refl g) W (.bl _)) hm
theorem ev_nin {ds : List D} (ha : EV T Γ a δ L x M1) (hb : EV T Γ b δ M1 y M2) (s : SeqD M2 y ds) (fx : x.flat = true) (fs : ds.all D.flat = true) (hm : behindInMarks .NotIn b = false := by rfl) : EV T Γ (.Compare a [.NotIn] [b] pos) δ L (.bl (!ds.any fun y => eqD y x)) M2 :=
  ev_cmp (rIn T.K true) (fun X F => by rw [← F.K]; exact op_notIn_seq) ha hb (fun g v u W dv du Q q => by
    obtain ⟨A, xs, rfl, h1, h2⟩ := s.at W du
    refine ⟨A, xs, rfl, h1, flat_dt dv fx, flats_dt h2 fs, ?_⟩
    rw [if_pos rfl, inV_dt dv fx h2 fs]
    exact q _ g (.refl g) W (.bl _)) hm
/-! ### built-ins -/
theorem ev_bt {n : Str} {id : String} {e : Expr} {es : List Expr} {p : Pos} {ds : List D} {d : D} (r : List V → Hp → VK → Prop) (hr : ∀ X, Fit T Γ X → CallR X (.builtin id) r) (hm : T.mg n = none) (hv : bootBuiltins n = some (.builtin id)) (ha : AV T Γ (e :: es) δ L ds M1)
    (h : ∀ (g : Gw) vs, Wo T.K g M1 → DtL T.K g vs ds → ∀ Q : VK, (∀ z g', Ext g g' → Wo T.K g' M2 → Dt T.K g' z d → Q z g'.H) → r vs g.H Q) (hg : GlS Γ.sc n := by exact gls_of (by decide +kernel)) (hn : n ≠ "__name__" := by decide +kernel) (hdb : (n == ("__debug__" : Str)) = false := by decide +kernel)
    (he : ∀ env : Env, starEach (e :: es) env = (false, eval e env) :: starEach es env := by intro _; exact star_cons rfl) (hpl : ∀ env : Env, (backTo pos (starEach es env)).any (·.1) = false := by intro _; exact star_any rfl) : EV T Γ (.Call (.Name n p) (e :: es) [] pos) δ L d M2 := fun X F g σ W E Q q => by
  refine eby (pe_callB (hr X F) (F.gl hg) (by rw [F.mg]; exact hm) hv aself hn hdb (he _) (hpl _)) ?_
  refine ha X F g σ W E _ fun vs g1 e1 W1 d1 => ?_
  exact h g1 vs W1 d1 Q fun z g2 e2 W2 d2 => q z g2 (e1.trans e2) W2 d2
theorem ev_ty {n : Str} {id : String} {e : Expr} {es : List Expr} {p : Pos} {ds : List D} {d : D} (r : List V → Hp → VK → Prop) (hr : ∀ X, Fit T Γ X → CallR X (.type id) r) (hm : T.mg n = none) (hv : bootBuiltins n = some (.type id)) (ha : AV T Γ (e :: es) δ L ds M1)
    (h : ∀ (g : Gw) vs, Wo T.K g M1 → DtL T.K g vs ds → ∀ Q : VK, (∀ z g', Ext g g' → Wo T.K g' M2 → Dt T.K g' z d → Q z g'.H) → r vs g.H Q) (hg : GlS Γ.sc n := by exact gls_of (by decide +kernel)) (hn : n ≠ "__name__" := by decide +kernel) (hdb : (n == ("__debug__" : Str)) = false := by decide +kernel)
    (he : ∀ env : Env, starEach (e :: es) env = (false, eval e env) :: starEach es env := by intro _; exact star_cons rfl) (hpl : ∀ env : Env, (backTo pos (starEach es env)).any (·.1) = false := by intro _; exact star_any rfl) : EV T Γ (.Call (.Name n p) (e :: es) [] pos) δ L d M2 := fun X F g σ W E Q q => by
  refine eby (pe_callTy (hr X F) (F.gl hg) (by rw [F.mg]; exact hm) hv aself hn hdb (he _) (hpl _)) ?_
  refine ha X F g σ W E _ fun vs g1 e1 W1 d1 => ?_
  exact h g1 vs W1 d1 Q fun z g2 e2 W2 d2 => q z g2 (e1.trans e2) W2 d2
def rLenQ (K : PySem.W.Frag) : List V → Hp → VK → Prop := fun xs H Q => ∃ p ys, xs = [.ref p] ∧ (SqL K H p ys ∨ SqT K H p ys) ∧ Q (.int ys.length) H
def rLenW (K : PySem.W.Frag) : List V → Hp → VK → Prop := fun xs H Q => ∃ x n, xs = [x] ∧ LenV K x H n ∧ Q (.int n) H
theorem ev_len {e : Expr} {p : Pos} {ds : List D} (hm : T.mg "len" = none) (ha : EV T Γ e δ L x M1) (s : SeqD M1 x ds) (hg : GlS Γ.sc "len" := by exact gls_of (by decide +kernel)) (he : ∀ env : Env, starEach [e] env = (false, eval e env) :: starEach [] env := by intro _; exact star_cons rfl) : EV T Γ (.Call (.Name "len" p) [e] [] pos) δ L (.int ds.length) M1 :=
  ev_bt (rLenQ T.K) (fun X F => by rw [← F.K]; exact call_len_seq) hm PySem.boot_len (av_cons ha av_nil he) (fun g vs W dv Q q => by
    cases dv with
    | cons h r =>
      cases r
      obtain ⟨A, xs, rfl, h1, h2⟩ := s.at W h
      refine ⟨A, xs, rfl, h1, ?_⟩
      rw [h2.len]
      exact q _ g (.refl g) W (.int _)) hg (he := he)
theorem ev_lenS {e : Expr} {p : Pos} {z : Str} (hm : T.mg "len" = none) (ha : EV T Γ e δ L (.str z) M1) (hz : z.length ≤ sizeLine) (hg : GlS Γ.sc "len" := by exact gls_of (by decide +kernel)) (he : ∀ env : Env, starEach [e] env = (false, eval e env) :: starEach [] env := by intro _; exact star_cons rfl) : EV T Γ (.Call (.Name "len" p) [e] [] pos) δ L (.int z.length) M1 :=
  ev_bt (rLenW T.K) (fun X F => by rw [← F.K]; exact call_len) hm PySem.boot_len (av_cons ha av_nil he) (fun g vs W dv Q q => by
    cases dv with
    | cons h r =>
      cases r
      cases h
      exact ⟨_, _, rfl, ⟨hz, rfl⟩, q _ g (.refl g) W (.int _)⟩) hg (he := he)
/-- isinstance: the kinds of data by built-in names -/
def D.isK : D → String → Option Bool
  | .non, n => kitB "NoneType" n
  | .bl _, n => kitB "bool" n
  | .int _, n => kitB "int" n
  | .str _, n => kitB "str" n
  | .tup _, n => kitB "tuple" n
  | .lst _, n => kitB "list" n
  | _, _ => none
theorem isK_at {K : PySem.W.Frag} {g : Gw} {v : V} {d : D} {n : String} {k : Bool} (h : Dt K g v d) (e : d.isK n = some k) : ∃ t, TyX K g.H v t ∧ PySem.W.kitOne K t (.type n) = some k := by
  cases h with
  | non => exact ⟨_, .base .non, kit_ty e⟩
  | bl b => exact ⟨_, .base (.bl b), kit_ty e⟩
  | int i => exact ⟨_, .base (.int i), kit_ty e⟩
  | str x => exact ⟨_, .base (.str x), kit_ty e⟩
  | ref h => cases e
  | scr h => cases e
  | lst p l => exact ⟨_, .base (.lst p.1), kit_ty e⟩
  | tup p l =>
    rcases p with ⟨p | ⟨o, p⟩, _⟩ | ⟨o, its, m, p, c, _⟩
    · exact ⟨_, .base (.tup p), kit_ty e⟩
    · exact ⟨_, .fTuple p, kit_ty e⟩
    · exact ⟨_, .kTuple p c, kit_ty e⟩
theorem ev_isi {e : Expr} {n : Str} {id : String} {p p2 : Pos} {k : Bool} (hm : T.mg "isinstance" = none) (ha : EV T Γ e δ L x M1) (hk : x.isK id = some k) (hm2 : T.mg n = none) (hv2 : bootBuiltins n = some (.type id)) (hg2 : GlS Γ.sc n := by exact gls_of (by decide +kernel)) (hn2 : n ≠ "__name__" := by decide +kernel) (hdb2 : (n == ("__debug__" : Str)) = false := by decide +kernel) (hg : GlS Γ.sc "isinstance" := by exact gls_of (by decide +kernel))
    (he : ∀ env : Env, starEach [e, .Name n p2] env = (false, eval e env) :: starEach [.Name n p2] env := by intro _; exact star_cons rfl) (he2 : ∀ env : Env, starEach [.Name n p2] env = (false, eval (.Name n p2) env) :: starEach [] env := by intro _; exact star_cons rfl) (hpl : ∀ env : Env, (backTo pos (starEach [.Name n p2] env)).any (·.1) = false := by intro _; exact star_any rfl) :
    EV T Γ (.Call (.Name "isinstance" p) [e, .Name n p2] [] pos) δ L (.bl k) M1 := fun X F g σ W E Q q => by
  refine eby (pe_callB call_isi (F.gl hg) (by rw [F.mg]; exact hm) (by decide +kernel) (pa_cons eself (pa_cons (pe_bltn (v := .ty id) (F.gl hg2) (by rw [F.mg]; exact hm2) hv2 rfl hn2 hdb2) pa_nil (he2 _)) (he _)) (by decide) (by decide) (he _) (hpl _)) ?_
  refine ha X F g σ W E _ fun v g1 e1 W1 d1 => ?_
  obtain ⟨t, h1, h2⟩ := isK_at d1 hk
  exact ⟨v, .ty id, t, .type id, k, rfl, .ty id, by rw [F.K]; exact h1, by rw [F.K]; exact h2, q _ g1 e1 W1 (.bl k)⟩
theorem boot_ty_int : bootBuiltins "int" = some (.type "int") := by decide +kernel
theorem ev_is_int {e : Expr} {p p2 : Pos} {k : Bool} (hm : T.mg "isinstance" = none) (hm2 : T.mg "int" = none) (ha : EV T Γ e δ L x M1) (hk : x.isK "int" = some k) (hg2 : GlS Γ.sc "int" := by exact gls_of (by decide +kernel)) (hg : GlS Γ.sc "isinstance" := by exact gls_of (by decide +kernel))
    (he : ∀ env : Env, starEach [e, .Name "int" p2] env = (false, eval e env) :: starEach [.Name "int" p2] env := by intro _; exact star_cons rfl) : EV T Γ (.Call (.Name "isinstance" p) [e, .Name "int" p2] [] pos) δ L (.bl k) M1 := ev_isi hm ha hk hm2 boot_ty_int hg2 (by decide) (by decide) hg he
theorem boot_ty_bool : bootBuiltins "bool" = some (.type "bool") := by decide +kernel
theorem ev_is_bool {e : Expr} {p p2 : Pos} {k : Bool} (hm : T.mg "isinstance" = none) (hm2 : T.mg "bool" = none) (ha : EV T Γ e δ L x M1) (hk : x.isK "bool" = some k) (hg2 : GlS Γ.sc "bool" := by exact gls_of (by decide +kernel)) (hg : GlS Γ.sc "isinstance" := by exact gls_of (by decide +kernel))
    (he : ∀ env : Env, starEach [e, .Name "bool" p2] env = (false, eval e env) :: starEach [.Name "bool" p2] env := by intro _; exact star_cons rfl) : EV T Γ (.Call (.Name "isinstance" p) [e, .Name "bool" p2] [] pos) δ L (.bl k) M1 := ev_isi hm ha hk hm2 boot_ty_bool hg2 (by decide) (by decide) hg he
theorem boot_ty_str : bootBuiltins "str" = some (.type "str") := by decide +kernel
theorem ev_is_str {e : Expr} {p p2 : Pos} {k : Bool} (hm : T.mg "isinstance" = none) (hm2 : T.mg "str" = none) (ha : EV T Γ e δ L x M1) (hk : x.isK "str" = some k) (hg2 : GlS Γ.sc "str" := by exact gls_of (by decide +kernel)) (hg : GlS Γ.sc "isinstance" := by exact gls_of (by decide +kernel))
    (he : ∀ env : Env, starEach [e, .Name "str" p2] env = (false, eval e env) :: starEach [.Name "str" p2] env := by intro _; exact star_cons rfl) : EV T Γ (.Call (.Name "isinstance" p) [e, .Name "str" p2] [] pos) δ L (.bl k) M1 := ev_isi hm ha hk hm2 boot_ty_str hg2 (by decide) (by decide) hg he
theorem boot_ty_tuple : bootBuiltins "tuple" = some (.type "tuple") := by decide +kernel
theorem ev_is_tuple {e : Expr} {p p2 : Pos} {k : Bool} (hm : T.mg "isinstance" = none) (hm2 : T.mg "tuple" = none) (ha : EV T Γ e δ L x M1) (hk : x.isK "tuple" = some k) (hg2 : GlS Γ.sc "tuple" := by exact gls_of (by decide +kernel)) (hg : GlS Γ.sc "isinstance" := by exact gls_of (by decide +kernel))
    (he : ∀ env : Env, starEach [e, .Name "tuple" p2] env = (false, eval e env) :: starEach [.Name "tuple" p2] env := by intro _; exact star_cons rfl) : EV T Γ (.Call (.Name "isinstance" p) [e, .Name "tuple" p2] [] pos) δ L (.bl k) M1 := ev_isi hm ha hk hm2 boot_ty_tuple hg2 (by decide) (by decide) hg he
theorem boot_ty_list : bootBuiltins "list" = some (.type "list") := by decide +kernel
theorem ev_is_list {e : Expr} {p p2 : Pos} {k : Bool} (hm : T.mg "isinstance" = none) (hm2 : T.mg "list" = none) (ha : EV T Γ e δ L x M1) (hk : x.isK "list" = some k) (hg2 : GlS Γ.sc "list" := by exact gls_of (by decide +kernel)) (hg : GlS Γ.sc "isinstance" := by exact gls_of (by decide +kernel))
    (he : ∀ env : Env, starEach [e, .Name "list" p2] env = (false, eval e env) :: starEach [.Name "list" p2] env := by intro _; exact star_cons rfl) : EV T Γ (.Call (.Name "isinstance" p) [e, .Name "list" p2] [] pos) δ L (.bl k) M1 := ev_isi hm ha hk hm2 boot_ty_list hg2 (by decide) (by decide) hg he
theorem EV.to {e : Expr} {d d' : D} (h : EV T Γ e δ L d M1) (q : d = d') : EV T Γ e δ L d' M1 := q ▸ h
theorem TV.to {e : Expr} {d d' : Bool} (h : TV T Γ e δ L d M1) (q : d = d') : TV T Γ e δ L d' M1 := q ▸ h
end
end G
set_option Elab.async false
set_option linter.all false
set_option maxRecDepth 100000
set_option maxHeartbeats 4000000
/-! G11: enumerate of a tuple, sum, tuple(..), list(..), t * k; try. -/
namespace G
open PySem PySem.Spec PyProof.Rows L2
/-! ### enumerate(tuple) -/
theorem meets_enumB1 {v : Value} {o : Obj} {H : Heap → Prop} (B : Begins v o H) :
    Meets (Builtin.«enumerate.__new__» ⟨[.type "enumerate", v], []⟩) (fun _ R s => H s.heap ∧
      R (.ok (.ret (.ref (s.heap.push o).objs.size))) { s with heap := (s.heap.push o).push { cls := .type "enumerate", data := .fields #[.none, .bool false, .ref s.heap.objs.size, rawInt 0, .none, .none] } }) :=
  .of_wp fun prog w A R s h => by
    obtain ⟨hp, g, d, tk, os⟩ := s
    obtain ⟨h1, h⟩ := h
    have hsub := sub_enumerate
    have q1 : ∀ {A' : Around} {E : Value → Shared → Prop} {Q : Value → Shared → Prop}, Q (.ref hp.objs.size) ⟨hp.push o, g, d, tk, os⟩ → wpAny (model prog w) A' (pyIter v) Q E ⟨hp, g, d, tk, os⟩ := fun q => B.iter prog w _ _ ⟨hp, g, d, tk, os⟩ _ h1 q
    wp_walk using q1
    refine wpAny_stack_any fun st => wpAny_pure ?_
    split
    · rename_i c _ _ _ _ _
      cases (c == Value.type "enumerate")
      · wp_walk using q1
        exact ⟨_, rfl, h⟩
      · wp_walk using q1
        exact ⟨_, rfl, h⟩
    · wp_walk using q1
      exact ⟨_, rfl, h⟩
theorem enum_beginsT {prog : Program} {w : World} {A : Around} {E : Value → Shared → Prop} {s : Shared} {a : Addr} {its : Array Value} {Q : Value → Shared → Prop} (h1 : s.heap.IsTuple a its)
    (h : ∀ h', IsEnum h' (s.heap.objs.size + 1) s.heap.objs.size 0 .none → h'.get? s.heap.objs.size = some { cls := .type "tuple_iterator", data := .fields #[.ref a, .int 0 0] } → h'.objs.size = s.heap.objs.size + 2 →
      (∀ b o, s.heap.get? b = some o → h'.get? b = some o) → Q (.ref (s.heap.objs.size + 1)) { s with heap := h' }) : wpAny (model prog w) A (call (.type "enumerate") [.ref a]) Q E s := by
  refine callType_new F.called_enumerate (by decide) (F.typeCall_enumerate_1 _) (F.newCall_enumerate_1 _) (fun obj => F.args_object_init_2 obj _) F.entry_enumerate_new (meets_enumB1 (begins_tuple a its)) ⟨h1, ?_⟩
  have hz : (s.heap.push { cls := .type "tuple_iterator", data := .fields #[.ref a, .int 0 0] }).objs.size = s.heap.objs.size + 1 := Heap.size_push ..
  show _ ∧ _
  rw [hz]
  have he : IsEnum ((s.heap.push { cls := .type "tuple_iterator", data := .fields #[.ref a, .int 0 0] }).push { cls := .type "enumerate", data := .fields #[.none, .bool false, .ref s.heap.objs.size, rawInt 0, .none, .none] }) (s.heap.objs.size + 1) s.heap.objs.size 0 .none := by
    have z := Heap.get?_push_size (s.heap.push { cls := .type "tuple_iterator", data := .fields #[.ref a, .int 0 0] }) (o := { cls := .type "enumerate", data := .fields #[.none, .bool false, .ref s.heap.objs.size, rawInt 0, .none, .none] }) rfl
    rw [hz] at z
    exact z
  exact ⟨⟨_, he, rfl⟩, h _ he (Heap.get?_push_of_some _ (Heap.get?_push_size _ rfl)) (by rw [Heap.size_push, hz]) fun b o x => Heap.get?_push_of_some _ (Heap.get?_push_of_some _ x)⟩
def IteT (K : PySem.W.Frag) (a : Addr) (n : Nat) : It :=
  ⟨fun i H => i < n ∧ ∃ (xs : List V) (x : V), SqT K H a xs ∧ xs[i]? = some x, fun i H v H' => ∃ P x, v = .ref P ∧ H P = none ∧ H' = upd H P (.tup [.int (i : Nat), x]) ∧ ∀ xs, SqT K H a xs → xs[i]? = some x, fun i H => n ≤ i ∧ ∃ xs : List V, SqT K H a xs ∧ xs.length = n⟩
theorem turn_enumT {P : Program} {w : World} {K : PySem.W.Frag} {elts : List Expr} {kk : Nat} {tpos : Pos} (a e it : Addr) (n : Nat) :
    Turn P w K (.Tuple elts kk tpos) (IteT K a n) [e, it] e (fun i h => i ≤ n ∧ (∃ old, IsEnum h e it ((i : Nat) : Int) old) ∧ h.IsTupleIter it a i ∧ e ≠ it ∧ a ≠ it ∧ a ≠ e) where
  mem := List.mem_cons_self
  obj := fun i h st b hb => by
    obtain ⟨_, ⟨old, he⟩, ⟨o, ho, hc, hd⟩, _⟩ := st
    rcases List.mem_cons.mp hb with z | z
    · rw [z]; exact ⟨_, he, fun v q => nomatch q⟩
    · rw [List.mem_singleton.mp z]; exact ⟨o, ho, fun v q => by rw [hd] at q; cases q⟩
  keep := fun i h h' st k => by
    obtain ⟨l, ⟨old, he⟩, hi, r⟩ := st
    exact ⟨l, ⟨old, k e (by simp) _ he⟩, hi.at fun o q => k it (by simp) o q, r⟩
  item := by
    intro X hP hw hK hc i pins s σ H E I hf st hg
    subst hP hw hK
    obtain ⟨_, ⟨old, he⟩, hit, hne, hai, hae⟩ := st
    obtain ⟨hin, xs, x, hq, hx⟩ := hg
    obtain ⟨its, rv, p, hz⟩ := I.tuple hq
    obtain ⟨u, hu, ru⟩ := rv.get hx
    have hel : e < s.heap.objs.size := Heap.lt_size he
    have hil : it < s.heap.objs.size := by obtain ⟨_, q, _⟩ := hit; exact Heap.lt_size q
    have hlt : i < its.toArray.size := by
      have := (List.getElem?_eq_some_iff.mp hu).1
      simpa using this
    refine wpAny_pyNext_enum_itemC (Draws.tuple (A := X.A.in1) (I.ok.hd hc) it a hai its.toArray) he ⟨hit, p⟩ hlt hne (by simp [hne, Ne.symm hae]) fun y h' tk hy ho hst' hT hsz hk => ?_
    have ey : y = u := by
      rw [← Array.getElem?_toList] at hy
      rw [show its.toArray.toList = its from rfl, hu] at hy
      cases hy
      rfl
    subst ey
    refine ⟨_, rfl, wpAny_letOwnedTupleGo_enum (s := { s with heap := h', toks := tk + 1 }) ho fun h'' he' sb => ?_⟩
    have hT2 : h''.get? s.heap.objs.size = some { cls := .type "tuple", data := .seq #[.int i tk, y] } := (sb.2 _ (Nat.ne_of_gt hel)).trans hT
    have new : ObjOk X.prog X.w (upd H s.heap.objs.size (.tup [.int (i : Nat), x])) h'' s.heap.objs.size (.tup [.int (i : Nat), x]) := ⟨by show 2 ≤ sizeLine; decide, [.int i tk, y], .cons ⟨_, rfl⟩ (.cons ru .nil), ⟨_, hT2, rfl, _, rfl⟩⟩
    have I1 : Inv X pins σ (upd H s.heap.objs.size (.tup [.int (i : Nat), x])) { s with heap := h'', toks := tk + 1 } :=
      I.turnedNew (ch := [e, it]) (fun b ob hb q => (sb.2 b (fun z => hb (by simp [z]))).trans (hk b ob (fun z => hb (by simp [z])) (fun z => hb (by simp [z])) q)) hf (Nat.le_refl _) new
    refine ⟨.ref s.heap.objs.size, _, I1, rfl, ⟨_, x, rfl, I.hok.fresh (Nat.le_refl _), rfl, fun ys hy => by rw [I.tuple_inj hy hq]; exact hx⟩, ⟨hin, ⟨y, ?_⟩, hst'.1.at fun o q => (sb.2 it (Ne.symm hne)).trans q, hne, hai, hae⟩, fun b hb => ?_⟩
    · have e1 : ((i + 1 : Nat) : Int) = (i : Int) + 1 := by omega
      rw [e1]; exact he'
    · have hb' : b < s.heap.objs.size := by
        rcases List.mem_cons.mp hb with z | z
        · rw [z]; exact hel
        · rw [List.mem_singleton.mp z]; exact hil
      rw [upd_ne (Nat.ne_of_lt hb')]
      exact (hf b hb).1
  done := by
    intro X hP hw hK hc i pins s σ H E I hf st hg
    subst hP hw hK
    obtain ⟨hin, ⟨old, he⟩, hit, hne, hai, hae⟩ := st
    obtain ⟨hni, xs, hq, hx⟩ := hg
    obtain ⟨its, rv, p, hz⟩ := I.tuple hq
    obtain ⟨f0, f1, f2, f3, f4, f5⟩ := hf it (by simp)
    have ei : i = its.toArray.size := by
      have := rv.length
      rw [List.size_toArray]
      omega
    rw [ei] at hit
    exact wpAny_pyNext_enum_endD (Draws.tuple (A := X.A.in1) (I.ok.hd hc) it a hai its.toArray) he ⟨hit, p⟩ fun h' eb => ⟨rfl, I.turned (t' := s.toks) (fun b o hb q => eb b o hb q) f0 f1 f3 f4 f5⟩
  self := fun A i s Q E st h => by
    obtain ⟨_, ⟨_, he⟩, _⟩ := st
    exact wpAny_pyIter_enum he h
def iEnumT (K : PySem.W.Frag) (ta : TA) : TI := fun σ H R => ta σ H fun vs H1 => ∃ a xs, vs = [.ref a] ∧ SqT K H1 a xs ∧ R (IteT K a xs.length) H1
theorem pi_enumT {X : Cx} {e : Expr} {ta : TA} {p pos tpos : Pos} {elts : List Expr} {kk : Nat} (hg : Gl X "enumerate") (hm : X.mg "enumerate" = none) (ha : PA X [e] ta) (hs : starEach [e] X.env = [(false, eval e X.env)]) :
    PI X (.Tuple elts kk tpos) (.Call (.Name "enumerate" p) [e] [] pos) (iEnumT X.K ta) := by
  constructor
  intro pins s σ H R I h
  refine Call_ (ld_blt I hg hm boot_enumerate (PyProof.Rows.callWith_type1 (thn (ha.run pos pins s σ H _ I h) fun us s1 ⟨vs, H1, I1, r1, a, xs, ex, hq, q⟩ => ?_) hs rfl))
  subst ex
  obtain ⟨u, rfl, rx⟩ := vals1 r1
  cases rx
  obtain ⟨its, rv, p', hz⟩ := I1.tuple hq
  have hal : a < s1.heap.objs.size := by obtain ⟨o, ho, _⟩ := p'; exact Heap.lt_size ho
  refine enum_beginsT p' fun h' he hit hsz hk => wpAny_pyIter_enum he ?_
  refine ⟨s1.heap.objs.size + 1, [s1.heap.objs.size + 1, s1.heap.objs.size], _, _, H1, rfl, I1.kept (t' := s1.toks) hk, turn_enumT a (s1.heap.objs.size + 1) s1.heap.objs.size xs.length, ⟨Nat.zero_le _, ⟨.none, he⟩, ⟨_, hit, rfl, rfl⟩, Nat.succ_ne_self _, Nat.ne_of_lt hal, Nat.ne_of_lt (Nat.lt_succ_of_lt hal)⟩, fun b hb => ?_, q⟩
  have hle : s1.heap.objs.size ≤ b := by
    rcases List.mem_cons.mp hb with z | z
    · rw [z]; exact Nat.le_succ _
    · rw [List.mem_singleton.mp z]; exact Nat.le_refl _
  exact I1.fpOk hle (I1.hok.fresh hle)
section
variable {T : Sta} {Γ : GC} {δ δ' : Env'} {L M1 M2 M3 L' : Store} {x y : D} {pos : Pos}
def enumD (ds : List D) : List D := (List.range ds.length).zipWith (fun i d => D.tup [.int (i : Nat), d]) ds
theorem enumD_len (ds : List D) : (enumD ds).length = ds.length := by simp [enumD]
theorem enumD_at {ds : List D} {i : Nat} {d : D} (h : (enumD ds)[i]? = some d) : ∃ e, ds[i]? = some e ∧ d = .tup [.int (i : Nat), e] := by
  unfold enumD at h
  rw [List.getElem?_zipWith] at h
  cases h1 : ds[i]? with
  | none => simp [h1] at h
  | some e =>
    have hi := (List.getElem?_eq_some_iff.mp h1).1
    simp [h1, List.getElem?_range hi] at h
    exact ⟨e, rfl, h.symm⟩
theorem iv_enumT {elts : List Expr} {kk : Nat} {tpos p : Pos} {e : Expr} {ds : List D} (h : EV T Γ e δ L (.tup ds) M1) (hm : T.mg "enumerate" = none) (hg : GlS Γ.sc "enumerate" := by exact gls_of (by decide +kernel)) (hs : ∀ env : Env, starEach [e] env = [(false, eval e env)] := by intro _; exact star_one rfl) : IV T Γ (.Tuple elts kk tpos) (.Call (.Name "enumerate" p) [e] [] pos) δ L (fun _ => True) (enumD ds) M1 := fun X F =>
  ⟨_, pi_enumT (F.gl hg) (by rw [F.mg]; exact hm) (pa_cons eself pa_nil (hs _)) (hs _), fun g σ W E R r => h X F g σ W E _ fun v g1 e1 W1 d1 => by
    cases d1 with
    | @tup a xs _ hp hl =>
      refine ⟨a, xs, rfl, by rw [F.K]; exact hp.sq, ?_⟩
      rw [F.K]
      refine r _ g1 e1 W1 ⟨fun g L i e W p hi => ?_, fun g L i x H' d e W p hd q => ?_, fun g L i e W p hi => ?_⟩
      · rw [enumD_len, ← hl.len] at hi
        exact ⟨hi, xs, xs[i], (hp.ext e).sq, List.getElem?_eq_getElem hi⟩
      · obtain ⟨P, y, rfl, hn, rfl, q2⟩ := q
        obtain ⟨c, h1, rfl⟩ := enumD_at hd
        obtain ⟨v, h3, h4⟩ := (hl.ext e).get h1
        have z := q2 xs (hp.ext e).sq
        rw [h3] at z
        cases z
        exact ⟨g.push P .data (.tup [.int (i : Nat), y]), rfl, push_ext hn, W.push hn, .tup (.inl ⟨.inl push_at, push_own⟩) (.cons (.int _) (.cons (h4.ext (push_ext hn)) .nil))⟩
      · rw [enumD_len, ← hl.len] at hi
        exact ⟨hi, xs, (hp.ext e).sq, rfl⟩⟩
theorem iv_enumL {elts : List Expr} {kk : Nat} {tpos p : Pos} {e : Expr} {ds : List D} (h : EV T Γ e δ L (.lst ds) M1) (hm : T.mg "enumerate" = none) (hg : GlS Γ.sc "enumerate" := by exact gls_of (by decide +kernel)) (hs : ∀ env : Env, starEach [e] env = [(false, eval e env)] := by intro _; exact star_one rfl) : IV T Γ (.Tuple elts kk tpos) (.Call (.Name "enumerate" p) [e] [] pos) δ L (fun _ => True) (enumD ds) M1 := fun X F =>
  ⟨_, pi_enum (F.gl hg) (by rw [F.mg]; exact hm) (pa_cons eself pa_nil (hs _)) (hs _), fun g σ W E R r => h X F g σ W E _ fun v g1 e1 W1 d1 => by
    cases d1 with
    | @lst a xs _ hp hl =>
      refine ⟨a, xs, rfl, by rw [F.K]; exact hp.sq, ?_⟩
      rw [F.K]
      refine r _ g1 e1 W1 ⟨fun g L i e W p hi => ?_, fun g L i x H' d e W p hd q => ?_, fun g L i e W p hi => ?_⟩
      · rw [enumD_len, ← hl.len] at hi
        exact ⟨xs, xs[i], (hp.ext e).sq, List.getElem?_eq_getElem hi⟩
      · obtain ⟨P, y, rfl, hn, rfl, q2⟩ := q
        obtain ⟨c, h1, rfl⟩ := enumD_at hd
        obtain ⟨v, h3, h4⟩ := (hl.ext e).get h1
        have z := q2 xs (hp.ext e).sq
        rw [h3] at z
        cases z
        exact ⟨g.push P .data (.tup [.int (i : Nat), y]), rfl, push_ext hn, W.push hn, .tup (.inl ⟨.inl push_at, push_own⟩) (.cons (.int _) (.cons (h4.ext (push_ext hn)) .nil))⟩
      · rw [enumD_len, ← hl.len] at hi
        exact ⟨xs, (hp.ext e).sq, hi⟩⟩
/-! ### sum, tuple, list -/
def rSumQ (K : PySem.W.Frag) : List V → Hp → VK → Prop := fun vs H Q => ∃ (a : Addr) (ns : List Int), vs = [V.ref a] ∧ (SqL K H a (ns.map V.int) ∨ SqT K H a (ns.map V.int)) ∧ Q (.int ns.sum) H
theorem cr_sumQ {X : Cx} (hc : X.calm = true) : CallR X (.builtin "sum") (rSumQ X.K) := by
  intro pins s σ H vs us Q I r h
  obtain ⟨a, ns, rfl, hs | hs, q⟩ := h
  · exact cr_sum hc pins s σ H _ us Q I r ⟨a, ns, rfl, hs, q⟩
  · obtain ⟨u, rfl, rx⟩ := vals1 r
    cases rx
    obtain ⟨its, rv, hl, _⟩ := I.tuple hs
    obtain ⟨xs, hx⟩ := rv.ints.allInts.items
    have hn : numsOf its.toArray.toList = ns := by rw [show its.toArray.toList = its from rfl, rv.ints.numsOf]
    rw [hx] at hn hl
    rw [nums_intItems] at hn
    refine PySem.W.ktm_sumG (I.ok.hd hc) hl fun h' tk t' hk => ⟨.int ns.sum, H, I.kept hk, ⟨t', ?_⟩, q⟩
    rw [preSum_eq, List.take_of_length_le (by simp), hn]
theorem ev_sum {e : Expr} {p : Pos} {ns : List Int} (hm : T.mg "sum" = none) (ha : EV T Γ e δ L x M1) (s : SeqD M1 x (ns.map D.int)) (hc : Γ.c = true := by rfl) (hg : GlS Γ.sc "sum" := by exact gls_of (by decide +kernel)) (he : ∀ env : Env, starEach [e] env = (false, eval e env) :: starEach [] env := by intro _; exact star_cons rfl) : EV T Γ (.Call (.Name "sum" p) [e] [] pos) δ L (.int ns.sum) M1 :=
  ev_bt (rSumQ T.K) (fun X F => by rw [← F.K]; exact cr_sumQ (F.calm.trans hc)) hm (by decide +kernel) (av_cons ha av_nil he) (fun g vs W dv Q q => by
    cases dv with
    | cons h r =>
      cases r
      obtain ⟨A, xs, rfl, h1, h2⟩ := s.at W h
      rw [h2.ints_eq] at h1
      exact ⟨A, ns, rfl, h1, q _ g (.refl g) W (.int _)⟩) hg (he := he)
def rTupQ (K : PySem.W.Frag) : List V → Hp → VK → Prop := fun xs H Q => ∃ p ys, xs = [.ref p] ∧ ((SqL K H p ys ∧ ∀ l, H l = none → Q (.ref l) (upd H l (.tup ys))) ∨ (SqT K H p ys ∧ Q (.ref p) H))
def rLstQ (K : PySem.W.Frag) : List V → Hp → VK → Prop := fun xs H Q => ∃ p ys, xs = [.ref p] ∧ (SqL K H p ys ∨ SqT K H p ys) ∧ ∀ l, H l = none → Q (.ref l) (upd H l (.lst ys))
/-- tuple(x), x a list -/
theorem ev_tupleL {e : Expr} {p : Pos} {ds : List D} (hm : T.mg "tuple" = none) (ha : EV T Γ e δ L (.lst ds) M1) (hg : GlS Γ.sc "tuple" := by exact gls_of (by decide +kernel)) (he : ∀ env : Env, starEach [e] env = (false, eval e env) :: starEach [] env := by intro _; exact star_cons rfl) : EV T Γ (.Call (.Name "tuple" p) [e] [] pos) δ L (.tup ds) M1 :=
  ev_ty (rTupQ T.K) (fun X F => by rw [← F.K]; exact call_tuple_of) hm boot_ty_tuple (av_cons ha av_nil he) (fun g vs W dv Q q => by
    cases dv with
    | cons h r =>
      cases r
      cases h with
      | lst hp hl => exact ⟨_, _, rfl, .inl ⟨hp.sq, fun l hl' => q _ (g.push l .data (.tup _)) (push_ext hl') (W.push hl') (.tup (.inl ⟨.inl push_at, push_own⟩) (hl.ext (push_ext hl')))⟩⟩) hg (he := he)
theorem ev_tupleT {e : Expr} {p : Pos} {ds : List D} (hm : T.mg "tuple" = none) (ha : EV T Γ e δ L (.tup ds) M1) (hg : GlS Γ.sc "tuple" := by exact gls_of (by decide +kernel)) (he : ∀ env : Env, starEach [e] env = (false, eval e env) :: starEach [] env := by intro _; exact star_cons rfl) : EV T Γ (.Call (.Name "tuple" p) [e] [] pos) δ L (.tup ds) M1 :=
  ev_ty (rTupQ T.K) (fun X F => by rw [← F.K]; exact call_tuple_of) hm boot_ty_tuple (av_cons ha av_nil he) (fun g vs W dv Q q => by
    cases dv with
    | cons h r =>
      cases r
      cases h with
      | tup hp hl => exact ⟨_, _, rfl, .inr ⟨hp.sq, q _ g (.refl g) W (.tup hp hl)⟩⟩) hg (he := he)
/-- tuple(x), x a cell's list -/
theorem ev_tupleC {e : Expr} {p : Pos} {k : Nat} {ds : List D} (hm : T.mg "tuple" = none) (ha : EV T Γ e δ L (.ref k) M1) (hk : M1[k]? = some (.list ds)) (hg : GlS Γ.sc "tuple" := by exact gls_of (by decide +kernel)) (he : ∀ env : Env, starEach [e] env = (false, eval e env) :: starEach [] env := by intro _; exact star_cons rfl) : EV T Γ (.Call (.Name "tuple" p) [e] [] pos) δ L (.tup ds) M1 :=
  ev_ty (rTupQ T.K) (fun X F => by rw [← F.K]; exact call_tuple_of) hm boot_ty_tuple (av_cons ha av_nil he) (fun g vs W dv Q q => by
    cases dv with
    | cons h r =>
      cases r
      cases h with
      | ref hn =>
        obtain ⟨_, xs, h1, h2⟩ := W.list hk
        exact ⟨_, _, rfl, .inl ⟨.inl (.inl h1), fun l hl' => q _ (g.push l .data (.tup _)) (push_ext hl') (W.push hl') (.tup (.inl ⟨.inl push_at, push_own⟩) (h2.ext (push_ext hl')))⟩⟩) hg (he := he)
theorem boot_ty_list' : bootBuiltins "list" = some (.type "list") := boot_ty_list
theorem ev_listOf {e : Expr} {p : Pos} {ds : List D} (hm : T.mg "list" = none) (ha : EV T Γ e δ L x M1) (s : SeqD M1 x ds) (hg : GlS Γ.sc "list" := by exact gls_of (by decide +kernel)) (he : ∀ env : Env, starEach [e] env = (false, eval e env) :: starEach [] env := by intro _; exact star_cons rfl) : EV T Γ (.Call (.Name "list" p) [e] [] pos) δ L (.lst ds) M1 :=
  ev_ty (rLstQ T.K) (fun X F => by rw [← F.K]; exact call_list_of) hm boot_ty_list (av_cons ha av_nil he) (fun g vs W dv Q q => by
    cases dv with
    | cons h r =>
      cases r
      obtain ⟨A, xs, rfl, h1, h2⟩ := s.at W h
      exact ⟨_, _, rfl, h1, fun l hl' => q _ (g.push l .data (.lst _)) (push_ext hl') (W.push hl') (.lst ⟨push_at, push_own⟩ (h2.ext (push_ext hl')))⟩) hg (he := he)
/-! ### t * k -/
theorem DtL.flat {K : PySem.W.Frag} {g : Gw} {vs : List V} {ds : List D} (h : DtL K g vs ds) : ∀ n : Nat, DtL K g (List.replicate n vs).flatten (List.replicate n ds).flatten
  | 0 => .nil
  | n + 1 => by
    rw [List.replicate_succ, List.replicate_succ, List.flatten_cons, List.flatten_cons]
    exact h.append (DtL.flat h n)
theorem ev_rep {a b : Expr} {ds : List D} {k : Int} (ha : EV T Γ a δ L (.tup ds) M1) (hb : EV T Γ b δ M1 (.int k) M2) (hne : ds ≠ []) (h1 : 2 ≤ k ∧ k ≤ 1000 ∧ ds.length ≤ 1000) : EV T Γ (.BinOp a .Mult b pos) δ L (.tup (List.replicate k.toNat ds).flatten) M2 :=
  ev_op (rRepT T.K) (fun X F => by rw [← F.K]; exact op_repT) ha hb fun g v u W dv du Q q => by
    cases du
    cases dv with
    | tup hp hl =>
      refine ⟨_, k, _, rfl, rfl, hp.sq, ?_, h1.1, h1.2.1, by rw [hl.len]; exact h1.2.2, fun p hn => q _ (g.push p .data (.tup _)) (push_ext hn) (W.push hn) (.tup (.inl ⟨.inl push_at, push_own⟩) ((hl.flat _).ext (push_ext hn)))⟩
      intro e
      rw [e] at hl
      cases hl
      exact hne rfl
end
end G
set_option Elab.async false
set_option linter.all false
set_option maxRecDepth 100000
set_option maxHeartbeats 4000000
/-! G12: t.index(x); try. -/
namespace G
open PySem PySem.Spec PyProof.Rows L2
section
variable {X : Cx}
/-- at p there lies such a tuple -/
def XTs (K : PySem.W.Frag) (H : Hp) (p : Addr) (ss : List Str) : Prop := (∃ o : Obj, K.lookup p = some o ∧ ∀ h : Heap, h.get? p = some o → XTo h p ss) ∨ ∃ φ, H p = some (.ext φ) ∧ ∀ h, φ h → XTo h p ss
def tTI (K : PySem.W.Frag) (to ta : TE) : TE := fun σ H Q => to σ H fun x H1 => ∃ p ss, x = .ref p ∧ XTs K H1 p ss ∧ ta σ H1 fun y H2 => XTs K H2 p ss ∧ ∃ z j, y = .str z ∧ ss[j]? = some z ∧ (∀ m, m < j → ss[m]? ≠ some z) ∧ Q (.int (j : Nat)) H2
theorem pe_tidx {o e : Expr} {to ta : TE} {apos cpos : Pos} (ho : PE X o to) (ha : PE X e ta) (hbase : attributeBase o "index" X.env (eval o X.env) = eval o X.env)
    (hfew : ((backTo cpos (starEach [e] X.env)).all (fun x => !x.1) && (backToKw cpos (keywordEach [] X.env)).all (fun x => x.1.isSome) && decide ([e].length + ([] : List Keyword).length + (if ([] : List Keyword).isEmpty then 0 else 1) < 30)) = true)
    (hline : (apos.endLine == cpos.line) = true) (hs : starEach [e] X.env = (false, eval e X.env) :: starEach [] X.env) : PE X (.Call (.Attribute o "index" apos) [e] [] cpos) (tTI X.K to ta) := by
  refine ⟨fun pins s σ H Q I h => ?_⟩
  refine wpAny_Call_method_late hbase hfew hline rfl (thn (ho.run pins s σ H _ I h) fun v s1 ⟨x, H1, I1, r1, p, ss, ex, hp, q1⟩ => ?_)
  subst ex
  cases r1
  have there : ∀ {s2 : Shared} {H2 : Hp}, Inv X pins σ H2 s2 → XTs X.K H2 p ss → XTo s2.heap p ss := fun {s2 H2} I2 st => by
    rcases st with ⟨o, h1, h2⟩ | ⟨φ, h1, h2⟩
    · exact h2 _ (I2.kIn p o h1)
    · exact h2 _ (I2.hok p _ h1).1
  have XIDX : ∀ (s2 : Shared) (H2 : Hp), Inv X pins σ H2 s2 → ∀ (u : Value) (y : V), RelV y u → XTs X.K H2 p ss → ∀ (z : Str) (j : Nat), y = .str z → ss[j]? = some z → (∀ m, m < j → ss[m]? ≠ some z) → Q (.int (j : Nat)) H2 →
      wpAny (model X.prog X.w) X.A (call (.builtin "tuple.index") [.ref p, u]) (EP X pins σ Q) X.xe s2 := by
    intro s2 H2 I2 u y r2 st z j ey hy hno q
    subst ey
    obtain ⟨t, rfl⟩ := r2
    obtain ⟨its, n, sl, e1, rv⟩ := there I2 st
    have hl : its.toArray.size = ss.length := by rw [List.size_toArray, ← rv.length, List.length_map]
    have hj : j < its.toArray.size := by rw [hl]; exact (List.getElem?_eq_some_iff.mp hy).1
    have at' : ∀ (m : Nat) (hm : m < its.toArray.size), ∃ y t', ss[m]? = some y ∧ its.toArray[m] = Value.str y t' := fun m hm => by
      have hm' : m < ss.length := by rw [← hl]; exact hm
      obtain ⟨w, hw, t', hw'⟩ := rv.get (i := m) (x := .str ss[m]) (by simp [hm'])
      have e := (List.getElem?_eq_some_iff.mp hw).2
      exact ⟨ss[m], t', List.getElem?_eq_getElem hm', by rw [← hw', ← e]; simp⟩
    refine call_meets PySem.F.slot_tuple_index ⟨_, e1, rfl⟩ PySem.F.entry_tuple_index (PySem.F.args_tuple_index_2 _ _) (TI.tuple_indexAt p its.toArray n none sl (.str z t) (eqU (.str z)) j hj ?_ ?_)
      ⟨e1, fun w hw => mem_eqAt (x := .str z) ⟨t, rfl⟩ rfl rv (flat_strs ss) w (by simpa using hw), ⟨.int (j : Nat), H2, I2.tok _, ⟨_, rfl⟩, q⟩⟩
    · obtain ⟨y, t', h1, h2⟩ := at' j hj
      rw [hy] at h1
      cases h1
      rw [h2]
      show (z == z) = true
      simp
    · intro m hm hmj
      obtain ⟨y, t', h1, h2⟩ := at' m hm
      rw [h2]
      show (y == z) = false
      exact beq_eq_false_iff_ne.mpr fun e => hno m hmj (e ▸ h1)
  obtain ⟨its, n, sl, e1, rv⟩ := there I1 hp
  refine ⟨"tuple", "tuple.index", F.plainAttrs_tuple, F.slot_tuple_index, F.type_tuple_index, ⟨_, e1, rfl⟩, fun a ea => ?_, ?_⟩
  · cases ea
    exact ⟨_, e1, rfl⟩
  · have hA : wpAny (model X.prog X.w) X.A (spliced (backTo cpos (starEach [e] X.env))) (fun us s2 => wpAny (model X.prog X.w) X.A (call (.builtin "tuple.index") (.ref p :: us)) (EP X pins σ Q) X.xe s2) X.xe s1 := by
      refine one_arg ha I1 q1 (fun u s2 y H2 I2 r2 ⟨st, z, j, ey, hy, hno, q⟩ => ?_) hs
      exact XIDX s2 H2 I2 u y r2 st z j ey hy hno q
    rw [hs] at hA ⊢
    exact Calls.callWith_builtin rfl (Calls.evalArgs_plain hA)
end
section
variable {T : Sta} {Γ : GC} {δ δ' : Env'} {L M1 M2 M3 L' : Store} {x y : D} {pos : Pos}
theorem Wo.xtup {K : PySem.W.Frag} {g : Gw} {k : Nat} {ss : List Str} (W : Wo K g L) (h : L[k]? = some (.xtup ss)) : XTs K g.H (g.ι k) ss := by
  obtain ⟨_, φ, h1, h2⟩ := W.at_ k _ h
  exact .inr ⟨φ, h1, h2⟩
def tTupX (t : TA) : TE := fun σ H Q => t σ H fun xs H1 => xs.length ≤ sizeLine ∧ ∃ ss : List Str, xs = ss.map V.str ∧ ∀ p φ, H1 p = none → (∀ h, φ h → XTo h p ss) → Q (.ref p) (upd H1 p (.ext φ))
theorem pe_tupX {X : Cx} {es : List Expr} {t : TA} {x1} {pos : Pos} (h : PA X es t) : PE X (.Tuple es x1 pos) (tTupX t) := by
  constructor
  intro pins s σ H Q I hq
  refine wpAny_Tuple_spliced (thn (h.run pos pins s σ H _ I hq) fun us s1 ⟨xs, H1, I1, r, z, ss, exs, q⟩ => ⟨by rw [← r.length]; exact z, ?_⟩)
  subst exs
  have e1 : (s1.heap.push { cls := .type "tuple", data := .seq us.toArray }).get? s1.heap.objs.size = some { cls := .type "tuple", data := .seq us.toArray } := Heap.get?_push_size _ rfl
  exact ⟨.ref s1.heap.objs.size, upd H1 s1.heap.objs.size (.ext fun h => h.get? s1.heap.objs.size = some { cls := .type "tuple", data := .seq us.toArray }),
    I1.laid (t' := s1.toks) (fun b u e => Heap.get?_push_of_some _ e) (Nat.le_refl _) ⟨e1, ⟨_, e1⟩, fun h1 h2 k c => c _ k⟩, rfl, q _ _ (I1.hok.fresh (Nat.le_refl _)) fun h e => ⟨us, _, _, e, r⟩⟩
theorem DtL.strs_eq {K : PySem.W.Frag} {g : Gw} : ∀ {ss : List Str} {xs : List V}, DtL K g xs (ss.map D.str) → xs = ss.map V.str
  | [], _, h => by cases h; rfl
  | s :: r, _, h => by
    cases h with
    | cons h1 h2 =>
      cases h1
      rw [DtL.strs_eq h2]
      rfl
/-- a tuple of texts as a new cell -/
theorem en_xtup {es : List Expr} {n : Nat} {ss : List Str} (h : AV T Γ es δ L (ss.map D.str) M1) (hl : ss.length ≤ sizeLine) : EV T Γ (.Tuple es n pos) δ L (.ref M1.length) (M1 ++ [.xtup ss]) := fun X F g σ W E Q q =>
  eby (pe_tupX aself) (h X F g σ W E _ fun vs g1 e1 W1 d1 => ⟨by rw [d1.len, List.length_map]; exact hl, ss, d1.strs_eq, fun p φ hp hφ => by
    exact q (.ref p) (g1.cell p (.ext φ)) (e1.trans (cell_ext hp)) (W1.cell hp ⟨by rw [cell_ι]; exact cell_own, φ, by rw [cell_ι]; exact upd_same, by rw [cell_ι]; exact hφ⟩) (by
      have hn : M1.length < (g1.cell p (.ext φ)).n := by
        show M1.length < g1.n + 1
        rw [W1.n]
        exact Nat.lt_succ_self _
      have r := Dt.ref (K := T.K) (g := g1.cell p (.ext φ)) hn
      rw [← W1.n] at r ⊢
      rw [cell_ι] at r
      exact r)⟩)
def firstAt (ss : List Str) (z : Str) : Nat := ss.findIdx fun x => decide (x = z)
theorem firstAt_ok {ss : List Str} {z : Str} (h : z ∈ ss) : ss[firstAt ss z]? = some z ∧ ∀ m, m < firstAt ss z → ss[m]? ≠ some z := by
  have hl : firstAt ss z < ss.length := List.findIdx_lt_length_of_exists ⟨z, h, decide_eq_true rfl⟩
  refine ⟨?_, fun m hm e => ?_⟩
  · rw [List.getElem?_eq_getElem hl]
    have := List.findIdx_getElem (xs := ss) (p := fun x => decide (x = z)) (w := hl)
    exact congrArg some (of_decide_eq_true this)
  · have hm' : m < ss.length := Nat.lt_trans hm hl
    have := List.not_of_lt_findIdx hm
    rw [List.getElem?_eq_getElem hm'] at e
    cases e
    simp at this
theorem ev_xidx {o e : Expr} {apos : Pos} {k : Nat} {ss : List Str} {z : Str} (ho : EV T Γ o δ L (.ref k) M1) (ha : EV T Γ e δ M1 (.str z) M2) (hk : M1[k]? = some (.xtup ss)) (hk2 : M2[k]? = some (.xtup ss)) (hz : z ∈ ss) (hbase : ∀ env : Env, attributeBase o "index" env (eval o env) = eval o env := by intro _; rfl)
    (hfew : ∀ env : Env, ((backTo pos (starEach [e] env)).all (fun x => !x.1) && (backToKw pos (keywordEach [] env)).all (fun x => x.1.isSome) && decide ([e].length + ([] : List Keyword).length + (if ([] : List Keyword).isEmpty then 0 else 1) < 30)) = true := by intro _; rfl)
    (hline : (apos.endLine == pos.line) = true := by rfl) (hs : ∀ env : Env, starEach [e] env = (false, eval e env) :: starEach [] env := by intro _; exact star_cons rfl) : EV T Γ (.Call (.Attribute o "index" apos) [e] [] pos) δ L (.int (firstAt ss z : Nat)) M2 := fun X F g σ W E Q q => by
  refine eby (pe_tidx eself eself (hbase _) (hfew _) hline (hs _)) ?_
  refine ho X F g σ W E _ fun v g1 e1 W1 d1 => ?_
  cases d1 with
  | ref hn =>
    refine ⟨_, ss, rfl, by rw [F.K]; exact W1.xtup hk, ?_⟩
    refine ha X F g1 σ W1 (E.ext e1) _ fun u g2 e2 W2 d2 => ?_
    cases d2
    obtain ⟨z1, z2⟩ := firstAt_ok hz
    refine ⟨?_, z, _, rfl, z1, z2, q _ g2 (e1.trans e2) W2 (.int _)⟩
    rw [F.K, ← e2.ι k hn]
    exact W2.xtup hk2
/-- a tuple of texts of the written part -/
def kxB (K : PySem.W.Frag) (x : Str) (ss : List Str) : Bool := match K.lookup (He.ga K x) with
  | some ⟨.type c, .none, .seq its _, _⟩ => decide (c = "tuple") && (decide (its.size ≤ sizeLine) && He.relAll (ss.map V.str) its.toList)
  | _ => false
theorem kxB_ok {K : PySem.W.Frag} {x : Str} {ss : List Str} (h : kxB K x ss = true) : KT K (He.ga K x) (ss.map V.str) ∧ ∃ o : Obj, K.lookup (He.ga K x) = some o ∧ ∀ h : Heap, h.get? (He.ga K x) = some o → XTo h (He.ga K x) ss := by
  unfold kxB at h
  split at h
  · rename_i c its n sl q
    rw [Bool.and_eq_true, Bool.and_eq_true] at h
    have e := of_decide_eq_true h.1
    subst e
    have r := He.relAll_ok h.2.2
    exact ⟨⟨_, its, n, q, rfl, rfl, of_decide_eq_true h.2.1, r⟩, _, q, fun h e => ⟨its.toList, n, sl, by rw [Array.toArray_toList]; exact e, r⟩⟩
  · cases h
theorem DtL.strs {K : PySem.W.Frag} {g : Gw} : ∀ (ss : List Str), DtL K g (ss.map V.str) (ss.map D.str)
  | [] => .nil
  | s :: r => .cons (.str s) (DtL.strs r)
theorem ev_kx {n : Str} {p : Pos} {ss : List Str} (hm : T.mg n = some (.ref (He.ga T.K n))) (hk : kxB T.K n ss = true) (hg : GlS Γ.sc n := by exact gls_of (by decide +kernel)) (h1 : (n == ("__debug__" : Str)) = false := by decide +kernel) : EV T Γ (.Name n p) δ L (.tup (ss.map D.str)) L :=
  ev_glob (v := .ref (He.ga T.K n)) hm rfl (fun g => .tup (.inr (kxB_ok hk).1) (DtL.strs ss)) hg h1
theorem ev_kidx {n : Str} {p : Pos} {e : Expr} {apos : Pos} {ss : List Str} {z : Str} (hm : T.mg n = some (.ref (He.ga T.K n))) (hK : kxB T.K n ss = true) (ha : EV T Γ e δ L (.str z) M2) (hz : z ∈ ss) (hg : GlS Γ.sc n := by exact gls_of (by decide +kernel)) (h1 : (n == ("__debug__" : Str)) = false := by decide +kernel) (hbase : ∀ env : Env, attributeBase (.Name n p) "index" env (eval (.Name n p) env) = eval (.Name n p) env := by intro _; rfl)
    (hfew : ∀ env : Env, ((backTo pos (starEach [e] env)).all (fun x => !x.1) && (backToKw pos (keywordEach [] env)).all (fun x => x.1.isSome) && decide ([e].length + ([] : List Keyword).length + (if ([] : List Keyword).isEmpty then 0 else 1) < 30)) = true := by intro _; rfl)
    (hline : (apos.endLine == pos.line) = true := by rfl) (hs : ∀ env : Env, starEach [e] env = (false, eval e env) :: starEach [] env := by intro _; exact star_cons rfl) : EV T Γ (.Call (.Attribute (.Name n p) "index" apos) [e] [] pos) δ L (.int (firstAt ss z : Nat)) M2 := fun X F g σ W E Q q => by
  refine eby (pe_tidx (pe_glob (v := .ref (He.ga T.K n)) (F.gl hg) (by rw [F.mg]; exact hm) rfl h1) eself (hbase _) (hfew _) hline (hs _)) ?_
  have kx := (kxB_ok hK).2
  refine ⟨_, ss, rfl, by rw [F.K]; exact .inl kx, ?_⟩
  refine ha X F g σ W E _ fun u g2 e2 W2 d2 => ?_
  cases d2
  obtain ⟨z1, z2⟩ := firstAt_ok hz
  exact ⟨by rw [F.K]; exact .inl kx, z, _, rfl, z1, z2, q _ g2 e2 W2 (.int _)⟩
/-! ### try -/
def GC.off (Γ : GC) : GC := ⟨Γ.N, Γ.sc, Γ.k, false⟩
theorem FitF.tr {X : Cx} (F : FitF T Γ X) {pn : List (Addr × Obj)} {xe : Value → Shared → Prop} (po : PassesOwn (model X.prog X.w) X.A X.env xe) : FitF T Γ (X.tr pn xe) :=
  ⟨⟨F.P, F.w, F.K, F.mg, F.base, F.N, F.sc, F.calm, F.room, F.nd⟩, F.stk, F.fr, F.ex, F.fn, po⟩
theorem FitF.suite {X : Cx} (F : FitF T Γ X) {a : Addr} {pn : List (Addr × Obj)} : FitF T Γ.off (X.suite a pn) :=
  ⟨⟨F.P, F.w, F.K, F.mg, F.base, F.N, F.sc, rfl, (fun h => nomatch h), F.nd⟩, F.stk, F.fr, F.ex, F.fn, PassesOwn.never⟩
/-- the reading of a suite -/
def uXV (X : Cx) (suite : List Stmt) (a : Addr) (cls : Value) (d : Option Addr) : TS := fun D σ H => ∀ (oe : Obj) (pn : List (Addr × Obj)), Zc cls d oe → (∃ vs, oe.data = .fields vs) → BXV (X.suite a ((a, oe) :: pn)) suite D σ H
/-- the clauses, each an exception class of one's own by its name -/
inductive HdF (T : Sta) (Γ : GC) : List ExceptHandler → List (Str × List Stmt) → Prop
  | nil : HdF T Γ [] []
  | cons {x : Str} {b₀ : Stmt} {suite : List Stmt} {np p : Pos} {hds : List ExceptHandler} {l : List (Str × List Stmt)} (c : XC T x) (hg : GlS Γ.sc x) (hdb : (x == ("__debug__" : Str)) = false) (r : HdF T Γ hds l) : HdF T Γ (.ExceptHandler (some (.Name x np)) none (b₀ :: suite) p :: hds) ((x, b₀ :: suite) :: l)
/-- what the clauses make of an exception C -/
inductive HV (T : Sta) (Γ : GC) (C : Str) : List (Str × List Stmt) → Env' → Store → Oc → Store → Prop
  | out {a : Env'} {S : Store} : HV T Γ C [] a S (.ex C a) S
  | hit {x : Str} {su : List Stmt} {l : List (Str × List Stmt)} {a : Env'} {S S' : Store} {o : Oc} (m : PySem.W.exmOne T.K (.ref (He.ga T.K C)) (.ref (He.ga T.K x)) = some true) (s : SV T Γ.off su a S o S') (ne : ∀ C' a', o ≠ .ex C' a') : HV T Γ C ((x, su) :: l) a S o S'
  | miss {x : Str} {su : List Stmt} {l : List (Str × List Stmt)} {a : Env'} {S S' : Store} {o : Oc} (m : PySem.W.exmOne T.K (.ref (He.ga T.K C)) (.ref (He.ga T.K x)) = some false) (s : HV T Γ C l a S o S') : HV T Γ C ((x, su) :: l) a S o S'
theorem HdF.ok {X : Cx} (F : FitF T Γ X) : ∀ {hds : List ExceptHandler} {l : List (Str × List Stmt)}, HdF T Γ hds l → HdsOk X hds (l.map fun p => (.ref (He.ga T.K p.1), uXV X p.2))
  | _, _, .nil => .nil
  | _, _, .cons c hg hdb r => .cons ⟨F.fit.gl hg, hdb, .inl (by rw [F.mg]; exact c.mg)⟩ (fun a oe cls d pn hz hd => ⟨fun pins s σ H D I h => (h oe pn hz hd).run pins s I⟩) (HdF.ok F r)
theorem PostS.noex {K : PySem.W.Frag} {D : Ends} {W W' : WX} {g : Gw} {o : Oc} (ne : ∀ C' a', o ≠ .ex C' a') (h : PostS K D W g o L') : PostS K D W' g o L' := by
  cases o with
  | ex C a => exact absurd rfl (ne C a)
  | nx a => exact h
  | rt d => exact h
  | bk a => exact h
  | ct a => exact h
theorem HV.run {X : Cx} (F : FitF T Γ X) {Wx : WX} {D : Ends} {C : Str} : ∀ {l : List (Str × List Stmt)} {a : Env'} {S : Store} {o : Oc} {g : Gw} {σ : L2.St}, HV T Γ C l a S o L' → Wo T.K g S → EnvOk T.K g σ a → PostS T.K D Wx g o L' →
    wMany X.K Wx D (l.map fun p => (.ref (He.ga T.K p.1), uXV X p.2)) (.ref (He.ga T.K C)) none σ g.H
  | _, _, _, _, g, σ, .out, W, E, q => q g σ (.refl g) W E
  | _, _, _, _, g, σ, .hit m s ne, W, E, q => ⟨true, by rw [F.K]; exact m, fun _ a _ oe pn _ _ => s _ F.suite (fun _ _ _ _ => False) takes_none5 g σ W E D (q.noex ne), fun z => nomatch z⟩
  | _, _, _, _, g, σ, .miss m s, W, E, q => ⟨false, by rw [F.K]; exact m, (fun z => nomatch z), fun _ => HV.run F s W E q⟩
theorem s_try {body : List Stmt} {h₀ : ExceptHandler} {hds : List ExceptHandler} {l : List (Str × List Stmt)} {o : Oc} (hb : SV T Γ body δ L o L') (hh : HdF T Γ (h₀ :: hds) l) (ne : ∀ C' a', o ≠ .ex C' a') : S1 T Γ (.Try body (h₀ :: hds) [] [] pos) δ L o L' := fun X F Wx tk g σ W E D q => by
  refine sby (ps_try_many (tb := fun Wb D σ H => ∀ (pn : List (Addr × Obj)) (xe : Value → Shared → Prop), Takes (X.tr pn xe) Wb → PassesOwn (model X.prog X.w) X.A X.env xe → BXV (X.tr pn xe) body D σ H) F.stk F.fr tk (fun Wb pn xe t po => ⟨fun pins s σ H D I h => (h pn xe t po).run pins s I⟩) (hh.ok F)) ?_
  intro pn xe t po
  exact hb _ (F.tr po) _ t g σ W E D (q.noex ne)
theorem s_tryX {body : List Stmt} {h₀ : ExceptHandler} {hds : List ExceptHandler} {l : List (Str × List Stmt)} {C : Str} {o : Oc} (hb : SV T Γ body δ L (.ex C δ') M1) (hh : HdF T Γ (h₀ :: hds) l) (hv : HV T Γ C l δ' M1 o L') : S1 T Γ (.Try body (h₀ :: hds) [] [] pos) δ L o L' := fun X F Wx tk g σ W E D q => by
  refine sby (ps_try_many (tb := fun Wb D σ H => ∀ (pn : List (Addr × Obj)) (xe : Value → Shared → Prop), Takes (X.tr pn xe) Wb → PassesOwn (model X.prog X.w) X.A X.env xe → BXV (X.tr pn xe) body D σ H) F.stk F.fr tk (fun Wb pn xe t po => ⟨fun pins s σ H D I h => (h pn xe t po).run pins s I⟩) (hh.ok F)) ?_
  intro pn xe t po
  refine hb _ (F.tr po) _ t g σ W E D fun g1 σ1 e1 W1 E1 => ?_
  exact hv.run F W1 E1 (q.ext e1)
end
end G
set_option Elab.async false
set_option linter.all false
set_option maxRecDepth 100000
set_option maxHeartbeats 4000000
/-! G13: tests by comparison; small things. -/
namespace G
open PySem PySem.Spec PyProof.Rows L2
theorem nof {p : Prop} (h : false = true) : p := nomatch h
theorem nft {p : Prop} (h : true = false) : p := nomatch h
section
variable {T : Sta} {Γ : GC} {δ δ' : Env'} {L M1 M2 M3 L' : Store} {x y : D} {a b : Expr} {pos : Pos}
theorem tv_eq (ha : EV T Γ a δ L x M1) (hb : EV T Γ b δ M1 y M2) (hx : SeqAt.shaped x.py = true) (hy : SeqAt.shaped y.py = true) (hc : Γ.c = true := by rfl) : TV T Γ (.Compare a [.Eq] [b] pos) δ L (PyData.eqv x.py y.py) M2 :=
  tv_cmp (rEqD T.K) (fun X F => by rw [← F.K]; exact op_eqD (F.room hc).units) ha hb (fun g v u W dv du Q q => ⟨x.py, y.py, dv.dp (SeqAt.canLay_of_shaped hx), du.dp (SeqAt.canLay_of_shaped hy), hx, hy, q _ g (.refl g) W (.bl _)⟩) (nomark _)
theorem tv_ne (ha : EV T Γ a δ L x M1) (hb : EV T Γ b δ M1 y M2) (hx : SeqAt.shaped x.py = true) (hy : SeqAt.shaped y.py = true) (hc : Γ.c = true := by rfl) : TV T Γ (.Compare a [.NotEq] [b] pos) δ L (!PyData.eqv x.py y.py) M2 :=
  tv_cmp (rNeD T.K) (fun X F => by rw [← F.K]; exact op_neD (F.room hc).units) ha hb (fun g v u W dv du Q q => ⟨x.py, y.py, dv.dp (SeqAt.canLay_of_shaped hx), du.dp (SeqAt.canLay_of_shaped hy), hx, hy, q _ g (.refl g) W (.bl _)⟩) (nomark _)
theorem tv_in {ds : List D} (ha : EV T Γ a δ L x M1) (hb : EV T Γ b δ M1 y M2) (s : SeqD M2 y ds) (fx : x.flat = true) (fs : ds.all D.flat = true) (hm : behindInMarks .In b = false := by rfl) : TV T Γ (.Compare a [.In] [b] pos) δ L (ds.any fun y => eqD y x) M2 :=
  tv_cmp (rIn T.K false) (fun X F => by rw [← F.K]; exact op_in_seq) ha hb (fun g v u W dv du Q q => by
    obtain ⟨A, xs, rfl, h1, h2⟩ := s.at W du
    refine ⟨A, xs, rfl, h1, flat_dt dv fx, flats_dt h2 fs, ?_⟩
    rw [if_neg Bool.false_ne_true, inV_dt dv fx h2 fs]
    exact q _ g (.refl g) W (.bl _)) hm
theorem tv_nin {ds : List D} (ha : EV T Γ a δ L x M1) (hb : EV T Γ b δ M1 y M2) (s : SeqD M2 y ds) (fx : x.flat = true) (fs : ds.all D.flat = true) (hm : behindInMarks .NotIn b = false := by rfl) : TV T Γ (.Compare a [.NotIn] [b] pos) δ L (!ds.any fun y => eqD y x) M2 :=
  tv_cmp (rIn T.K true) (fun X F => by rw [← F.K]; exact op_notIn_seq) ha hb (fun g v u W dv du Q q => by
    obtain ⟨A, xs, rfl, h1, h2⟩ := s.at W du
    refine ⟨A, xs, rfl, h1, flat_dt dv fx, flats_dt h2 fs, ?_⟩
    rw [if_pos rfl, inV_dt dv fx h2 fs]
    exact q _ g (.refl g) W (.bl _)) hm
theorem tv_isN {j : Nat} {p : Pos} (ha : EV T Γ a δ L x M1) : TV T Γ (.Compare a [.Is] [.Constant .none j p] pos) δ L x.isNon M1 :=
  tv_cmp _ (fun X F => op_isN) ha ev_non (fun g v u W dv du Q q => by
    cases du
    refine ⟨rfl, ?_⟩
    rw [dv.isNon]
    exact q _ g (.refl g) W (.bl _)) (nomark _)
theorem tv_notN {j : Nat} {p : Pos} (ha : EV T Γ a δ L x M1) : TV T Γ (.Compare a [.IsNot] [.Constant .none j p] pos) δ L (!x.isNon) M1 :=
  tv_cmp _ (fun X F => op_notN) ha ev_non (fun g v u W dv du Q q => by
    cases du
    refine ⟨rfl, ?_⟩
    rw [dv.isNon]
    exact q _ g (.refl g) W (.bl _)) (nomark _)
theorem tv_orF {rest : List Expr} {y : Bool} (ha : TV T Γ a δ L false M1) (hb : WV T Γ (.BoolOp .Or (b :: rest) pos) δ M1 y M2) : WV T Γ (.BoolOp .Or (a :: b :: rest) pos) δ L y M2 := tv_or ha (fun _ => hb) nof
theorem tv_orT {rest : List Expr} (ha : TV T Γ a δ L true M1) : WV T Γ (.BoolOp .Or (a :: b :: rest) pos) δ L true M1 := tv_or (y := true) ha nft fun _ => rfl
theorem tv_andT {rest : List Expr} {y : Bool} (ha : TV T Γ a δ L true M1) (hb : WV T Γ (.BoolOp .And (b :: rest) pos) δ M1 y M2) : WV T Γ (.BoolOp .And (a :: b :: rest) pos) δ L y M2 := tv_and ha (fun _ => hb) nft
theorem tv_andF {rest : List Expr} (ha : TV T Γ a δ L false M1) : WV T Γ (.BoolOp .And (a :: b :: rest) pos) δ L false M1 := tv_and (y := true) ha nof fun _ => rfl
theorem ev_andT {rest : List Expr} {y : Bool} (ha : EV T Γ a δ L (.bl true) L) (hb : EV T Γ (.BoolOp .And (b :: rest) pos) δ L (.bl y) L) : EV T Γ (.BoolOp .And (a :: b :: rest) pos) δ L (.bl y) L := ev_and (x := true) ha fun _ => hb
theorem ev_andF {rest : List Expr} (ha : EV T Γ a δ L (.bl false) L) : EV T Γ (.BoolOp .And (a :: b :: rest) pos) δ L (.bl false) L := ev_and (x := false) (y := true) ha nof
theorem ev_orF {rest : List Expr} {y : Bool} (ha : EV T Γ a δ L (.bl false) L) (hb : EV T Γ (.BoolOp .Or (b :: rest) pos) δ L (.bl y) L) : EV T Γ (.BoolOp .Or (a :: b :: rest) pos) δ L (.bl y) L := ev_or (x := false) ha fun _ => hb
theorem ev_orT {rest : List Expr} (ha : EV T Γ a δ L (.bl true) L) : EV T Γ (.BoolOp .Or (a :: b :: rest) pos) δ L (.bl true) L := ev_or (x := true) (y := true) ha nft
theorem tv_notF (ha : TV T Γ a δ L true M1) : TV T Γ (.UnaryOp .Not a pos) δ L false M1 := tv_not ha
theorem tv_notT (ha : TV T Γ a δ L false M1) : TV T Γ (.UnaryOp .Not a pos) δ L true M1 := tv_not ha
theorem ev_kint {n : Str} {i : Int} {p : Pos} (hm : ∃ t, T.mg n = some (.int i t)) (hg : GlS Γ.sc n := by exact gls_of (by decide +kernel)) (h1 : (n == ("__debug__" : Str)) = false := by decide +kernel) : EV T Γ (.Name n p) δ L (.int i) L := by
  obtain ⟨t, hm⟩ := hm
  exact ev_glob (v := .int i) hm ⟨t, rfl⟩ (fun g => .int i) hg h1
theorem eqv_int (a b : Int) : PyData.eqv (.int a) (.int b) = decide (a = b) := by
  simp [PyData.eqv] <;> rfl
end
/-! ### shape of data for == -/
def Shp (n : Nat) (d : D) : Prop := d.py.canLay0 = true ∧ d.py.depth ≤ n
theorem Shp.ok {n : Nat} {d : D} (h : Shp n d) (hn : n ≤ 64 := by decide) : SeqAt.shaped d.py = true := by
  unfold SeqAt.shaped
  rw [h.1, decide_eq_true (Nat.le_trans h.2 hn)]
  rfl
theorem shp_int (i : Int) : Shp 0 (.int i) := ⟨by simp [D.py, PyData.canLay0], by simp [D.py, PyData.depth]⟩
theorem shp_bl (b : Bool) : Shp 0 (.bl b) := ⟨by simp [D.py, PyData.canLay0], by simp [D.py, PyData.depth]⟩
theorem shp_non : Shp 0 .non := ⟨by simp [D.py, PyData.canLay0], by simp [D.py, PyData.depth]⟩
theorem Shp.mono {n m : Nat} {d : D} (h : Shp n d) (hn : n ≤ m) : Shp m d := ⟨h.1, Nat.le_trans h.2 hn⟩
theorem shp_all {n : Nat} : ∀ {ds : List D}, (∀ d ∈ ds, Shp n d) → PyData.canLayAll0 (pyL ds) = true ∧ PyData.depthAll (pyL ds) ≤ n
  | [], _ => ⟨by simp [pyL, PyData.canLayAll0], by simp [pyL, PyData.depthAll]⟩
  | d :: ds, h => by
    obtain ⟨h1, h2⟩ := h d List.mem_cons_self
    obtain ⟨r1, r2⟩ := shp_all (ds := ds) fun x hx => h x (List.mem_cons_of_mem _ hx)
    refine ⟨by simp [pyL, PyData.canLayAll0, h1, r1], ?_⟩
    simp only [pyL, PyData.depthAll]
    omega
theorem shp_tup {n : Nat} {ds : List D} (h : ∀ d ∈ ds, Shp n d) : Shp (n + 1) (.tup ds) := by
  obtain ⟨r1, r2⟩ := shp_all h
  refine ⟨by simpa [D.py, PyData.canLay0] using r1, ?_⟩
  simp only [D.py, PyData.depth]
  omega
theorem shp_lst {n : Nat} {ds : List D} (h : ∀ d ∈ ds, Shp n d) : Shp (n + 1) (.lst ds) := by
  obtain ⟨r1, r2⟩ := shp_all h
  refine ⟨by simpa [D.py, PyData.canLay0] using r1, ?_⟩
  simp only [D.py, PyData.depth]
  omega
theorem shp_ints (ns : List Int) : Shp 1 (.tup (ns.map D.int)) := shp_tup fun d h => by
  obtain ⟨i, _, rfl⟩ := List.mem_map.mp h
  exact shp_int i
theorem eqvAll_ints : ∀ (ns ms : List Int), PyData.eqvAll (pyL (ns.map D.int)) (pyL (ms.map D.int)) = decide (ns = ms)
  | [], [] => by simp [pyL, PyData.eqvAll]
  | [], m :: r => by simp [pyL, PyData.eqvAll]
  | n :: r, [] => by simp [pyL, PyData.eqvAll]
  | n :: r, m :: q => by
    have := eqvAll_ints r q
    simp only [List.map_cons, pyL, PyData.eqvAll, this, D.py, eqv_int, List.cons.injEq]
    simp
theorem eqv_ints (ns ms : List Int) : PyData.eqv (D.tup (ns.map D.int)).py (D.tup (ms.map D.int)).py = decide (ns = ms) := by
  simp only [D.py, PyData.eqv]
  exact eqvAll_ints ns ms
theorem eqv_str (a b : Str) : PyData.eqv (D.str a).py (D.str b).py = (a == b) := by simp [D.py, PyData.eqv]
theorem shp_str {x : Str} (h : PyData.strOk x = true) : Shp 0 (.str x) := ⟨by simpa [D.py, PyData.canLay0] using h, by simp [D.py, PyData.depth]⟩
theorem cutD_tail (d : D) (ds : List D) : cutD (d :: ds) (some 1) none = ds := by
  have h : HT.sIx (d :: ds).length 0 (some 1) = 1 := by
    simp [HT.sIx]
  have h2 : HT.sIx (d :: ds).length (d :: ds).length none = ds.length + 1 := by simp [HT.sIx]
  unfold cutD
  rw [h, h2]
  simp
theorem atI_at {α : Type} {ds : List α} {k : Nat} {d : α} (h : ds[k]? = some d) : atI ds (k : Int) = some d := by
  have hk := (List.getElem?_eq_some_iff.mp h).1
  have e : ixN ds.length (k : Int) = some k := by
    unfold ixN
    rw [if_pos (by omega), if_pos (by omega), Int.toNat_natCast]
  show (ixN ds.length (k : Int)).bind _ = _
  rw [e]
  exact h
theorem atI_head {α : Type} (d : α) (ds : List α) : atI (d :: ds) 0 = some d := atI_at (k := 0) rfl
end G
set_option Elab.async false
set_option linter.all false
set_option maxRecDepth 100000
set_option maxHeartbeats 4000000
/-! G14: what is asked of the text alone. -/
namespace G
open PySem PySem.Spec PyProof.Rows L2
/-- no super() -/
def baseOk : Expr → Bool
  | .Call (.Name id _) [] [] _ => id != ("super" : Str)
  | _ => true
theorem base_ok {o : Expr} {m : Str} {env : Env} (h : baseOk o = true) : attributeBase o m env (eval o env) = eval o env := by
  unfold attributeBase
  split
  · rename_i id p pos
    have h' : (id != ("super" : Str)) = true := h
    simp only [h', Bool.true_or, if_true]
  · rfl
theorem plain_all {pos : Pos} {env : Env} : ∀ {es : List Expr}, es.all plainE = true → (backTo pos (starEach es env)).all (fun x => !x.1) = true
  | [], _ => rfl
  | e :: es, h => by
    rw [List.all_cons, Bool.and_eq_true] at h
    rw [star_cons h.1]
    have := plain_all (pos := pos) (env := env) h.2
    show (!false && (backTo pos (starEach es env)).all (fun x => !x.1)) = true
    rw [this]
    rfl
theorem few_ok {pos : Pos} {env : Env} {es : List Expr} (h : es.all plainE = true) (hn : es.length < 29) : ((backTo pos (starEach es env)).all (fun x => !x.1) && (backToKw pos (keywordEach [] env)).all (fun x => x.1.isSome)
    && decide (es.length + ([] : List Keyword).length + (if ([] : List Keyword).isEmpty then 0 else 1) < 30)) = true := by
  rw [plain_all h]
  show (true && decide (es.length + 0 + 0 < 30)) = true
  rw [decide_eq_true (by omega)]
  rfl
theorem mform_ok {o : Expr} {m : Str} {apos pos : Pos} {es : List Expr} (hb : baseOk o = true) (hp : es.all plainE = true) (hn : es.length < 29) (hl : (apos.endLine == pos.line) = true) : MForm o m apos es pos := fun env => by
  refine ⟨(do return (← importBound o env).getD true), ?_⟩
  have hfew : methodCallForm (es.length + ([] : List Keyword).length) (backTo pos (starEach es env)) (backToKw pos (keywordEach [] env)) = true := by
    unfold methodCallForm
    rw [plain_all hp]
    show (true && true && decide (es.length + 0 + 0 < 30)) = true
    rw [decide_eq_true (by omega)]
    rfl
  have hpos : methodCallPos true o env apos pos = pure pos := by
    unfold methodCallPos
    rw [hl]
    rfl
  have hcal : ∀ ov, calleeOf true o env ov m = getMethod ov m (do return (← importBound o env).getD true) := fun _ => rfl
  rw [arm_eval_Call, base_ok hb]
  unfold methodCall
  rw [hfew, hpos]
  rfl
theorem m1_ok {X : Cx} {o e : Expr} {m : Str} {apos pos : Pos} (hb : baseOk o = true) (hp : plainE e = true) (hl : (apos.endLine == pos.line) = true) : L2.M1 X o m apos e pos :=
  ⟨base_ok hb, few_ok (by rw [List.all_cons, hp]; rfl) (by simp), hl, by rw [star_one hp]; rfl⟩
theorem m2_ok {X : Cx} {o e f : Expr} {m : Str} {apos pos : Pos} (hb : baseOk o = true) (hp : plainE e = true) (hq : plainE f = true) (hl : (apos.endLine == pos.line) = true) : L2.M2 X o m apos e f pos :=
  ⟨base_ok hb, few_ok (by rw [List.all_cons, List.all_cons, hp, hq]; rfl) (by simp), hl, by rw [star_cons hp, star_one hq]; rfl⟩
/-- an index that is no slice -/
def ixOk : Expr → Bool
  | .Slice _ _ _ _ => false
  | _ => true
theorem pix_ok {b : Expr} (h : ixOk b = true) : PlainIx b := by
  intro o i
  cases b <;> first | rfl | cases h
theorem nosl_ok {b : Expr} (h : ixOk b = true) : NoSl b := by
  intro o i
  cases b <;> first | rfl | cases h
theorem aug_ok {b : Expr} (h : ixOk b = true) : ∀ ov iv new, augStore b ov iv new = (do holding [new, ov, iv] (setItem ov iv new); release [new, ov, iv] []; pure .next) := by
  intro o i n
  cases b <;> first | rfl | cases h
/-- no comprehension -/
def noLc : Expr → Bool
  | .ListComp _ _ _ _ | .SetComp _ _ _ _ | .DictComp _ _ _ _ _ => false
  | _ => true
theorem swaps_ok {e : Expr} {t : Option Expr} {n : Nat} {env : Env} (h : noLc e = true) : swapsWith e t n env = pure false := by
  cases e <;> first | rfl | cases h
theorem swapsS_ok {e tg : Expr} {n : Nat} {env : Env} (h : noLc e = true) : swapsWithSole [tg] e n env = pure false := swaps_ok h
def noTup : Expr → Bool
  | .Tuple _ _ _ => false
  | _ => true
theorem swapped_ok {e tg : Expr} {env : Env} (h : noTup e = true ∨ noTup tg = true ∧ (∀ a b, tg ≠ .List a b)) : swappedStores [tg] e env = pure none := by
  rcases h with h | ⟨h, h2⟩
  · cases tg <;> cases e <;> first | rfl | cases h
  · cases tg <;> first | rfl | exact absurd rfl (h2 _ _) | cases h
def tstOk : Expr → Bool
  | .UnaryOp .Not _ _ | .BoolOp _ _ _ | .IfExp _ _ _ _ | .Compare _ _ _ _ => false
  | _ => true
theorem isT_ok {e : Expr} (h : tstOk e = true) : ∀ (env : Env) whole, isTrue e env whole = (do let v ← whole; standAt e.pos; holding [v] (truthy v)) := by
  intro env whole
  cases e <;> first | rfl | cases h | skip
  rename_i op a p
  cases op <;> first | rfl | cases h
def noSet : Expr → Bool
  | .Set _ _ _ => false
  | _ => true
theorem folded_ok {e : Expr} (h : noSet e = true) : ∀ (env : Env) x, foldedSetIterable e env x = pure x := by
  intro env x
  cases e <;> first | rfl | cases h
theorem marks_ok {op : CmpOp} {e : Expr} (h : noSet e = true) : behindInMarks op e = false := by
  cases e <;> first | rfl | cases h
theorem lmarks_ok {o p : CmpOp} {b c : Expr} (h : noSet c = true) : lastMarks [o, p] [b, c] = false := marks_ok h
theorem assignE_one {tg : Expr} {env : Env} (h : plainE tg = true) : (assignEach [tg] env).map (·.2) = [assign tg env] := by
  cases tg <;> first | rfl | cases h
theorem assignE_cons {tg : Expr} {tgs : List Expr} {env : Env} (h : plainE tg = true) : (assignEach (tg :: tgs) env).map (·.2) = assign tg env :: (assignEach tgs env).map (·.2) := by
  cases tg <;> first | rfl | cases h
theorem assignE_len {env : Env} : ∀ {tgs : List Expr}, (assignEach tgs env).length = tgs.length
  | [] => rfl
  | tg :: tgs => by
    have := assignE_len (env := env) (tgs := tgs)
    cases tg <;> simp [assignEach, this]
theorem assignE_star {env : Env} : ∀ {tgs : List Expr}, tgs.all plainE = true → (assignEach tgs env).findIdx? (·.1) = none
  | [], _ => rfl
  | tg :: tgs, h => by
    rw [List.all_cons, Bool.and_eq_true] at h
    have := assignE_star (env := env) h.2
    cases tg <;> first | (simp [assignEach, List.findIdx?_cons, this]; done) | cases h.1
end G
set_option Elab.async false
set_option linter.all false
set_option maxRecDepth 100000
set_option maxHeartbeats 4000000
/-! G15: more rules. -/
namespace G
open PySem PySem.Spec PyProof.Rows L2
section
variable {T : Sta} {Γ : GC} {δ δ' : Env'} {L M1 M2 M3 L' : Store} {a b : Expr} {rest : List Expr} {pos apos : Pos} {x y : D}
/-! ### tests and truth -/
theorem tv_chain {c : Expr} {op op' : CmpOp} {f f' : Int → Int → Bool} {i j l : Int} (ho : ∀ X : Cx, OpR X (compareOp op) (rI0 fun i j => .bl (f i j))) (ho' : ∀ X : Cx, OpR X (compareOp op') (rI0 fun i j => .bl (f' i j)))
    (ha : EV T Γ a δ L (.int i) M1) (hb : EV T Γ b δ M1 (.int j) M2) (hc : EV T Γ c δ M2 (.int l) M2) (hm : lastMarks [op, op'] [b, c] = false := by with_unfolding_all rfl) : TV T Γ (.Compare a [op, op'] [b, c] pos) δ L (f i j && f' j l) M2 := fun X F g σ W E Q q => by
  refine tby (pt_chain (ho X) (ho' X) eself eself eself hm) ?_
  refine ha X F g σ W E _ fun v g1 e1 W1 d1 => ?_
  refine hb X F g1 σ W1 (E.ext e1) _ fun u g2 e2 W2 d2 => ?_
  cases d1; cases d2
  refine ⟨i, j, rfl, rfl, f i j, rfl, ?_⟩
  cases h : f i j with
  | true =>
    rw [if_pos rfl]
    refine hc X F g2 σ W2 ((E.ext e1).ext e2) _ fun w g3 e3 W3 d3 => ?_
    cases d3
    refine ⟨j, l, rfl, rfl, _, rfl, ?_⟩
    rw [h, Bool.true_and] at q
    exact q g3 ((e1.trans e2).trans e3) W3
  | false =>
    rw [if_neg Bool.false_ne_true]
    rw [h, Bool.false_and] at q
    exact ⟨_, rfl, q g2 (e1.trans e2) W2⟩
theorem ev_orV1 (ha : EV T Γ a δ L x M1) (ht : x.truth M1 = some true) : EV T Γ (.BoolOp .Or (a :: b :: rest) pos) δ L x M1 := fun X F g σ W E Q q =>
  eby (pe_orT eself eself) (ha X F g σ W E _ fun v g1 e1 W1 d1 => ⟨true, by rw [F.K]; exact truV W1 d1 ht, by rw [if_pos rfl]; exact q v g1 e1 W1 d1⟩)
theorem ev_orV0 (ha : EV T Γ a δ L x M1) (ht : x.truth M1 = some false) (hb : EV T Γ (.BoolOp .Or (b :: rest) pos) δ M1 y M2) : EV T Γ (.BoolOp .Or (a :: b :: rest) pos) δ L y M2 := fun X F g σ W E Q q =>
  eby (pe_orT eself eself) (ha X F g σ W E _ fun v g1 e1 W1 d1 => ⟨false, by rw [F.K]; exact truV W1 d1 ht, by
    rw [if_neg Bool.false_ne_true]
    exact hb X F g1 σ W1 (E.ext e1) Q fun u g2 e2 W2 d2 => q u g2 (e1.trans e2) W2 d2⟩)
theorem ev_andV0 (ha : EV T Γ a δ L x M1) (ht : x.truth M1 = some false) : EV T Γ (.BoolOp .And (a :: b :: rest) pos) δ L x M1 := fun X F g σ W E Q q =>
  eby (pe_andT eself eself) (ha X F g σ W E _ fun v g1 e1 W1 d1 => ⟨false, by rw [F.K]; exact truV W1 d1 ht, by rw [if_neg Bool.false_ne_true]; exact q v g1 e1 W1 d1⟩)
theorem ev_andV1 (ha : EV T Γ a δ L x M1) (ht : x.truth M1 = some true) (hb : EV T Γ (.BoolOp .And (b :: rest) pos) δ M1 y M2) : EV T Γ (.BoolOp .And (a :: b :: rest) pos) δ L y M2 := fun X F g σ W E Q q =>
  eby (pe_andT eself eself) (ha X F g σ W E _ fun v g1 e1 W1 d1 => ⟨true, by rw [F.K]; exact truV W1 d1 ht, by
    rw [if_pos rfl]
    exact hb X F g1 σ W1 (E.ext e1) Q fun u g2 e2 W2 d2 => q u g2 (e1.trans e2) W2 d2⟩)
theorem ex_if {c : Expr} {k : Bool} {C : Str} (hc : TV T Γ c δ L k M1) (ha : k = true → EX T Γ a δ M1 C M2) (hb : k = false → EX T Γ b δ M1 C M2) : EX T Γ (.IfExp c a b pos) δ L C M2 := fun X F Wx tk g σ W E q Q =>
  eby (pe_ifExp tself eself eself) (hc X F g σ W E _ fun g1 e1 W1 => by
    cases k with
    | true =>
      rw [if_pos rfl]
      exact ha rfl X F Wx tk g1 σ W1 (E.ext e1) (fun g2 e2 W2 => q g2 (e1.trans e2) W2) Q
    | false =>
      rw [if_neg Bool.false_ne_true]
      exact hb rfl X F Wx tk g1 σ W1 (E.ext e1) (fun g2 e2 W2 => q g2 (e1.trans e2) W2) Q)
/-! ### calls that raise -/
theorem ex_call0 {x C' : Str} {p : Pos} {k : Nat} (C : FC T k x [] L (.ex C') M2) (hk : k ≤ Γ.k := by decide) (hc : Γ.c = true := by rfl) (hg : GlS Γ.sc x := by exact gls_of (by decide +kernel)) (hdb : (x == ("__debug__" : Str)) = false := by decide +kernel) : EX T Γ (.Call (.Name x p) [] [] pos) δ L C' M2 := fun X F Wx tk g σ W E q Q => by
  obtain ⟨fd, ps, b, hF⟩ := C.fn.ex
  exact eby (peC0 (FnOk.at F hF) (F.rm hc hk) (F.gl hg) (by rw [F.mg]; exact C.mg) (by rw [F.K]; exact C.fn.kp) (by rw [F.K]; exact b) (pass_w F.P F.w tk) hdb) ⟨g, rfl, W, .nil, fun g2 e2 W2 => q g2 e2 W2⟩
end
/-! ### instances made, with what is raised -/
section
variable {X : Cx} {CXX : CXT} {k : Nat} {f C : Addr} {fd : FuncData} {ps : List Str} {sp : Sp} {E : L2.St → XK} {x : Str} {p pos : Pos} {e : Expr} {es : List Expr} {t : TA}
def tMakeS (C : Addr) (sp : Sp) (E : L2.St → XK) (t : TA) : TE := fun σ H Q => t σ H fun vs H1 => ∀ x dx, H1 x = none → H1 dx = none → dx ≠ x →
  sp (.ref x :: vs) (upd (upd H1 dx (.own x)) x (.ins C dx [])) (fun v H2 => v = .non ∧ Q (.ref x) H2) (E σ)
theorem run_makeS {pins : List (Addr × Obj)} {σ : L2.St} {H : Hp} {s : Shared} {Q : VK} {us : List Value} {vs : List V} (M : Mk X.K C f) (F : FnOk X.prog X.w X.K X.mg X.base CXX k f fd ps sp) (hr : Room (k + 1) X.A) (hb : Binds X.K fd ps [])
    (hx : PassesAt CXX X σ (E σ)) (I : Inv X pins σ H s) (r : Vals vs us)
    (h : ∀ x dx, H x = none → H dx = none → dx ≠ x → sp (.ref x :: vs) (upd (upd H dx (.own x)) x (.ins C dx [])) (fun v H2 => v = .non ∧ Q (.ref x) H2) (E σ)) :
    wpAny (model X.prog X.w) X.A (call (.ref C) us) (EP X pins σ Q) X.xe s := by
  have hq := h (s.heap.objs.size + 1) s.heap.objs.size (I.hok.fresh (Nat.le_succ _)) (I.hok.fresh (Nat.le_refl _)) (Nat.ne_of_lt (Nat.lt_succ_self _))
  have I2 := Inv.made (C := C) I
  have r2 : Vals (V.ref (s.heap.objs.size + 1) :: vs) (Value.ref (s.heap.objs.size + 1) :: us) := .cons rfl r
  have hl : (Value.ref (s.heap.objs.size + 1) :: us).length = ps.length := by
    have e := r2.length
    rw [F.len _ _ _ _ hq] at e
    exact e.symm
  have hbb := hb _ (Value.ref (s.heap.objs.size + 1) :: us) I2.kIn (by rw [List.append_nil]; exact hl)
  rw [List.append_nil] at hbb
  refine wpAny_call (make_map (f := f) I.kIn M.makes M.init (beq_iff_eq.mp M.fn) (codeAny_mono (F.run _ X.stack _ _ ⟨Value.ref (s.heap.objs.size + 1) :: us, []⟩ (Value.ref (s.heap.objs.size + 1) :: us) _ _ (E σ) (hr.make C us [])
    (I2.env0.make C us []) hbb r2 hq) fun r s' hq' => ?_))
  cases r with
  | error e => exact hx pins _ _ e s' I2 hq'
  | ok fl =>
    cases fl with
    | ret u =>
      obtain ⟨v, H', I3, rv, ev, q3⟩ := I2.after hq'
      subst ev
      exact ⟨rv, ⟨V.ref (s.heap.objs.size + 1), H', I3, rfl, q3⟩⟩
    | next => exact False.elim hq'
    | brk => exact False.elim hq'
    | cont => exact False.elim hq'
theorem peK (M : Mk X.K C f) (F : FnOk X.prog X.w X.K X.mg X.base CXX k f fd ps sp) (hr : Room (k + 1) X.A) (hg : Gl X x) (hm : X.mg x = some (.ref C)) (hb : Binds X.K fd ps []) (hx : ∀ σ, PassesAt CXX X σ (E σ))
    (ha : PA X (e :: es) t) (hdb : (x == ("__debug__" : Str)) = false) (he : starEach (e :: es) X.env = (false, eval e X.env) :: starEach es X.env) (hpl : (backTo pos (starEach es X.env)).any (·.1) = false) :
    PE X (.Call (.Name x p) (e :: es) [] pos) (tMakeS C sp E t) := by
  refine ⟨fun pins s σ H Q I h => ?_⟩
  refine wpAny_Call_Name_kw (ld_glob I hg hm ?_ hdb)
  refine PySem.W.callWith_K (h₀ := X.base) I.ok.mod.kin M.kp (thn (ha.run pos pins s σ H _ I h) fun us s1 ⟨vs, H1, I1, r, q⟩ => ⟨I1.kIn, ?_⟩) he hpl
  exact run_makeS M F hr hb (hx σ) I1 r q
theorem peK0 (M : Mk X.K C f) (F : FnOk X.prog X.w X.K X.mg X.base CXX k f fd ps sp) (hr : Room (k + 1) X.A) (hg : Gl X x) (hm : X.mg x = some (.ref C)) (hb : Binds X.K fd ps []) (hx : ∀ σ, PassesAt CXX X σ (E σ))
    (hdb : (x == ("__debug__" : Str)) = false) : PE X (.Call (.Name x p) [] [] pos) (tMakeS C sp E tNil) := by
  refine ⟨fun pins s σ H Q I h => ?_⟩
  refine wpAny_Call_Name_kw (ld_glob I hg hm ?_ hdb)
  exact PySem.W.callWith_K0 I.kIn M.kp (run_makeS (us := []) M F hr hb (hx σ) I .nil h)
end
section
variable {T : Sta} {Γ : GC} {δ δ' : Env'} {L M1 M2 M3 L' : Store} {a b : Expr} {rest : List Expr} {pos apos : Pos} {x y : D}
theorem ex_make {x C' : Str} {e : Expr} {es : List Expr} {p : Pos} {ds : List D} {k : Nat} (c : KC T x) (ha : AV T Γ (e :: es) δ L ds M1) (i : MC T k x "__init__" (.ref M1.length :: ds) (M1 ++ [.ins x []]) (.ex C') M2) (hk : k + 1 ≤ Γ.k := by decide) (hc : Γ.c = true := by rfl) (hg : GlS Γ.sc x := by exact gls_of (by decide +kernel)) (hdb : (x == ("__debug__" : Str)) = false := by decide +kernel)
    (he : ∀ env : Env, starEach (e :: es) env = (false, eval e env) :: starEach es env := by intro _; exact star_cons rfl) (hpl : ∀ env : Env, (backTo pos (starEach es env)).any (·.1) = false := by intro _; exact star_any rfl) : EX T Γ (.Call (.Name x p) (e :: es) [] pos) δ L C' M2 := fun X F Wx tk g σ W E q Q => by
  obtain ⟨fd, ps, b, hF⟩ := i.fn.ex
  refine eby (peK (by rw [F.K]; exact c.mak) (FnOk.at F hF) (F.rm hc hk) (F.gl hg) (by rw [F.mg]; exact c.mg) (by rw [F.K]; exact b) (pass_w F.P F.w tk) aself hdb (he _) (hpl _)) ?_
  refine ha X F g σ W E _ fun vs g1 e1 W1 d1 => ?_
  intro a dx na nd ne
  obtain ⟨g2, h2, e2, W2, d2⟩ := Gw.made W1 rfl na nd ne
  exact ⟨g2, h2, W2, .cons d2 (d1.ext e2), fun g3 e3 W3 => q g3 ((e1.trans e2).trans e3) W3⟩
theorem ex_make0 {x C' : Str} {p : Pos} {k : Nat} (c : KC T x) (i : MC T k x "__init__" [.ref L.length] (L ++ [.ins x []]) (.ex C') M2) (hk : k + 1 ≤ Γ.k := by decide) (hc : Γ.c = true := by rfl) (hg : GlS Γ.sc x := by exact gls_of (by decide +kernel)) (hdb : (x == ("__debug__" : Str)) = false := by decide +kernel) : EX T Γ (.Call (.Name x p) [] [] pos) δ L C' M2 := fun X F Wx tk g σ W E q Q => by
  obtain ⟨fd, ps, b, hF⟩ := i.fn.ex
  refine eby (peK0 (by rw [F.K]; exact c.mak) (FnOk.at F hF) (F.rm hc hk) (F.gl hg) (by rw [F.mg]; exact c.mg) (by rw [F.K]; exact b) (pass_w F.P F.w tk) hdb) ?_
  intro a dx na nd ne
  obtain ⟨g2, h2, e2, W2, d2⟩ := Gw.made W rfl na nd ne
  exact ⟨g2, h2, W2, .cons d2 .nil, fun g3 e3 W3 => q g3 (e2.trans e3) W3⟩

/-! ### methods of lists and dicts -/
theorem ev_append {o e : Expr} {k : Nat} {d : D} {ds : List D} (ho : EV T Γ o δ L (.ref k) M1) (hk1 : ∃ ds, M1[k]? = some (.list ds)) (he : EV T Γ e δ M1 d M2) (hk : M2[k]? = some (.list ds)) (hl : ds.length < sizeLine)
    (hb : baseOk o = true) (hp : plainE e = true) (hline : (apos.endLine == pos.line) = true) : EV T Γ (.Call (.Attribute o "append" apos) [e] [] pos) δ L .non (M2.set k (.list (ds ++ [d]))) := fun X F g σ W E Q q => by
  refine eby (pe_bm PySem.F.plainAttrs_list PySem.F.slot_list_append PySem.F.type_list_append mt_append eself (pa_cons eself pa_nil (star_one hp)) (base_ok hb) (few_ok (by rw [List.all_cons, hp]; rfl) (by simp)) hline (star_one hp) rfl) ?_
  refine ho X F g σ W E _ fun v g1 e1 W1 d1 => ?_
  have hn : k < g1.n := by cases d1; assumption
  have ev : v = .ref (g1.ι k) := by cases d1; rfl
  subst ev
  obtain ⟨ds1, hk1⟩ := hk1
  obtain ⟨_, xs1, x1, _⟩ := W1.list hk1
  refine ⟨Or.inl ⟨rfl, _, Or.inl (Or.inl x1)⟩, ?_⟩
  refine he X F g1 σ W1 (E.ext e1) _ fun u g2 e2 W2 d2 => ?_
  obtain ⟨w, xs, h1, h2⟩ := W2.list hk
  have ei : g2.ι k = g1.ι k := e2.ι k hn
  refine ⟨_, xs, u, rfl, rfl, by rw [← ei]; exact h1, by rw [h2.len]; exact hl, ?_⟩
  have e3 := put_ext (o := HO.lst (xs ++ [u])) w
  have r := q .non (g2.put k _) ((e1.trans e2).trans e3) (W2.put hk w ⟨w, _, upd_same, (h2.ext e3).snoc (d2.ext e3)⟩) .non
  rw [← ei]
  exact r
/-- d.pop(k, x) -/
theorem ev_dpop2 {o i e : Expr} {k : Nat} {kvs} {z : Key} {d : D} (ho : EV T Γ o δ L (.ref k) M1) (hk1 : ∃ kvs, M1[k]? = some (.dict kvs)) (hi : EV T Γ i δ M1 (kD z) M2) (he : EV T Γ e δ M2 d M3) (hk : M3[k]? = some (.dict kvs)) (m : ∀ X : Cx, L2.M2 X o "pop" apos i e pos)
    (hL : L' = if (lkA z kvs).isSome = true then M3.set k (.dict (delA z kvs)) else M3) : EV T Γ (.Call (.Attribute o "pop" apos) [i, e] [] pos) δ L ((lkA z kvs).getD d) L' := fun X F g σ W E Q q => by
  refine eby (pe_dpop2 eself eself eself (m X)) ?_
  refine ho X F g σ W E _ fun v g1 e1 W1 d1 => ?_
  have hn : k < g1.n := by cases d1; assumption
  have ev : v = .ref (g1.ι k) := by cases d1; rfl
  obtain ⟨kvs1, hk1⟩ := hk1
  obtain ⟨_, kv1, x1, _⟩ := W1.dict hk1
  refine ⟨_, ev, .inl ⟨kv1, .inl x1⟩, ?_⟩
  refine hi X F g1 σ W1 (E.ext e1) _ fun u g2 e2 W2 d2 => ?_
  refine he X F g2 σ W2 ((E.ext e1).ext e2) _ fun w g3 e3 W3 d3 => ?_
  obtain ⟨wo, kv, h1, h2⟩ := W3.dict hk
  have ei : g3.ι k = g1.ι k := (e3.ι k (Nat.lt_of_lt_of_le hn e2.n)).trans (e2.ι k hn)
  refine ⟨kv, z, by rw [← ei]; exact h1, d2.key, fun t ht => ?_, fun hnone => ?_⟩
  · have e4 := put_ext (o := HO.dK (dropK kv z)) wo
    cases hq : lkA z kvs with
    | none =>
      rw [h2.lk.2 hq] at ht
      cases ht
    | some y =>
      obtain ⟨t', h3, h4⟩ := h2.lk.1 y hq
      rw [ht] at h3
      cases h3
      rw [hL, hq] at q
      have r := q t (g3.put k _) (((e1.trans e2).trans e3).trans e4) (W3.put hk wo ⟨wo, _, upd_same, (h2.ext e4).del⟩) (by rw [hq] at *; exact h4.ext e4)
      rw [← ei]
      exact r
  · cases hq : lkA z kvs with
    | none =>
      rw [hL, hq] at q
      exact q w g3 ((e1.trans e2).trans e3) W3 (by rw [hq] at *; exact d3)
    | some y =>
      obtain ⟨t', h3, h4⟩ := h2.lk.1 y hq
      rw [h3] at hnone
      cases hnone
/-- d.get(k, x) -/
theorem ev_dget2 {o i e : Expr} {k : Nat} {kvs} {z : Key} {d : D} (ho : EV T Γ o δ L (.ref k) M1) (hk1 : ∃ kvs, M1[k]? = some (.dict kvs)) (hi : EV T Γ i δ M1 (kD z) M2) (he : EV T Γ e δ M2 d M3) (hk : M3[k]? = some (.dict kvs)) (m : ∀ X : Cx, L2.M2 X o "get" apos i e pos) (hc : Γ.c = true) :
    EV T Γ (.Call (.Attribute o "get" apos) [i, e] [] pos) δ L ((lkA z kvs).getD d) M3 := fun X F g σ W E Q q => by
  refine eby (pe_dget2 (hu_of (F.room hc)) eself eself eself (m X)) ?_
  refine ho X F g σ W E _ fun v g1 e1 W1 d1 => ?_
  have hn : k < g1.n := by cases d1; assumption
  have ev : v = .ref (g1.ι k) := by cases d1; rfl
  obtain ⟨kvs1, hk1⟩ := hk1
  obtain ⟨_, kv1, x1, _⟩ := W1.dict hk1
  refine ⟨_, ev, .inl ⟨kv1, .inl x1⟩, ?_⟩
  refine hi X F g1 σ W1 (E.ext e1) _ fun u g2 e2 W2 d2 => ?_
  refine he X F g2 σ W2 ((E.ext e1).ext e2) _ fun w g3 e3 W3 d3 => ?_
  obtain ⟨wo, kv, h1, h2⟩ := W3.dict hk
  have ei : g3.ι k = g1.ι k := (e3.ι k (Nat.lt_of_lt_of_le hn e2.n)).trans (e2.ι k hn)
  refine ⟨valV kv z, .inl ⟨kv, z, by rw [← ei]; exact .inl h1, d2.key, rfl⟩, ?_⟩
  cases hq : lkA z kvs with
  | none =>
    rw [h2.lk.2 hq]
    exact q w g3 ((e1.trans e2).trans e3) W3 (by rw [hq]; exact d3)
  | some y =>
    obtain ⟨t', h3, h4⟩ := h2.lk.1 y hq
    rw [h3]
    exact q t' g3 ((e1.trans e2).trans e3) W3 (by rw [hq]; exact h4)
end
end G
set_option Elab.async false
set_option linter.all false
set_option maxRecDepth 100000
set_option maxHeartbeats 4000000
/-! G16: built-ins, texts. -/
namespace G
open PySem PySem.Spec PyProof.Rows L2
section
variable {T : Sta} {Γ : GC} {δ δ' : Env'} {L M1 M2 M3 L' : Store} {a b : Expr} {rest : List Expr} {pos apos p : Pos} {x y : D}
theorem boot_str' : bootBuiltins "str" = some (.type "str") := boot_ty_str
theorem boot_max' : bootBuiltins "max" = some (.builtin "max") := by decide +kernel
theorem boot_min' : bootBuiltins "min" = some (.builtin "min") := by decide +kernel
theorem boot_dict' : bootBuiltins "dict" = some (.type "dict") := by decide +kernel
theorem boot_sorted' : bootBuiltins "sorted" = some (.builtin "sorted") := by decide +kernel
theorem ev_strI {i : Int} (hm : T.mg "str" = none) (ha : EV T Γ a δ L (.int i) M1) (hz : i.natAbs.log2 < 1920) (hg : GlS Γ.sc "str") (he : plainE a = true) : EV T Γ (.Call (.Name "str" p) [a] [] pos) δ L (.str (Str.ofString (toString i))) M1 :=
  ev_ty _ (fun X F => call_str_int) hm boot_str' (av_cons ha av_nil (fun _ => star_one he)) (fun g vs W dv Q q => by
    cases dv with
    | cons h r =>
      cases r
      cases h
      exact ⟨i, rfl, hz, q _ g (.refl g) W (.str _)⟩) hg (he := fun _ => star_one he)
theorem ev_intS {s : Str} {n : Int} (hm : T.mg "int" = none) (ha : EV T Γ a δ L (.str s) M1) (hn : PySem.intText? s = some n) (hz : s.length ≤ 640) (hg : GlS Γ.sc "int") (he : plainE a = true) : EV T Γ (.Call (.Name "int" p) [a] [] pos) δ L (.int n) M1 :=
  ev_ty _ (fun X F => call_int_str) hm boot_ty_int (av_cons ha av_nil (fun _ => star_one he)) (fun g vs W dv Q q => by
    cases dv with
    | cons h r =>
      cases r
      cases h
      exact ⟨s, n, rfl, hn, hz, q _ g (.refl g) W (.int _)⟩) hg (he := fun _ => star_one he)
theorem ev_intB {k : Bool} (hm : T.mg "int" = none) (ha : EV T Γ a δ L (.bl k) M1) (hg : GlS Γ.sc "int") (he : plainE a = true) : EV T Γ (.Call (.Name "int" p) [a] [] pos) δ L (.int (if k then 1 else 0)) M1 :=
  ev_ty _ (fun X F => call_int1) hm boot_ty_int (av_cons ha av_nil (fun _ => star_one he)) (fun g vs W dv Q q => by
    cases dv with
    | cons h r =>
      cases r
      cases h
      exact .inr ⟨k, rfl, q _ g (.refl g) W (.int _)⟩) hg (he := fun _ => star_one he)
theorem ev_intI {i : Int} (hm : T.mg "int" = none) (ha : EV T Γ a δ L (.int i) M1) (hg : GlS Γ.sc "int") (he : plainE a = true) : EV T Γ (.Call (.Name "int" p) [a] [] pos) δ L (.int i) M1 :=
  ev_ty _ (fun X F => call_int1) hm boot_ty_int (av_cons ha av_nil (fun _ => star_one he)) (fun g vs W dv Q q => by
    cases dv with
    | cons h r =>
      cases r
      cases h
      exact .inl ⟨i, rfl, q _ g (.refl g) W (.int _)⟩) hg (he := fun _ => star_one he)
theorem ev_max2 {i j : Int} (hm : T.mg "max" = none) (ha : AV T Γ [a, b] δ L [.int i, .int j] M1) (hc : Γ.c = true) (hg : GlS Γ.sc "max") (he : plainE a = true) (he2 : plainE b = true) : EV T Γ (.Call (.Name "max" p) [a, b] [] pos) δ L (.int (if j > i then j else i)) M1 :=
  ev_bt _ (fun X F => call_max2 (by rw [F.calm]; exact hc)) hm boot_max' ha (fun g vs W dv Q q => by
    cases dv with
    | cons h r =>
      cases r with
      | cons h2 r =>
        cases r
        cases h; cases h2
        exact ⟨i, j, rfl, q _ g (.refl g) W (.int _)⟩) hg (he := fun _ => star_cons he) (hpl := fun _ => star_any (by rw [List.all_cons, he2]; rfl))
theorem ev_min2 {i j : Int} (hm : T.mg "min" = none) (ha : AV T Γ [a, b] δ L [.int i, .int j] M1) (hc : Γ.c = true) (hg : GlS Γ.sc "min") (he : plainE a = true) (he2 : plainE b = true) : EV T Γ (.Call (.Name "min" p) [a, b] [] pos) δ L (.int (if j < i then j else i)) M1 :=
  ev_bt _ (fun X F => call_min2 (by rw [F.calm]; exact hc)) hm boot_min' ha (fun g vs W dv Q q => by
    cases dv with
    | cons h r =>
      cases r with
      | cons h2 r =>
        cases r
        cases h; cases h2
        exact ⟨i, j, rfl, q _ g (.refl g) W (.int _)⟩) hg (he := fun _ => star_cons he) (hpl := fun _ => star_any (by rw [List.all_cons, he2]; rfl))
theorem new_cell {g1 : Gw} (W1 : Wo T.K g1 M1) {p : Addr} (hp : g1.H p = none) {o : HO} {c : Cell} (hc : ∀ g' : Gw, g' = g1.cell p o → CellOk T.K g' g1.n c) : Ext g1 (g1.cell p o) ∧ Wo T.K (g1.cell p o) (M1 ++ [c]) ∧ Dt T.K (g1.cell p o) (.ref p) (.ref M1.length) := by
  refine ⟨cell_ext hp, W1.cell hp (hc _ rfl), ?_⟩
  have hn : M1.length < (g1.cell p o).n := by
    show M1.length < g1.n + 1
    rw [W1.n]
    exact Nat.lt_succ_self _
  have r := Dt.ref (K := T.K) (g := g1.cell p o) hn
  rw [← W1.n] at r ⊢
  rw [cell_ι] at r
  exact r
theorem en_dictD {k : Nat} {kvs} (hm : T.mg "dict" = none) (ha : EV T Γ a δ L (.ref k) M1) (hk : RdDict M1 k kvs) (hg : GlS Γ.sc "dict") (he : plainE a = true) : EV T Γ (.Call (.Name "dict" p) [a] [] pos) δ L (.ref M1.length) (M1 ++ [.dict kvs]) :=
  ev_ty _ (fun X F => call_dictD) hm boot_dict' (av_cons ha av_nil (fun _ => star_one he)) (fun g vs W dv Q q => by
    cases dv with
    | cons h r =>
      cases r
      cases h
      obtain ⟨kv, h1, h2⟩ := hk.at W
      refine ⟨_, kv, rfl, h1, fun p hp => ?_⟩
      obtain ⟨e3, W3, d3⟩ := new_cell W hp (o := HO.dK kv) (c := .dict kvs) fun g' eg => by
        subst eg
        exact ⟨by rw [cell_ι]; exact cell_own, kv, by rw [cell_ι]; exact upd_same, h2.ext (cell_ext hp)⟩
      exact q _ _ e3 W3 d3) hg (he := fun _ => star_one he)
theorem ev_lenD {k : Nat} {kvs} (hm : T.mg "len" = none) (ha : EV T Γ a δ L (.ref k) M1) (hk : M1[k]? = some (.dict kvs)) (hg : GlS Γ.sc "len") (he : plainE a = true) : EV T Γ (.Call (.Name "len" p) [a] [] pos) δ L (.int kvs.length) M1 :=
  ev_bt _ (fun X F => call_lenD) hm PySem.boot_len (av_cons ha av_nil (fun _ => star_one he)) (fun g vs W dv Q q => by
    cases dv with
    | cons h r =>
      cases r
      cases h
      obtain ⟨_, kv, h1, h2⟩ := W.dict hk
      refine ⟨_, kv, rfl, h1, ?_⟩
      rw [h2.len]
      exact q _ g (.refl g) W (.int _)) hg (he := fun _ => star_one he)
/-- list(range(a, b)) -/
theorem ev_lrng {i j : Int} {p2 pos2 : Pos} (hm : T.mg "list" = none) (hm2 : T.mg "range" = none) (ha : EV T Γ a δ L (.int i) M1) (hb : EV T Γ b δ M1 (.int j) M2) (hc : Γ.c = true) (hz : -(2 ^ 62) ≤ i ∧ i < 2 ^ 62 ∧ -(2 ^ 62) ≤ j ∧ j < 2 ^ 62 ∧ (j - i).toNat ≤ sizeLine) (hg : GlS Γ.sc "list") (hg2 : GlS Γ.sc "range") (he : plainE a = true) (he2 : plainE b = true) :
    EV T Γ (.Call (.Name "list" p) [.Call (.Name "range" p2) [a, b] [] pos2] [] pos) δ L (.lst (rngD i (j - i).toNat)) M2 := fun X F g σ W E Q q => by
  refine eby (pe_listRg (by rw [F.calm]; exact hc) (F.gl hg) (by rw [F.mg]; exact hm) (prg_2 (F.gl hg2) (by rw [F.mg]; exact hm2) eself eself (star_cons he) (star_one he2) (star_any (by rw [List.all_cons, he2]; rfl))) rfl) ?_
  refine ha X F g σ W E _ fun v g1 e1 W1 d1 => ?_
  refine hb X F g1 σ W1 (E.ext e1) _ fun u g2 e2 W2 d2 => ?_
  cases d1; cases d2
  refine ⟨i, j, rfl, rfl, ?_⟩
  have hz5 : (j - i).toNat ≤ 2 ^ 24 := hz.2.2.2.2
  refine ⟨⟨hz.1, hz.2.1, hz.2.2.1, hz.2.2.2.1, hz5⟩, fun p hp => ?_⟩
  have e3 := push_ext (c := .data) (o := .lst (rgV i j)) hp
  have hd : DtL T.K g2 (rgV i j) (rngD i (j - i).toNat) := by
    unfold rgV rngD
    generalize (List.range (j - i).toNat) = l
    induction l with
    | nil => exact .nil
    | cons n r ih => exact .cons (.int _) ih
  exact q _ (g2.push p .data (.lst (rgV i j))) ((e1.trans e2).trans e3) (W2.push hp) (.lst ⟨push_at, push_own⟩ (hd.ext e3))
/-- xs[::-1] -/
theorem ev_rev {k : Nat} {ds : List D} {p1 p2 p3 : Pos} (ha : EV T Γ a δ L x M1) (hx : x = .lst ds ∨ ∃ k, x = .ref k ∧ M1[k]? = some (.list ds)) : EV T Γ (.Subscript a (.Slice none none (some (.UnaryOp .USub (.Constant (.int 1) k p1) p2)) p3) pos) δ L (.lst ds.reverse) M1 := fun X F g σ W E Q q =>
  eby (pe_revL eself) (ha X F g σ W E _ fun v g1 e1 W1 d1 => by
    have key : ∃ A xs, v = .ref A ∧ SqL X.K g1.H A xs ∧ DtL T.K g1 xs ds := by
      rw [F.K]
      rcases hx with rfl | ⟨k, rfl, hk⟩
      · cases d1 with
        | lst p l => exact ⟨_, _, rfl, p.sq, l⟩
      · cases d1
        obtain ⟨_, xs, h1, h2⟩ := W1.list hk
        exact ⟨_, xs, rfl, .inl (.inl h1), h2⟩
    obtain ⟨A, xs, rfl, h1, h2⟩ := key
    refine ⟨A, xs, rfl, h1, fun p hp => ?_⟩
    have e3 := push_ext (c := .data) (o := .lst xs.reverse) hp
    exact q _ (g1.push p .data (.lst xs.reverse)) (e1.trans e3) (W1.push hp) (.lst ⟨push_at, push_own⟩ (h2.reverse.ext e3)))
/-- s[a:b] of a text -/
theorem ev_slS {lo hi : Option Expr} {p2 : Pos} {i j : Option Int} {s : Str} (ha : EV T Γ a δ L (.str s) M1) (hs : s.length ≤ sizeLine) (hl : OV T Γ lo δ M1 i) (hh : OV T Γ hi δ M1 j) : EV T Γ (.Subscript a (.Slice lo hi none p2) pos) δ L (.str (cutS s i j)) M1 := fun X F g σ W E Q q => by
  obtain ⟨tl, pl, hl'⟩ := ov_at F hl
  obtain ⟨th, ph, hh'⟩ := ov_at F hh
  refine eby (pe_slice sl_str eself pl ph) ?_
  refine ha X F g σ W E _ fun v g1 e1 W1 d1 => ?_
  refine hl' g1 σ W1 (E.ext e1) _ fun g2 e2 W2 => ?_
  refine hh' g2 σ W2 ((E.ext e1).ext e2) _ fun g3 e3 W3 => ?_
  cases d1
  exact ⟨s, rfl, hs, q _ g3 ((e1.trans e2).trans e3) W3 (.str _)⟩
/-- one sign in a text -/
theorem ev_inS {c : Nat} {z : Str} (ha : EV T Γ a δ L (.str ⟨#[c]⟩) M1) (hb : EV T Γ b δ M1 (.str z) M2) (hm : behindInMarks .In b = false) : EV T Γ (.Compare a [.In] [b] pos) δ L (.bl (decide (c ∈ z.cps.toList))) M2 :=
  ev_cmp _ (fun X F => op_in_sign) ha hb (fun g v u W dv du Q q => by
    cases dv; cases du
    exact ⟨c, z, rfl, rfl, q _ g (.refl g) W (.bl _)⟩) hm
theorem ev_ninS {c : Nat} {z : Str} (ha : EV T Γ a δ L (.str ⟨#[c]⟩) M1) (hb : EV T Γ b δ M1 (.str z) M2) (hm : behindInMarks .NotIn b = false) : EV T Γ (.Compare a [.NotIn] [b] pos) δ L (.bl (!decide (c ∈ z.cps.toList))) M2 :=
  ev_cmp _ (fun X F => op_notIn_sign) ha hb (fun g v u W dv du Q q => by
    cases dv; cases du
    exact ⟨c, z, rfl, rfl, q _ g (.refl g) W (.bl _)⟩) hm
theorem tv_inS {c : Nat} {z : Str} (ha : EV T Γ a δ L (.str ⟨#[c]⟩) M1) (hb : EV T Γ b δ M1 (.str z) M2) (hm : behindInMarks .In b = false) : TV T Γ (.Compare a [.In] [b] pos) δ L (decide (c ∈ z.cps.toList)) M2 :=
  tv_cmp _ (fun X F => op_in_sign) ha hb (fun g v u W dv du Q q => by
    cases dv; cases du
    exact ⟨c, z, rfl, rfl, q _ g (.refl g) W (.bl _)⟩) hm
theorem tv_ninS {c : Nat} {z : Str} (ha : EV T Γ a δ L (.str ⟨#[c]⟩) M1) (hb : EV T Γ b δ M1 (.str z) M2) (hm : behindInMarks .NotIn b = false) : TV T Γ (.Compare a [.NotIn] [b] pos) δ L (!decide (c ∈ z.cps.toList)) M2 :=
  tv_cmp _ (fun X F => op_notIn_sign) ha hb (fun g v u W dv du Q q => by
    cases dv; cases du
    exact ⟨c, z, rfl, rfl, q _ g (.refl g) W (.bl _)⟩) hm
/-- for c in s: sign by sign -/
theorem iv_str {tg : Expr} {s : Str} (h : EV T Γ a δ L (.str s) M1) : IV T Γ tg a δ L (fun _ => True) (s.cps.toList.map fun c => .str ⟨#[c]⟩) M1 := fun X F => ⟨_, pi_str eself, fun g σ W E R r => h X F g σ W E _ fun v g1 e1 W1 d1 => by
  cases d1
  refine ⟨s, rfl, r _ g1 e1 W1 ⟨fun g L i e W p hi => ?_, fun g L i x H' d e W p hd q => ?_, fun g L i e W p hi => ?_⟩⟩
  · rw [List.length_map, Array.length_toList] at hi
    exact hi
  · obtain ⟨q1, c, q2, q3⟩ := q
    subst q1 q3
    rw [List.getElem?_map, Array.getElem?_toList, q2] at hd
    cases hd
    exact ⟨g, rfl, .refl g, W, .str _⟩
  · rw [List.length_map, Array.length_toList] at hi
    exact hi⟩
/-! ### isinstance of cells, of an own class -/
theorem isN_cell {k : Nat} {c : Cell} {g : Gw} {v : V} (W : Wo T.K g L) (h : Dt T.K g v (.ref k)) (hk : L[k]? = some c) : (∀ ds, c = .list ds → TyX T.K g.H v (.type "list")) ∧ (∀ kvs, c = .dict kvs → TyX T.K g.H v (.type "dict")) := by
  cases h
  refine ⟨fun ds e => ?_, fun kvs e => ?_⟩
  · subst e
    obtain ⟨_, xs, h1, _⟩ := W.list hk
    exact .base (.lst h1)
  · subst e
    obtain ⟨_, xs, h1, _⟩ := W.dict hk
    exact .base (.dK h1)
theorem ev_isiX {e : Expr} {n : Str} {id : String} {p p2 : Pos} {k : Bool} (hm : T.mg "isinstance" = none) (ha : EV T Γ e δ L x M1) (hk : ∀ g v, Wo T.K g M1 → Dt T.K g v x → ∃ t, TyX T.K g.H v t ∧ PySem.W.kitOne T.K t (.type id) = some k) (hm2 : T.mg n = none) (hv2 : bootBuiltins n = some (.type id)) (hg2 : GlS Γ.sc n) (hn2 : n ≠ "__name__") (hdb2 : (n == ("__debug__" : Str)) = false) (hg : GlS Γ.sc "isinstance") (he : plainE e = true) :
    EV T Γ (.Call (.Name "isinstance" p) [e, .Name n p2] [] pos) δ L (.bl k) M1 := fun X F g σ W E Q q => by
  refine eby (pe_callB call_isi (F.gl hg) (by rw [F.mg]; exact hm) (by decide +kernel) (pa_cons eself (pa_cons (pe_bltn (v := .ty id) (F.gl hg2) (by rw [F.mg]; exact hm2) hv2 rfl hn2 hdb2) pa_nil (star_one rfl)) (star_cons he)) (by decide) (by decide) (star_cons he) (star_any rfl)) ?_
  refine ha X F g σ W E _ fun v g1 e1 W1 d1 => ?_
  obtain ⟨t, h1, h2⟩ := hk g1 v W1 d1
  exact ⟨v, .ty id, t, .type id, k, rfl, .ty id, by rw [F.K]; exact h1, by rw [F.K]; exact h2, q _ g1 e1 W1 (.bl k)⟩
/-- what is asked of an own class for isinstance -/
def isB (K : PySem.W.Frag) (C : Str) : Bool := eqv1 (PySem.W.findIn K (.ref (He.ga K C)) "__class__") && (eqv2 (PySem.W.specialIn K (.builtin "object.__class__") "__get__") && (decide (PySem.W.takesIn K (.builtin "object.__class__") = some true) && decide (PySem.W.mroIn K (He.ga K C) (.type "object") = some true)))
where
  eqv1 (o : Option (Option Value)) : Bool := decide (o = some (some (.builtin "object.__class__")))
  eqv2 (o : Option (Option Value)) : Bool := decide (o = some (some (.builtin "getset_descriptor.__get__")))
theorem isB_ok {K : PySem.W.Frag} {C : Str} (h : isB K C = true) : PySem.W.findIn K (.ref (He.ga K C)) "__class__" = some (some (.builtin "object.__class__")) ∧ PySem.W.specialIn K (.builtin "object.__class__") "__get__" = some (some (.builtin "getset_descriptor.__get__")) ∧ PySem.W.takesIn K (.builtin "object.__class__") = some true ∧ PySem.W.mroIn K (He.ga K C) (.type "object") = some true := by
  unfold isB at h
  rw [Bool.and_eq_true, Bool.and_eq_true, Bool.and_eq_true] at h
  exact ⟨of_decide_eq_true h.1, of_decide_eq_true h.2.1, of_decide_eq_true h.2.2.1, of_decide_eq_true h.2.2.2⟩
theorem ev_isc {e : Expr} {n : Str} {p p2 : Pos} {k : Nat} {fs : List (Str × D)} (hm : T.mg "isinstance" = none) (ha : EV T Γ e δ L (.ref k) M1) (hk : M1[k]? = some (.ins n fs)) (hb : isB T.K n = true) (cl : Cls T.K (He.ga T.K n)) (hm2 : T.mg n = some (.ref (He.ga T.K n))) (hg2 : GlS Γ.sc n) (hdb2 : (n == ("__debug__" : Str)) = false) (hg : GlS Γ.sc "isinstance") (he : plainE e = true) :
    EV T Γ (.Call (.Name "isinstance" p) [e, .Name n p2] [] pos) δ L (.bl true) M1 := fun X F g σ W E Q q => by
  refine eby (pe_callB call_isi (F.gl hg) (by rw [F.mg]; exact hm) (by decide +kernel) (pa_cons eself (pa_cons (pe_glob (v := .ref (He.ga T.K n)) (F.gl hg2) (by rw [F.mg]; exact hm2) rfl hdb2) pa_nil (star_one rfl)) (star_cons he)) (by decide) (by decide) (star_cons he) (star_any rfl)) ?_
  refine ha X F g σ W E _ fun v g1 e1 W1 d1 => ?_
  cases d1
  obtain ⟨_, dx, fv, h1, h2⟩ := W1.ins hk
  obtain ⟨b1, b2, b3, b4⟩ := isB_ok hb
  refine ⟨_, .ref (He.ga T.K n), .ref (He.ga T.K n), .ref (He.ga T.K n), true, rfl, .own _, by rw [F.K]; exact .base (.ins h1 cl b1 b2 b3 b4), ?_, q _ g1 e1 W1 (.bl true)⟩
  unfold PySem.W.kitOne
  rw [if_pos (by simp)]
/-! ### in, over data -/
theorem ev_inDD {z : D} {ds : List D} (ha : EV T Γ a δ L x M1) (hb : EV T Γ b δ M1 y M2) (hc : Γ.c = true) (hx : ∀ g v, Wo T.K g M2 → Dt T.K g v x → Dp T.K g.H v z.py) (hy : ∀ g v, Wo T.K g M2 → Dt T.K g v y → Dp T.K g.H v (.list (pyL ds))) (sx : SeqAt.shaped z.py = true) (sy : SeqAt.shaped (.list (pyL ds)) = true) (hm : behindInMarks .In b = false) : EV T Γ (.Compare a [.In] [b] pos) δ L (.bl ((pyL ds).any fun w => PyData.eqv w z.py)) M2 :=
  ev_cmp (rInD T.K) (fun X F => by rw [← F.K]; exact op_inD (by have h := (F.room hc).un; omega)) ha hb (fun g v u W dv du Q q => ⟨z.py, pyL ds, hx g v W dv, hy g u W du, sx, sy, q _ g (.refl g) W (.bl _)⟩) hm
theorem ev_ninDD {z : D} {ds : List D} (ha : EV T Γ a δ L x M1) (hb : EV T Γ b δ M1 y M2) (hc : Γ.c = true) (hx : ∀ g v, Wo T.K g M2 → Dt T.K g v x → Dp T.K g.H v z.py) (hy : ∀ g v, Wo T.K g M2 → Dt T.K g v y → Dp T.K g.H v (.list (pyL ds))) (sx : SeqAt.shaped z.py = true) (sy : SeqAt.shaped (.list (pyL ds)) = true) (hm : behindInMarks .NotIn b = false) : EV T Γ (.Compare a [.NotIn] [b] pos) δ L (.bl (!(pyL ds).any fun w => PyData.eqv w z.py)) M2 :=
  ev_cmp (rNotInD T.K) (fun X F => by rw [← F.K]; exact op_notInD (by have h := (F.room hc).un; omega)) ha hb (fun g v u W dv du Q q => ⟨z.py, pyL ds, hx g v W dv, hy g u W du, sx, sy, q _ g (.refl g) W (.bl _)⟩) hm
theorem ev_eqX {z w : D} (ha : EV T Γ a δ L x M1) (hb : EV T Γ b δ M1 y M2) (hc : Γ.c = true) (hx : ∀ g v, Wo T.K g M2 → Dt T.K g v x → Dp T.K g.H v z.py) (hy : ∀ g v, Wo T.K g M2 → Dt T.K g v y → Dp T.K g.H v w.py) (sx : SeqAt.shaped z.py = true) (sy : SeqAt.shaped w.py = true) : EV T Γ (.Compare a [.Eq] [b] pos) δ L (.bl (PyData.eqv z.py w.py)) M2 :=
  ev_cmp (rEqD T.K) (fun X F => by rw [← F.K]; exact op_eqD (F.room hc).units) ha hb (fun g v u W dv du Q q => ⟨z.py, w.py, hx g v W dv, hy g u W du, sx, sy, q _ g (.refl g) W (.bl _)⟩) (nomark _)
theorem ev_neX {z w : D} (ha : EV T Γ a δ L x M1) (hb : EV T Γ b δ M1 y M2) (hc : Γ.c = true) (hx : ∀ g v, Wo T.K g M2 → Dt T.K g v x → Dp T.K g.H v z.py) (hy : ∀ g v, Wo T.K g M2 → Dt T.K g v y → Dp T.K g.H v w.py) (sx : SeqAt.shaped z.py = true) (sy : SeqAt.shaped w.py = true) : EV T Γ (.Compare a [.NotEq] [b] pos) δ L (.bl (!PyData.eqv z.py w.py)) M2 :=
  ev_cmp (rNeD T.K) (fun X F => by rw [← F.K]; exact op_neD (F.room hc).units) ha hb (fun g v u W dv du Q q => ⟨z.py, w.py, hx g v W dv, hy g u W du, sx, sy, q _ g (.refl g) W (.bl _)⟩) (nomark _)
/-- a test of a comparison from its value -/
theorem tv_inDD {z : D} {ds : List D} (ha : EV T Γ a δ L x M1) (hb : EV T Γ b δ M1 y M2) (hc : Γ.c = true) (hx : ∀ g v, Wo T.K g M2 → Dt T.K g v x → Dp T.K g.H v z.py) (hy : ∀ g v, Wo T.K g M2 → Dt T.K g v y → Dp T.K g.H v (.list (pyL ds))) (sx : SeqAt.shaped z.py = true) (sy : SeqAt.shaped (.list (pyL ds)) = true) (hm : behindInMarks .In b = false) : TV T Γ (.Compare a [.In] [b] pos) δ L ((pyL ds).any fun w => PyData.eqv w z.py) M2 :=
  tv_cmp (rInD T.K) (fun X F => by rw [← F.K]; exact op_inD (by have h := (F.room hc).un; omega)) ha hb (fun g v u W dv du Q q => ⟨z.py, pyL ds, hx g v W dv, hy g u W du, sx, sy, q _ g (.refl g) W (.bl _)⟩) hm
theorem tv_ninDD {z : D} {ds : List D} (ha : EV T Γ a δ L x M1) (hb : EV T Γ b δ M1 y M2) (hc : Γ.c = true) (hx : ∀ g v, Wo T.K g M2 → Dt T.K g v x → Dp T.K g.H v z.py) (hy : ∀ g v, Wo T.K g M2 → Dt T.K g v y → Dp T.K g.H v (.list (pyL ds))) (sx : SeqAt.shaped z.py = true) (sy : SeqAt.shaped (.list (pyL ds)) = true) (hm : behindInMarks .NotIn b = false) : TV T Γ (.Compare a [.NotIn] [b] pos) δ L (!(pyL ds).any fun w => PyData.eqv w z.py) M2 :=
  tv_cmp (rNotInD T.K) (fun X F => by rw [← F.K]; exact op_notInD (by have h := (F.room hc).un; omega)) ha hb (fun g v u W dv du Q q => ⟨z.py, pyL ds, hx g v W dv, hy g u W du, sx, sy, q _ g (.refl g) W (.bl _)⟩) hm
theorem tv_eqX {z w : D} (ha : EV T Γ a δ L x M1) (hb : EV T Γ b δ M1 y M2) (hc : Γ.c = true) (hx : ∀ g v, Wo T.K g M2 → Dt T.K g v x → Dp T.K g.H v z.py) (hy : ∀ g v, Wo T.K g M2 → Dt T.K g v y → Dp T.K g.H v w.py) (sx : SeqAt.shaped z.py = true) (sy : SeqAt.shaped w.py = true) : TV T Γ (.Compare a [.Eq] [b] pos) δ L (PyData.eqv z.py w.py) M2 :=
  tv_cmp (rEqD T.K) (fun X F => by rw [← F.K]; exact op_eqD (F.room hc).units) ha hb (fun g v u W dv du Q q => ⟨z.py, w.py, hx g v W dv, hy g u W du, sx, sy, q _ g (.refl g) W (.bl _)⟩) (nomark _)
theorem tv_neX {z w : D} (ha : EV T Γ a δ L x M1) (hb : EV T Γ b δ M1 y M2) (hc : Γ.c = true) (hx : ∀ g v, Wo T.K g M2 → Dt T.K g v x → Dp T.K g.H v z.py) (hy : ∀ g v, Wo T.K g M2 → Dt T.K g v y → Dp T.K g.H v w.py) (sx : SeqAt.shaped z.py = true) (sy : SeqAt.shaped w.py = true) : TV T Γ (.Compare a [.NotEq] [b] pos) δ L (!PyData.eqv z.py w.py) M2 :=
  tv_cmp (rNeD T.K) (fun X F => by rw [← F.K]; exact op_neD (F.room hc).units) ha hb (fun g v u W dv du Q q => ⟨z.py, w.py, hx g v W dv, hy g u W du, sx, sy, q _ g (.refl g) W (.bl _)⟩) (nomark _)
/-! ### tests of membership in a dict -/
theorem tv_din {o i : Expr} {k : Nat} {kvs} {z : Key} (hi : EV T Γ i δ L (kD z) M1) (ho : EV T Γ o δ M1 (.ref k) M2) (hk : RdDict M2 k kvs) (hc : Γ.c = true) (hm : behindInMarks .In o = false) : TV T Γ (.Compare i [.In] [o] pos) δ L (lkA z kvs).isSome M2 := fun X F g σ W E Q q => by
  refine tby (pt_cmp (pc_din (hu_of (F.room hc)) eself eself) hm) ?_
  refine hi X F g σ W E _ fun v g1 e1 W1 d1 => ?_
  refine ho X F g1 σ W1 (E.ext e1) _ fun u g2 e2 W2 d2 => ?_
  cases d2
  obtain ⟨kv, h1, h2⟩ := hk.at W2
  have z' := lk_isSome (T := T) (y := z) h2
  refine ⟨_, valV kv z, rfl, .inl ⟨kv, z, h1, d1.key, rfl⟩, _, rfl, ?_⟩
  rw [z']
  exact q g2 (e1.trans e2) W2
theorem tv_dnin {o i : Expr} {k : Nat} {kvs} {z : Key} (hi : EV T Γ i δ L (kD z) M1) (ho : EV T Γ o δ M1 (.ref k) M2) (hk : RdDict M2 k kvs) (hc : Γ.c = true) (hm : behindInMarks .NotIn o = false) : TV T Γ (.Compare i [.NotIn] [o] pos) δ L (!(lkA z kvs).isSome) M2 := fun X F g σ W E Q q => by
  refine tby (pt_cmp (pc_dnotin (hu_of (F.room hc)) eself eself) hm) ?_
  refine hi X F g σ W E _ fun v g1 e1 W1 d1 => ?_
  refine ho X F g1 σ W1 (E.ext e1) _ fun u g2 e2 W2 d2 => ?_
  cases d2
  obtain ⟨kv, h1, h2⟩ := hk.at W2
  have z' := lk_isSome (T := T) (y := z) h2
  refine ⟨_, valV kv z, rfl, .inl ⟨kv, z, h1, d1.key, rfl⟩, _, rfl, ?_⟩
  rw [z']
  exact q g2 (e1.trans e2) W2
/-! ### slices as new cells -/
theorem en_slL {lo hi : Option Expr} {p2 : Pos} {i j : Option Int} {ds : List D} (ha : EV T Γ a δ L x M1) (hs : x = .lst ds ∨ ∃ k, x = .ref k ∧ M1[k]? = some (.list ds)) (hl : OV T Γ lo δ M1 i) (hh : OV T Γ hi δ M1 j) : EV T Γ (.Subscript a (.Slice lo hi none p2) pos) δ L (.ref M1.length) (M1 ++ [.list (cutD ds i j)]) := fun X F g σ W E Q q => by
  obtain ⟨tl, pl, hl'⟩ := ov_at F hl
  obtain ⟨th, ph, hh'⟩ := ov_at F hh
  refine eby (pe_slice sl_list eself pl ph) ?_
  refine ha X F g σ W E _ fun v g1 e1 W1 d1 => ?_
  refine hl' g1 σ W1 (E.ext e1) _ fun g2 e2 W2 => ?_
  refine hh' g2 σ W2 ((E.ext e1).ext e2) _ fun g3 e3 W3 => ?_
  have d3 := (d1.ext e2).ext e3
  have key : ∃ A xs, v = .ref A ∧ SqL X.K g3.H A xs ∧ DtL T.K g3 xs ds := by
    rw [F.K]
    rcases hs with rfl | ⟨k, rfl, hk⟩
    · cases d3 with
      | lst p l => exact ⟨_, _, rfl, p.sq, l⟩
    · cases d3
      obtain ⟨_, xs, h1, h2⟩ := W3.list hk
      exact ⟨_, xs, rfl, .inl (.inl h1), h2⟩
  obtain ⟨A, xs, rfl, h1, h2⟩ := key
  refine ⟨A, xs, rfl, h1, fun p hp => ?_⟩
  obtain ⟨e4, W4, d4⟩ := new_cell W3 hp (o := HO.lst (cutV xs i j)) (c := .list (cutD ds i j)) fun g' eg => by
    subst eg
    exact ⟨by rw [cell_ι]; exact cell_own, _, by rw [cell_ι]; exact upd_same, (cut_dt h2).ext (cell_ext hp)⟩
  exact q _ _ (((e1.trans e2).trans e3).trans e4) W4 d4
end
end G
set_option Elab.async false
set_option linter.all false
set_option maxRecDepth 100000
set_option maxHeartbeats 4000000
/-! G17: sorted, of any length. -/
namespace G
open PySem PySem.Spec PyProof.Rows L2
section
variable {X : Cx}
/-- sorted: what stands at a, a list or a dict's keys, gives the list ys of ks -/
def rSrt (K : PySem.W.Frag) (α : Type) (mk : α → V) (key : α → L2.Key) (okS : List α → Prop) : List V → Hp → VK → Prop := fun vs H Q => ∃ (a : Addr) (ks : List α), vs = [V.ref a] ∧
  (SqL K H a (ks.map mk) ∨ ∃ kvs : List (L2.Key × V), Rd H a (.dK kvs) ∧ kvs.map (·.1) = ks.map key) ∧
  ∀ (ys : List α) (p : Addr), ys.Perm ks → okS ys → H p = none → Q (.ref p) (upd H p (.lst (ys.map mk)))
theorem size_dict {kvs : List (L2.Key × V)} {α : Type} {ks : List α} {key : α → L2.Key} (h : kvs.map (·.1) = ks.map key) : kvs.length = ks.length := by
  have e := congrArg List.length h
  simpa using e
/-- the keys of a dict laid in a new list, then sorted in place -/
theorem srt_dict {α : Type} {mk : α → V} {key : α → L2.Key} {okS : List α → Prop} {Rel : List Value → List α → Prop} (hv : ∀ {us : List Value} {ks : List α}, Rel us ks → Vals (ks.map mk) us)
    (hrel : ∀ {us : List Value} {ks : List α}, us.length = ks.length → (∀ (j : Nat) (v : Value), us[j]? = some v → ∃ y, ks[j]? = some y ∧ keyIs (key y) v = true) → Rel us ks)
    (hsort : ∀ {prog : Program} {w : World} {A : Around} {E : Value → Shared → Prop} {s : Shared} {a : Addr} {us : List Value} {ks : List α} {n : Nat} {P : PySem.Fin → Shared → Prop}, s.heap.get? a = some (seqObj "list" us.toArray n) → Rel us ks → us.length ≤ sizeLine →
      (∀ (out : Array Value) (ys : List α), Rel out.toList ys → ys.Perm ks → okS ys → P (.done (.ret .none)) { s with heap := sortedHeap s.heap a us out }) → wpAny (model prog w) A (Builtin.«list.sort» ⟨[.ref a], []⟩) P E s)
    (hc : X.calm = true) {pins : List (Addr × Obj)} {σ : L2.St} {H : Hp} {s : Shared} {a : Addr} {kvs : List (L2.Key × V)} {ks : List α} {Q : VK} (I : Inv X pins σ H s) (hd : Rd H a (.dK kvs)) (hk : kvs.map (·.1) = ks.map key)
    (q : ∀ (ys : List α) (p : Addr), ys.Perm ks → okS ys → H p = none → Q (.ref p) (upd H p (.lst (ys.map mk)))) : wpAny (model X.prog X.w) X.A (call (.builtin "sorted") [.ref a]) (EP X pins σ Q) X.xe s := by
  obtain ⟨z, lo, vs, rel, dd⟩ := dk_rd I.hok hd
  obtain ⟨ep, hat⟩ := dd.dictAt
  have hkeys : vs.map (·.1) = ks.map key := rel.keys.symm.trans hk
  have hl : vs.length = ks.length := by
    have e := congrArg List.length hkeys
    simpa using e
  have hz : vs.length ≤ sizeLine := by
    rw [← rel.length]
    exact z
  refine Calls.call_function_entry kind_sorted plain_sorted entry_sorted (args_sorted1 _) ?_
  unfold Builtin.«sorted»
  refine wpAny_bind (m := checkCount "sorted" 1 1 _) (wpAny_pure ?_)
  refine wpAny_bind (PySem.W.kdu_collect (A := X.A.in1) (PySem.W.kdl_dict (knd := mixKind X.prog X.w) (kvs := vs) (ep := ep) lo) (I.ok.hd hc) hat hz fun h' tk acc hk hacc => ?_)
  have hal : acc.toList.length = ks.length := by rw [Array.length_toList, hacc.1, hl]
  have hR : Rel acc.toList ks := hrel hal fun j v e => by
    obtain ⟨k, x, e1, e2⟩ := hacc.2 j v (by rw [← Array.getElem?_toList]; exact e)
    have e3 : (ks.map key)[j]? = some k := by rw [← hkeys, List.getElem?_map, e1]; rfl
    rw [List.getElem?_map] at e3
    cases e4 : ks[j]? with
    | none => rw [e4] at e3; cases e3
    | some y =>
      rw [e4] at e3
      have e5 : key y = k := Option.some.inj e3
      exact ⟨y, rfl, by rw [e5]; exact e2⟩
  have I1 : Inv X pins σ H { s with heap := h', toks := tk } := I.kept hk
  have hz2 : acc.toList.length ≤ sizeLine := by rw [hal, ← hl]; exact hz
  refine wpAny_bind (wpAny_newList ?_ hz2)
  have hoL : (h'.push (seqObj "list" acc.toList.toArray 0)).get? h'.objs.size = some (seqObj "list" acc.toList.toArray 0) := Heap.get?_push_size _ rfl
  show wpAny _ _ _ _ _ { s with heap := h'.push (seqObj "list" acc.toList.toArray 0), toks := tk }
  refine wpAny_bind (wpAny_holding (wpAny_call_entry slot_list_sort ⟨_, hoL, rfl⟩ entry_list_sort (hsort (s := { s with heap := h'.push (seqObj "list" acc.toList.toArray 0), toks := tk }) hoL hR hz2 fun out ys g1 g2 g3 => ⟨_, rfl, ?_⟩) (args_list_sort _)))
  obtain ⟨e', he'⟩ := sortedHeap_at (vs := acc.toList) (out := out) hoL
  have hlen : (ys.map mk).length ≤ sizeLine := by
    rw [List.length_map, g2.length_eq, ← hal]
    exact hz2
  have hat2 : ObjOk X.prog X.w (upd H h'.objs.size (.lst (ys.map mk))) (sortedHeap (h'.push (seqObj "list" acc.toList.toArray 0)) h'.objs.size acc.toList out) h'.objs.size (.lst (ys.map mk)) := ⟨hlen, out.toList, e', hv g1, by rw [Array.toArray_toList]; exact he'⟩
  refine wpAny_pure ⟨_, rfl, .ref h'.objs.size, upd H h'.objs.size (.lst (ys.map mk)), I1.laid (t' := tk) (fun b u e => ?_) (Nat.le_refl _) hat2, rfl, q ys _ g2 g3 (I1.hok.fresh (Nat.le_refl _))⟩
  have hb : b < h'.objs.size := Heap.lt_size e
  rw [sortedHeap_old (Nat.ne_of_lt hb) (by rw [size_push']; exact Nat.lt_succ_of_lt hb)]
  exact Heap.get?_push_of_some _ e
theorem ints_by {us : List Value} {ks : List Int} (hl : us.length = ks.length) (h : ∀ (j : Nat) (v : Value), us[j]? = some v → ∃ y, ks[j]? = some y ∧ keyIs (Sum.inl y) v = true) : IntsAre us ks :=
  ints_each hl fun j v e => by
    obtain ⟨y, e1, e2⟩ := h j v e
    rcases keyIs_shape e2 with ⟨i, t, ek, ev⟩ | ⟨z, t, ek, ev⟩
    · cases ek
      exact ⟨y, t, e1, ev⟩
    · cases ek
theorem strs_by : ∀ {us : List Value} {ks : List Str}, us.length = ks.length → (∀ (j : Nat) (v : Value), us[j]? = some v → ∃ y, ks[j]? = some y ∧ keyIs (Sum.inr y) v = true) → StrsAre us ks
  | [], [], _, _ => .nil
  | u :: us, k :: ks, hl, h => by
    obtain ⟨y, e1, e2⟩ := h 0 u rfl
    cases e1
    rcases keyIs_shape e2 with ⟨i, t, ek, ev⟩ | ⟨z, t, ek, ev⟩
    · cases ek
    · cases ek
      subst ev
      exact .cons _ _ (strs_by (by simpa using hl) fun j v e => by
        obtain ⟨y, a, b⟩ := h (j + 1) v (by simpa using e)
        exact ⟨y, by simpa using a, b⟩)
  | [], _ :: _, hl, _ => by simp at hl
theorem sort_strsAny {prog : Program} {w : World} {A : Around} {E : Value → Shared → Prop} {s : Shared} {a : Addr} {us : List Value} {ss : List Str} {n : Nat} {P : PySem.Fin → Shared → Prop} (ho : s.heap.get? a = some (seqObj "list" us.toArray n)) (hS : StrsAre us ss) (hL : us.length ≤ sizeLine)
    (h : ∀ (out : Array Value) (ys : List Str), StrsAre out.toList ys → ys.Perm ss → sortedS ys = true → P (.done (.ret .none)) { s with heap := sortedHeap s.heap a us out }) :
    wpAny (model prog w) A (Builtin.«list.sort» ⟨[.ref a], []⟩) P E s := by
  refine list_sort_treeKAny strKind_oneLt ho hS.keysOf (fun v₁ v₂ rest e => keyKind_strs (by rw [← e]; exact hS)) hL fun st' hp hs => ?_
  obtain ⟨ss', h1, h2, h3⟩ := sorted_out_str hS hp hs
  exact h _ ss' h1 h2 h3
theorem cr_srtI (hc : X.calm = true) : CallR X (.builtin "sorted") (rSrt X.K Int V.int Sum.inl fun ys => ys.Pairwise (· ≤ ·)) := by
  intro pins s σ H vs us Q I r h
  obtain ⟨a, ks, rfl, h1, q⟩ := h
  rcases h1 with h1 | ⟨kvs, h1, h2⟩
  · exact cr_sortedI pins s σ H _ us Q I r ⟨a, ks, rfl, h1, q⟩
  · rw [Vals.ref1 r]
    exact srt_dict (Rel := IntsAre) vals_of_ints ints_by list_sort_treeAny hc I h1 h2 q
theorem cr_srtS (hc : X.calm = true) : CallR X (.builtin "sorted") (rSrt X.K Str V.str Sum.inr fun ys => sortedS ys = true) := by
  intro pins s σ H vs us Q I r h
  obtain ⟨a, ks, rfl, h1, q⟩ := h
  rw [Vals.ref1 r]
  rcases h1 with h1 | ⟨kvs, h1, h2⟩
  · obtain ⟨its, rv, hl, hz⟩ := I.list h1
    have hlen0 := rv.length
    rw [List.length_map] at hlen0 hz
    refine sorted_strsAny hl.isList rv.strs (by rw [← hlen0]; exact hz) fun out ys g1 g2 g3 => ?_
    obtain ⟨ep, he'⟩ := sortedAll_at s.heap its out
    have hlen : (ys.map V.str).length ≤ sizeLine := by rw [List.length_map, g2.length_eq]; exact hz
    have hat : ObjOk X.prog X.w (upd H (s.heap.objs.size + 1) (.lst (ys.map V.str))) _ (s.heap.objs.size + 1) (.lst (ys.map V.str)) := ⟨hlen, out.toList, ep, vals_of_strs g1, he'⟩
    exact ⟨.ref _, upd H (s.heap.objs.size + 1) (.lst (ys.map V.str)), I.laid (t' := s.toks) (fun _ _ => sortedAll_old) (Nat.le_succ _) hat, rfl, q ys _ g2 g3 (I.hok.fresh (Nat.le_succ _))⟩
  · exact srt_dict (Rel := StrsAre) vals_of_strs strs_by sort_strsAny hc I h1 h2 q
end
end G
set_option Elab.async false
set_option linter.all false
set_option maxRecDepth 100000
set_option maxHeartbeats 4000000
/-! I1: a small language of one's own, and what it gives: expressions. -/
namespace I
open PySem PySem.Spec PyProof.Rows L2 G
open scoped Classical

/-! ### results -/
inductive R (α : Type) where
  | ok (a : α) (L : Store) | ex (C : Str) (L : Store) | no
section
variable {α β : Type}
/-- what follows a value; what is raised is not told -/
def R.bd (r : R α) (f : α → Store → R β) : R β := match r with
  | .ok a L => f a L
  | _ => .no
/-- the same; what is raised goes on -/
def R.bx (r : R α) (f : α → Store → R β) : R β := match r with
  | .ok a L => f a L
  | .ex C L => .ex C L
  | .no => .no
def R.op (o : Option α) (L : Store) : R α := match o with
  | some a => .ok a L
  | none => .no
@[simp] theorem R.bd_ok {a : α} {L : Store} {f : α → Store → R β} : (R.ok a L).bd f = f a L := rfl
@[simp] theorem R.bd_ex {C : Str} {L : Store} {f : α → Store → R β} : (R.ex C L : R α).bd f = .no := rfl
@[simp] theorem R.bd_no {f : α → Store → R β} : (R.no : R α).bd f = .no := rfl
@[simp] theorem R.bx_ok {a : α} {L : Store} {f : α → Store → R β} : (R.ok a L).bx f = f a L := rfl
@[simp] theorem R.bx_ex {C : Str} {L : Store} {f : α → Store → R β} : (R.ex C L : R α).bx f = .ex C L := rfl
@[simp] theorem R.bx_no {f : α → Store → R β} : (R.no : R α).bx f = .no := rfl
@[simp] theorem R.op_some {a : α} {L : Store} : R.op (some a) L = .ok a L := rfl
@[simp] theorem R.op_none {L : Store} : R.op (none : Option α) L = .no := rfl
theorem R.bd_eq {r : R α} {f : α → Store → R β} {b : β} {L : Store} (h : r.bd f = .ok b L) : ∃ a M, r = .ok a M ∧ f a M = .ok b L := by
  cases r with
  | ok a M => exact ⟨a, M, rfl, h⟩
  | ex C M => cases h
  | no => cases h
theorem R.bd_ex' {r : R α} {f : α → Store → R β} {C : Str} {L : Store} (h : r.bd f = .ex C L) : ∃ a M, r = .ok a M ∧ f a M = .ex C L := by
  cases r with
  | ok a M => exact ⟨a, M, rfl, h⟩
  | ex C M => cases h
  | no => cases h
theorem R.bx_eq {r : R α} {f : α → Store → R β} {b : β} {L : Store} (h : r.bx f = .ok b L) : ∃ a M, r = .ok a M ∧ f a M = .ok b L := by
  cases r with
  | ok a M => exact ⟨a, M, rfl, h⟩
  | ex C M => cases h
  | no => cases h
theorem R.bx_ex' {r : R α} {f : α → Store → R β} {C : Str} {L : Store} (h : r.bx f = .ex C L) : r = .ex C L ∨ ∃ a M, r = .ok a M ∧ f a M = .ex C L := by
  cases r with
  | ok a M => exact .inr ⟨a, M, rfl, h⟩
  | ex D M =>
    cases h
    exact .inl rfl
  | no => cases h
theorem R.op_ok {o : Option α} {L L' : Store} {a : α} (h : R.op o L = .ok a L') : o = some a ∧ L' = L := by
  cases o with
  | none => cases h
  | some b =>
    cases h
    exact ⟨rfl, rfl⟩
theorem R.op_nex {o : Option α} {L L' : Store} {C : Str} (h : R.op o L = .ex C L') : False := by
  cases o <;> cases h
end

/-! ### data: equality, truth, operators -/
mutual
def eqvD : D → D → Bool
  | .non, .non => true
  | .bl a, .bl b => a == b
  | .bl a, .int j => (if a then 1 else 0) == j
  | .int i, .bl b => i == (if b then 1 else 0)
  | .int i, .int j => i == j
  | .str x, .str y => x == y
  | .lst xs, .lst ys => eqvL xs ys
  | .tup xs, .tup ys => eqvL xs ys
  | _, _ => false
def eqvL : List D → List D → Bool
  | [], [] => true
  | x :: xs, y :: ys => eqvD x y && eqvL xs ys
  | _, _ => false
end
/-- data alone, no deeper than n -/
def lay : Nat → D → Bool
  | _, .non => true
  | _, .bl _ => true
  | _, .int _ => true
  | _, .str x => PyData.strOk x
  | n + 1, .tup ds => ds.all (lay n)
  | n + 1, .lst ds => ds.all (lay n)
  | _, _ => false
/-- lists that change, as they are now -/
def frz (L : Store) : Nat → D → D
  | n + 1, .tup ds => .tup (ds.map (frz L n))
  | n + 1, .lst ds => .lst (ds.map (frz L n))
  | n + 1, .ref k => match L[k]? with
    | some (.list ds) => .lst (ds.map (frz L n))
    | _ => .ref k
  | _, d => d
/-- == of dicts of data -/
def eqKv (ks ls : List (Key × D)) : Bool := ks.length == ls.length && ks.all fun p => match lkA p.1 ls with
  | some y => eqvD p.2 y
  | none => false
def eqDc (L : Store) : D → D → Option Bool
  | .ref a, .ref b => match L[a]?, L[b]? with
    | some (.dict ks), some (.dict ls) => if (ks.all fun p => lay 39 p.2) = true ∧ (ls.all fun p => lay 39 p.2) = true then some (eqKv ks ls) else none
    | _, _ => none
  | _, _ => none
def eqR (L : Store) (x y : D) : Option Bool :=
  if lay 40 x = true ∧ lay 40 y = true then some (eqvD x y)
  else if lay 40 (frz L 40 x) = true ∧ lay 40 (frz L 40 y) = true then some (eqvD (frz L 40 x) (frz L 40 y))
  else eqDc L x y
/-- a sequence's items -/
def seqOf (L : Store) : D → Option (List D)
  | .tup ds => some ds
  | .lst ds => some ds
  | .scr ns => some (ns.map D.int)
  | .ref k => match L[k]? with
    | some (.list ds) => some ds
    | _ => none
  | _ => none
def lstOf (L : Store) : D → Option (List D)
  | .lst ds => some ds
  | .ref k => match L[k]? with
    | some (.list ds) => some ds
    | _ => none
  | _ => none
def intOf : D → Option Int
  | .int i => some i
  | _ => none
def keyOf : D → Option Key
  | .int i => some (.inl i)
  | .str s => some (.inr s)
  | _ => none
def dictOf (L : Store) (k : Nat) : Option (List (Key × D)) := match L[k]? with
  | some (.dict kvs) => some kvs
  | some (.lock kvs) => some kvs
  | _ => none
inductive Bop where
  | add | sub | mul | div | mod | pow
  deriving DecidableEq
inductive Cop where
  | eq | ne | lt | le | gt | ge | mem | nin
  deriving DecidableEq
def mulOk (i j : Int) : Bool := decide (i.natAbs < 18446744073709551616) || decide (j.natAbs < 18446744073709551616)
def addD (L : Store) (x y : D) : Option D := match x, y with
  | .int i, .int j => some (.int (i + j))
  | .str a, .str b => if a.length + b.length ≤ sizeLine then some (.str (a ++ b)) else none
  | .tup a, .tup b => if a.length + b.length ≤ sizeLine then some (.tup (a ++ b)) else none
  | x, y => match lstOf L x, lstOf L y with
    | some a, some b => if a.length + b.length ≤ sizeLine then some (.lst (a ++ b)) else none
    | _, _ => none
def mulD (x y : D) : Option D := match x, y with
  | .int i, .int j => if mulOk i j = true then some (.int (i * j)) else none
  | .tup ds, .int k => if ds ≠ [] ∧ 2 ≤ k ∧ k ≤ 1000 ∧ ds.length ≤ 1000 then some (.tup (List.replicate k.toNat ds).flatten) else none
  | _, _ => none
def opD (op : Bop) (L : Store) (x y : D) : Option D := match op with
  | .add => addD L x y
  | .mul => mulD x y
  | .sub => match x, y with
    | .int i, .int j => some (.int (i - j))
    | _, _ => none
  | .div => match x, y with
    | .int i, .int j => if 0 < j ∧ j < 1073741824 then some (.int (i / j)) else none
    | _, _ => none
  | .mod => match x, y with
    | .int i, .int j => if 0 < j then some (.int (i % j)) else none
    | _, _ => none
  | .pow => match x, y with
    | .int i, .int j => if 0 ≤ j ∧ j ≤ 1000000 ∧ i.natAbs < 18446744073709551616 then some (.int (i ^ j.toNat)) else none
    | _, _ => none
def negD : D → Option D
  | .int i => some (.int (-i))
  | _ => none
def inL (x : D) (ds : List D) : Option Bool := if x.flat = true ∧ ds.all D.flat = true then some (ds.any fun y => eqD y x) else none
def inR (L : Store) (x y : D) : Option Bool := match y with
  | .str z => match x with
    | .str c => match c.cps.toList with
      | [n] => some (decide (n ∈ z.cps.toList))
      | _ => none
    | _ => none
  | .ref k => match L[k]? with
    | some (.list ds) => if x.flat = true ∧ ds.all D.flat = true then some (ds.any fun y => eqD y x)
        else if lay 40 (frz L 40 x) = true ∧ lay 40 (frz L 40 y) = true then some (ds.any fun z => eqvD (frz L 39 z) (frz L 40 x)) else none
    | some (.dict kvs) => (keyOf x).map fun k => (lkA k kvs).isSome
    | some (.lock kvs) => (keyOf x).map fun k => (lkA k kvs).isSome
    | _ => none
  | .tup ds => inL x ds
  | .lst ds => if x.flat = true ∧ ds.all D.flat = true then some (ds.any fun y => eqD y x)
      else if lay 40 (frz L 40 x) = true ∧ lay 40 (frz L 40 (.lst ds)) = true then some (ds.any fun z => eqvD (frz L 39 z) (frz L 40 x)) else none
  | _ => none
def icmp (op : Cop) (i j : Int) : Bool := match op with
  | .lt => decide (i < j)
  | .le => decide (i ≤ j)
  | .gt => decide (j < i)
  | .ge => decide (j ≤ i)
  | _ => false
def cmpD (op : Cop) (L : Store) (x y : D) : Option Bool := match op with
  | .eq => eqR L x y
  | .ne => (eqR L x y).map (!·)
  | .mem => inR L x y
  | .nin => (inR L x y).map (!·)
  | op => match x, y with
    | .int i, .int j => some (icmp op i j)
    | _, _ => none
def ixD (L : Store) (x i : D) : Option D := match x with
  | .ref k => match L[k]? with
    | some (.dict kvs) => (keyOf i).bind fun y => lkA y kvs
    | some (.lock kvs) => (keyOf i).bind fun y => lkA y kvs
    | some (.list ds) => match i with
      | .int i => atI ds i
      | _ => none
    | _ => none
  | .tup ds => match i with
    | .int i => atI ds i
    | _ => none
  | .lst ds => match i with
    | .int i => atI ds i
    | _ => none
  | .scr ns => match i with
    | .int i => (atI ns i).map D.int
    | _ => none
  | _ => none
/-- signs lo to hi of a text -/
def cutT (s : Str) (lo hi : Option Int) : Str := ⟨((s.cps.toList.drop (HT.sIx s.length 0 lo)).take (HT.sIx s.length s.length hi - HT.sIx s.length 0 lo)).toArray⟩
def slD (L : Store) (x : D) (lo hi : Option Int) : Option D := match x with
  | .tup ds => some (.tup (cutD ds lo hi))
  | .str s => if s.length ≤ sizeLine then some (.str (cutT s lo hi)) else none
  | x => (seqOf L x).map fun ds => .lst (cutD ds lo hi)

/-! ### built-ins -/
inductive Bi where
  | len | sum | tuple | list | sorted | str | int | max | min | dict
  deriving DecidableEq
def intsOf : List D → Option (List Int)
  | [] => some []
  | .int i :: r => (intsOf r).map (i :: ·)
  | _ :: _ => none
def strsOf : List D → Option (List Str)
  | [] => some []
  | .str i :: r => (strsOf r).map (i :: ·)
  | _ :: _ => none
def sortI (ns : List Int) : List Int := ns.mergeSort fun a b => decide (a ≤ b)
def leS (a b : Str) : Bool := !decide (b.cps.toList < a.cps.toList)
def sortS (ss : List Str) : List Str := ss.mergeSort leS
def keysD (kvs : List (Key × D)) : List D := kvs.map fun p => kD p.1
def sortD (ds : List D) : Option D := match intsOf ds with
  | some ns => some (.lst ((sortI ns).map D.int))
  | none => match strsOf ds with
    | some ss => some (.lst ((sortS ss).map D.str))
    | none => none
/-- what may be sorted: a list, a dict's keys -/
def sortOf (L : Store) : D → Option (List D)
  | .lst ds => some ds
  | .ref k => match L[k]? with
    | some (.list ds) => some ds
    | some (.dict kvs) => some (keysD kvs)
    | some (.lock kvs) => some (keysD kvs)
    | _ => none
  | _ => none
/-- a number's text -/
def textI (i : Int) : Str := Str.ofString (toString i)
def biD (b : Bi) (ds : List D) (L : Store) : R D := match b, ds with
  | .len, [.str s] => if s.length ≤ sizeLine then .ok (.int s.length) L else .no
  | .len, [x] => match x with
    | .ref k => match L[k]? with
      | some (.dict kvs) => .ok (.int kvs.length) L
      | _ => R.op ((seqOf L x).map fun ds => .int ds.length) L
    | x => R.op ((seqOf L x).map fun ds => .int ds.length) L
  | .sum, [x] => R.op (((seqOf L x).bind intsOf).map fun ns => .int ns.sum) L
  | .tuple, [x] => match x with
    | .tup ds => .ok (.tup ds) L
    | x => R.op ((lstOf L x).map D.tup) L
  | .list, [x] => R.op ((seqOf L x).map D.lst) L
  | .sorted, [x] => R.op ((sortOf L x).bind sortD) L
  | .str, [.int i] => if i.natAbs.log2 < 1920 then .ok (.str (textI i)) L else .no
  | .int, [.bl b] => .ok (.int (if b then 1 else 0)) L
  | .int, [.int i] => .ok (.int i) L
  | .int, [.str s] => if s.length ≤ 640 then R.op ((PySem.intText? s).map D.int) L else .no
  | .max, [.int i, .int j] => .ok (.int (if j > i then j else i)) L
  | .min, [.int i, .int j] => .ok (.int (if j < i then j else i)) L
  | .dict, [.ref k] => match dictOf L k with
    | some kvs => .ok (.ref L.length) (L ++ [.dict kvs])
    | none => .no
  | _, _ => .no
/-- methods of built-in kinds -/
inductive Bm where
  | append | pop | pop2 | get | index
  deriving DecidableEq
def bmD (m : Bm) (x : D) (ds : List D) (L : Store) : R D := match m, ds with
  | .append, [y] => match x with
    | .ref k => match L[k]? with
      | some (.list ds) => if ds.length < sizeLine then .ok .non (L.set k (.list (ds ++ [y]))) else .no
      | _ => .no
    | _ => .no
  | .pop, [y] => match x, keyOf y with
    | .ref k, some y => match L[k]? with
      | some (.dict kvs) => match lkA y kvs with
        | some d => .ok d (L.set k (.dict (delA y kvs)))
        | none => .no
      | _ => .no
    | _, _ => .no
  | .pop2, [y, z] => match x, keyOf y with
    | .ref k, some y => match L[k]? with
      | some (.dict kvs) => match lkA y kvs with
        | some d => .ok d (L.set k (.dict (delA y kvs)))
        | none => .ok z L
      | _ => .no
    | _, _ => .no
  | .get, [y, z] => match x, keyOf y with
    | .ref k, some y => match L[k]? with
      | some (.dict kvs) => .ok ((lkA y kvs).getD z) L
      | _ => .no
    | _, _ => .no
  | .index, [.str z] => match x with
    | .ref k => match L[k]? with
      | some (.xtup ss) => if z ∈ ss then .ok (.int (firstAt ss z : Nat)) L else .no
      | _ => .no
    | _ => .no
  | _, _ => .no
/-- isinstance by a built-in name -/
def isiD (L : Store) (x : D) (n : String) : Option Bool := match x with
  | .ref k => match L[k]? with
    | some (.list _) => kitB "list" n
    | some (.dict _) => kitB "dict" n
    | _ => none
  | x => x.isK n

/-! ### the language: expressions -/
mutual
inductive E where
  | non | bl (b : Bool) | int (i : Int) | str (s : Str)
  | var (i : Nat)
  | gint (n : Str) (i : Int) | gstr (n s : Str) | gtup (n : Str) (ss : List Str)
  | gidx (n : Str) (ss : List Str) (a : E)
  | gin (n : Str) (kvs : List (Str × Int)) (a : E) | gget (n : Str) (kvs : List (Str × Int)) (a : E)
  | bin (op : Bop) (a b : E) | neg (a : E)
  | cmp (op : Cop) (a b : E) | isN (a : E) | notN (a : E)
  | chain (o1 o2 : Cop) (a b c : E)
  | bop (isAnd : Bool) (es : Es) | not (a : E)
  | ite (c a b : E)
  | tup (es : Es) | lst (es : Es) | nlst (es : Es) | xtup (ss : List Str) | dict (ks : List Str) (es : Es)
  | ix (a b : E) | sl (a : E) (lo hi : Oe) | nsl (a : E) (lo hi : Oe) | rev (a : E) | lrng (a b : E)
  | fn (f : Nat) (es : Es)
  | mth (C m : Str) (f : Nat) (o : E) (es : Es)
  | mk (C : Str) (f : Nat) (es : Es)
  | fld (C : Str) (o : E) (f : Str)
  | bi (b : Bi) (es : Es) | bm (m : Bm) (o : E) (es : Es)
  | isi (a : E) (n : String) | isc (a : E) (C : Str)
  | lk (a e : E)
  | lc (elt : E) (t : List Nat) (tup : Bool) (it : It) (c : Oe) (own : List Nat)
inductive Es where
  | nil | cons (e : E) (r : Es)
inductive Oe where
  | none | some (e : E)
inductive It where
  | val (e : E) | rng (e : E) | rng2 (a b : E) | enum (e : E)
end
/-- what is walked: items, and what must stay -/
structure Items where
  ds : List D
  P : Store → Prop
/-- targets: one name, or a tuple of names -/
def bindMany : List Nat → List D → Env' → Option Env'
  | [], [], δ => some δ
  | i :: is, d :: ds, δ => bindMany is ds (δ.set i (some d))
  | _, _, _ => none
def bindT (t : List Nat) (tup : Bool) (d : D) (δ : Env') : Option Env' := match tup, t, d with
  | false, [i], d => some (δ.set i (some d))
  | true, is, .tup ds => bindMany is ds δ
  | _, _, _ => none
/-- a comprehension's items -/
def lcL (step : D → Option (Option D)) : List D → Option (List D)
  | [] => some []
  | d :: ds => match step d, lcL step ds with
    | some (some y), some ys => some (y :: ys)
    | some none, some ys => some ys
    | _, _ => none
/-- one turn of a comprehension: nothing is written -/
noncomputable def lcStep (bind : D → Option Env') (cond : Env' → Option Bool) (elt : Env' → R D) (L : Store) (d : D) : Option (Option D) := match bind d with
  | none => none
  | some δ1 => match cond δ1 with
    | none => none
    | some false => some none
    | some true => match elt δ1 with
      | .ok y L2 => if L2 = L then some (some y) else none
      | _ => none
def itemsOf (L : Store) : D → Option Items
  | .lst ds => some ⟨ds, fun _ => True⟩
  | .tup ds => some ⟨ds, fun _ => True⟩
  | .scr ns => some ⟨ns.map D.int, fun _ => True⟩
  | .str s => some ⟨s.cps.toList.map fun c => .str ⟨#[c]⟩, fun _ => True⟩
  | .ref k => match L[k]? with
    | some (.list ds) => some ⟨ds, fun L => L[k]? = some (.list ds)⟩
    | some (.lock kvs) => some ⟨keysD kvs, fun L => L[k]? = some (.lock kvs)⟩
    | _ => none
  | _ => none
def rngI (i j : Int) : Option Items := if -(2 ^ 62) ≤ i ∧ i < 2 ^ 62 ∧ -(2 ^ 62) ≤ j ∧ j < 2 ^ 62 then some ⟨rngD i (j - i).toNat, fun _ => True⟩ else none
def enumI (L : Store) : D → Option Items
  | .tup ds => some ⟨enumD ds, fun _ => True⟩
  | .lst ds => some ⟨enumD ds, fun _ => True⟩
  | .ref k => match L[k]? with
    | some (.list ds) => some ⟨enumD ds, fun L => L[k]? = some (.list ds)⟩
    | _ => none
  | _ => none
def optI (o : Option D) : Option (Option Int) := match o with
  | none => some none
  | some (.int i) => some (some i)
  | _ => none
/-- what calls give: of defs and methods, of __init__ -/
structure Calls where
  c : Nat → List D → Store → R D
  i : Nat → List D → Store → R D
section
variable (Φ : Calls)
mutual
noncomputable def ev : E → Env' → Store → R D
  | .non, _, L => .ok .non L
  | .bl b, _, L => .ok (.bl b) L
  | .int i, _, L => .ok (.int i) L
  | .str s, _, L => .ok (.str s) L
  | .var i, δ, L => match δ[i]? with
    | some (some d) => .ok d L
    | _ => .no
  | .gint _ i, _, L => .ok (.int i) L
  | .gstr _ s, _, L => .ok (.str s) L
  | .gtup _ ss, _, L => .ok (.tup (ss.map D.str)) L
  | .gidx _ ss a, δ, L => (ev a δ L).bd fun x L1 => match x with
    | .str z => if z ∈ ss then .ok (.int (firstAt ss z : Nat)) L1 else .no
    | _ => .no
  | .gin _ kvs a, δ, L => (ev a δ L).bd fun x L1 => match x with
    | .str z => if (lkA z kvs).isSome = true then .ok (.bl true) L1 else .no
    | _ => .no
  | .gget _ kvs a, δ, L => (ev a δ L).bd fun x L1 => match x with
    | .str z => R.op ((lkA z kvs).map D.int) L1
    | _ => .no
  | .bin op a b, δ, L => (ev a δ L).bd fun x L1 => (ev b δ L1).bd fun y L2 => R.op (opD op L2 x y) L2
  | .neg a, δ, L => (ev a δ L).bd fun x L1 => R.op (negD x) L1
  | .cmp op a b, δ, L => (ev a δ L).bd fun x L1 => (ev b δ L1).bd fun y L2 => R.op ((cmpD op L2 x y).map D.bl) L2
  | .isN a, δ, L => (ev a δ L).bd fun x L1 => .ok (.bl x.isNon) L1
  | .notN a, δ, L => (ev a δ L).bd fun x L1 => .ok (.bl (!x.isNon)) L1
  | .chain o1 o2 a b c, δ, L => (ev a δ L).bd fun x L1 => (ev b δ L1).bd fun y L2 => (ev c δ L2).bd fun z L3 => match intOf x, intOf y, intOf z with
    | some i, some j, some l => if L3 = L2 then .ok (.bl (icmp o1 i j && icmp o2 j l)) L3 else .no
    | _, _, _ => .no
  | .bop k es, δ, L => evb k es δ L
  | .not a, δ, L => (ev a δ L).bd fun x L1 => R.op ((x.truth L1).map fun b => .bl !b) L1
  | .ite c a b, δ, L => (ev c δ L).bd fun x L1 => match x.truth L1 with
    | some true => ev a δ L1
    | some false => ev b δ L1
    | none => .no
  | .tup es, δ, L => (evs es δ L).bd fun ds L1 => if ds.length ≤ sizeLine then .ok (.tup ds) L1 else .no
  | .lst es, δ, L => (evs es δ L).bd fun ds L1 => if ds.length ≤ sizeLine then .ok (.lst ds) L1 else .no
  | .nlst es, δ, L => (evs es δ L).bd fun ds L1 => if ds.length ≤ sizeLine then .ok (.ref L1.length) (L1 ++ [.list ds]) else .no
  | .xtup ss, _, L => .ok (.ref L.length) (L ++ [.xtup ss])
  | .dict ks es, δ, L => match ks with
    | [] => .ok (.ref L.length) (L ++ [.dict []])
    | _ => (evs es δ (L ++ [.dict []])).bd fun ds L1 => if ds.length = ks.length ∧ ks.Nodup ∧ L1[L.length]? = some (.dict []) then .ok (.ref L.length) (L1.set L.length (.dict ((ks.map Sum.inr).zip ds))) else .no
  | .ix a b, δ, L => (ev a δ L).bd fun x L1 => (ev b δ L1).bd fun y L2 => R.op (ixD L2 x y) L2
  | .sl a lo hi, δ, L => (ev a δ L).bd fun x L1 => (evo lo δ L1).bd fun i L2 => (evo hi δ L2).bd fun j L3 => if L2 = L1 ∧ L3 = L1 then R.op (slD L3 x i j) L3 else .no
  | .nsl a lo hi, δ, L => (ev a δ L).bd fun x L1 => (evo lo δ L1).bd fun i L2 => (evo hi δ L2).bd fun j L3 => if L2 = L1 ∧ L3 = L1 then (match lstOf L3 x with
    | some ds => .ok (.ref L3.length) (L3 ++ [.list (cutD ds i j)])
    | none => .no) else .no
  | .rev a, δ, L => (ev a δ L).bd fun x L1 => R.op ((lstOf L1 x).map fun ds => .lst ds.reverse) L1
  | .lrng a b, δ, L => (ev a δ L).bd fun x L1 => (ev b δ L1).bd fun y L2 => match x, y with
    | .int i, .int j => if -(2 ^ 62) ≤ i ∧ i < 2 ^ 62 ∧ -(2 ^ 62) ≤ j ∧ j < 2 ^ 62 ∧ (j - i).toNat ≤ sizeLine then .ok (.lst (rngD i (j - i).toNat)) L2 else .no
    | _, _ => .no
  | .fn f es, δ, L => (evs es δ L).bd fun ds L1 => Φ.c f ds L1
  | .mth C m f o es, δ, L => (ev o δ L).bd fun x L1 => match x with
    | .ref k => match L1[k]? with
      | some (.ins C' fs) => if C' = C ∧ fs.lookup m = none then (evs es δ L1).bd fun ds L2 => Φ.c f (.ref k :: ds) L2 else .no
      | _ => .no
    | _ => .no
  | .mk C f es, δ, L => (evs es δ L).bd fun ds L1 => (Φ.i f (.ref L1.length :: ds) (L1 ++ [.ins C []])).bx fun x L2 => match x with
    | .non => .ok (.ref L1.length) L2
    | _ => .no
  | .fld C o f, δ, L => (ev o δ L).bd fun x L1 => match x with
    | .ref k => match L1[k]? with
      | some (.ins C' fs) => if C' = C then R.op (fs.lookup f) L1 else .no
      | _ => .no
    | _ => .no
  | .bi b es, δ, L => (evs es δ L).bd fun ds L1 => biD b ds L1
  | .bm m o es, δ, L => (ev o δ L).bd fun x L1 => (evs es δ L1).bd fun ds L2 => match x with
    | .ref k => if (∃ c, L1[k]? = some c ∧ (m = .append → ∃ ds, c = .list ds) ∧ (m = .pop ∨ m = .pop2 ∨ m = .get → ∃ kvs, c = .dict kvs) ∧ (m = .index → L2[k]? = some c)) then bmD m x ds L2 else .no
    | _ => .no
  | .isi a n, δ, L => (ev a δ L).bd fun x L1 => R.op ((isiD L1 x n).map D.bl) L1
  | .isc a C, δ, L => (ev a δ L).bd fun x L1 => match x with
    | .ref k => match L1[k]? with
      | some (.ins C' _) => if C' = C then .ok (.bl true) L1 else .no
      | _ => .no
    | _ => .no
  | .lk a e, δ, L => match ev a δ L with
    | .ok (.ref k) _ => match L[k]? with
      | some (.dict kvs) => match ev e δ (L.set k (.lock kvs)) with
        | .ok d L2 => if L2[k]? = some (.lock kvs) then .ok d (L2.set k (.dict kvs)) else .no
        | _ => .no
      | _ => .no
    | _ => .no
  | .lc elt t tup it c own, δ, L => (evi it δ L).bd fun its L1 =>
    if its.ds.length ≤ sizeLine ∧ its.P L1 then R.op ((lcL (lcStep (fun d => bindT t tup d (wipeE δ own)) (fun δ1 => evc c δ1 L1) (fun δ1 => ev elt δ1 L1) L1) its.ds).map D.lst) L1 else .no
noncomputable def evs : Es → Env' → Store → R (List D)
  | .nil, _, L => .ok [] L
  | .cons e r, δ, L => (ev e δ L).bd fun d L1 => (evs r δ L1).bd fun ds L2 => .ok (d :: ds) L2
/-- x and y, x or y, as Python gives them -/
noncomputable def evb : Bool → Es → Env' → Store → R D
  | _, .nil, _, _ => .no
  | k, .cons e r, δ, L => match r with
    | .nil => (ev e δ L).bd fun x L1 => .ok x L1
    | .cons _ _ => (ev e δ L).bd fun x L1 => match x.truth L1 with
      | some t => if t = k then evb k r δ L1 else .ok x L1
      | none => .no
noncomputable def evo : Oe → Env' → Store → R (Option Int)
  | .none, _, L => .ok none L
  | .some e, δ, L => (ev e δ L).bd fun x L1 => match x with
    | .int i => .ok (some i) L1
    | _ => .no
/-- a comprehension's test: the store stays -/
noncomputable def evc : Oe → Env' → Store → Option Bool
  | .none, _, _ => some true
  | .some e, δ, L => match ev e δ L with
    | .ok x L1 => if L1 = L then x.truth L else none
    | _ => none
noncomputable def evi : It → Env' → Store → R Items
  | .val e, δ, L => (ev e δ L).bd fun x L1 => R.op (itemsOf L1 x) L1
  | .rng e, δ, L => (ev e δ L).bd fun x L1 => match x with
    | .int i => R.op (rngI 0 i) L1
    | _ => .no
  | .rng2 a b, δ, L => (ev a δ L).bd fun x L1 => (ev b δ L1).bd fun y L2 => match x, y with
    | .int i, .int j => R.op (rngI i j) L2
    | _, _ => .no
  | .enum e, δ, L => (ev e δ L).bd fun x L1 => R.op (enumI L1 x) L1
end
end
end I
set_option Elab.async false
set_option linter.all false
set_option maxRecDepth 100000
set_option maxHeartbeats 4000000
/-! I2: statements, defs, programs. -/
namespace I
open PySem PySem.Spec PyProof.Rows L2 G
open scoped Classical
mutual
inductive S where
  | expr (e : E) | set (t : List Nat) (tup : Bool) (e : E) | fset (C : Str) (o : E) (f : Str) (e : E) | dset (o i e : E)
  | aug (i : Nat) (op : Bop) (e : E) | faug (C : Str) (o : E) (f : Str) (op : Bop) (e : E) | daug (o i : E) (op : Bop) (e : E)
  | ret (e : E) | retN
  | ite (c : E) (a b : Ss)
  | for_ (t : List Nat) (tup : Bool) (it : It) (b : Ss)
  | wh (c : E) (b : Ss)
  | rais (C : Str)
  | try_ (b : Ss) (hs : List (Str × Hb))
  | pass | cont
  | lk (a : E) (s : S)
inductive Ss where
  | nil | cons (s : S) (r : Ss)
/-- what a handler does -/
inductive Hb where
  | set (i : Nat) (e : E) | aug (i : Nat) (k : Int) | app (i : Nat) (e : E)
end
/-- how statements end -/
inductive O where
  | nx (δ : Env') (L : Store) | rt (d : D) (L : Store) | ct (δ : Env') (L : Store) | ex (C : Str) (δ : Env') (L : Store) | no
def O.sq (o : O) (f : Env' → Store → O) : O := match o with
  | .nx δ L => f δ L
  | o => o
@[simp] theorem O.sq_nx {δ : Env'} {L : Store} {f : Env' → Store → O} : (O.nx δ L).sq f = f δ L := rfl
@[simp] theorem O.sq_rt {d : D} {L : Store} {f : Env' → Store → O} : (O.rt d L).sq f = .rt d L := rfl
@[simp] theorem O.sq_ct {δ : Env'} {L : Store} {f : Env' → Store → O} : (O.ct δ L).sq f = .ct δ L := rfl
@[simp] theorem O.sq_ex {C : Str} {δ : Env'} {L : Store} {f : Env' → Store → O} : (O.ex C δ L).sq f = .ex C δ L := rfl
@[simp] theorem O.sq_no {f : Env' → Store → O} : O.no.sq f = .no := rfl
/-- a value, then a statement's end; what is raised goes on -/
def R.st {α : Type} (r : R α) (δ : Env') (f : α → Store → O) : O := match r with
  | .ok a L => f a L
  | .ex C L => .ex C δ L
  | .no => .no
/-- the same; what is raised is not told -/
def R.sn {α : Type} (r : R α) (f : α → Store → O) : O := match r with
  | .ok a L => f a L
  | _ => .no
section
variable {α : Type}
@[simp] theorem R.st_ok {a : α} {L : Store} {δ : Env'} {f : α → Store → O} : (R.ok a L).st δ f = f a L := rfl
@[simp] theorem R.st_ex {C : Str} {L : Store} {δ : Env'} {f : α → Store → O} : (R.ex C L : R α).st δ f = .ex C δ L := rfl
@[simp] theorem R.st_no {δ : Env'} {f : α → Store → O} : (R.no : R α).st δ f = .no := rfl
@[simp] theorem R.sn_ok {a : α} {L : Store} {f : α → Store → O} : (R.ok a L).sn f = f a L := rfl
@[simp] theorem R.sn_ex {C : Str} {L : Store} {f : α → Store → O} : (R.ex C L : R α).sn f = .no := rfl
@[simp] theorem R.sn_no {f : α → Store → O} : (R.no : R α).sn f = .no := rfl
end
/-- turns of a for -/
noncomputable def forR (bind : D → Env' → Option Env') (body : Env' → Store → O) (P : Store → Prop) : List D → Env' → Store → O
  | [], δ, L => .nx δ L
  | d :: ds, δ, L => match bind d δ with
    | none => .no
    | some δ1 => match body δ1 L with
      | .nx δ2 L2 => if P L2 then forR bind body P ds δ2 L2 else .no
      | .ct δ2 L2 => if P L2 then forR bind body P ds δ2 L2 else .no
      | o => o
/-- n turns of a while -/
def whN (cond : Env' → Store → R Bool) (body : Env' → Store → O) : Nat → Env' → Store → O
  | 0, _, _ => .no
  | n + 1, δ, L => (cond δ L).sn fun b L1 => if b = true then (match body δ L1 with
      | .nx δ2 L2 => whN cond body n δ2 L2
      | .rt d L2 => .rt d L2
      | .ex C δ2 L2 => .ex C δ2 L2
      | _ => .no) else .nx δ L1
noncomputable def whR (cond : Env' → Store → R Bool) (body : Env' → Store → O) (δ : Env') (L : Store) : O :=
  if h : ∃ n, whN cond body n δ L ≠ .no then whN cond body (Classical.choose h) δ L else .no
/-- which errors a handler takes -/
def takes (X C : Str) : Bool := X == C || X == ("QueueError" : Str)
def hbR (h : Hb) (δ : Env') (L : Store) : O := match h with
  | .set i (.int k) => .nx (δ.set i (some (.int k))) L
  | .set i (.bl k) => .nx (δ.set i (some (.bl k))) L
  | .set i (.str k) => .nx (δ.set i (some (.str k))) L
  | .set i .non => .nx (δ.set i (some .non)) L
  | .aug i k => match δ[i]? with
    | some (some (.int j)) => .nx (δ.set i (some (.int (j + k)))) L
    | _ => .no
  | .app i e => match δ[i]? with
    | some (some (.ref k)) => match L[k]? with
      | some (.list ds) => if ds.length < sizeLine then (match e with
        | .int j => .nx δ (L.set k (.list (ds ++ [.int j])))
        | .str j => .nx δ (L.set k (.list (ds ++ [.str j])))
        | _ => .no) else .no
      | _ => .no
    | _ => .no
  | _ => .no
def hdR (C : Str) : List (Str × Hb) → Env' → Store → O
  | [], δ, L => .ex C δ L
  | (X, h) :: r, δ, L => if takes X C = true then hbR h δ L else hdR C r δ L
noncomputable def tst (Φ : Calls) (e : E) (δ : Env') (L : Store) : R Bool := (ev Φ e δ L).bd fun x L1 => R.op (x.truth L1) L1
section
variable (Φ : Calls)
mutual
noncomputable def run : S → Env' → Store → O
  | .expr e, δ, L => (ev Φ e δ L).st δ fun _ L1 => .nx δ L1
  | .set t tup e, δ, L => (ev Φ e δ L).st δ fun d L1 => match bindT t tup d δ with
    | some δ1 => .nx δ1 L1
    | none => .no
  | .fset C o f e, δ, L => (ev Φ e δ L).st δ fun d L1 => (ev Φ o δ L1).sn fun x L2 => match x with
    | .ref k => match L2[k]? with
      | some (.ins C' fs) => if C' = C ∧ fs.length < 1000 then .nx δ (L2.set k (.ins C (fldA f d fs))) else .no
      | _ => .no
    | _ => .no
  | .dset o i e, δ, L => (ev Φ e δ L).sn fun d L1 => (ev Φ o δ L1).sn fun x L2 => (ev Φ i δ L2).sn fun y L3 => match x, keyOf y with
    | .ref k, some key => match L3[k]? with
      | some (.dict kvs) => if kvs.length < sizeLine then .nx δ (L3.set k (.dict (putA key d kvs))) else .no
      | _ => .no
    | _, _ => .no
  | .aug i op e, δ, L => (ev Φ e δ L).sn fun y L1 => match δ[i]?, y, op with
    | some (some (.int a)), .int b, .add => .nx (δ.set i (some (.int (a + b)))) L1
    | some (some (.int a)), .int b, .sub => .nx (δ.set i (some (.int (a - b)))) L1
    | _, _, _ => .no
  | .faug C o f op e, δ, L => (ev Φ o δ L).sn fun x L1 => (ev Φ e δ L1).sn fun y L2 => match x with
    | .ref k => match L1[k]? with
      | some (.ins C' fs) => if C' = C ∧ fs.length < 1000 ∧ L2 = L1 then (match fs.lookup f, y, op with
        | some (.int a), .int b, .add => .nx δ (L1.set k (.ins C (fldA f (.int (a + b)) fs)))
        | some (.int a), .int b, .sub => .nx δ (L1.set k (.ins C (fldA f (.int (a - b)) fs)))
        | _, _, _ => .no) else .no
      | _ => .no
    | _ => .no
  | .daug o i op e, δ, L => (ev Φ o δ L).sn fun x L1 => (ev Φ i δ L1).sn fun z L2 => (ev Φ e δ L2).sn fun y L3 => match x, keyOf z with
    | .ref k, some key => match L2[k]? with
      | some (.dict kvs) => if kvs.length < sizeLine ∧ L3 = L2 then (match lkA key kvs, y, op with
        | some (.int a), .int b, .add => .nx δ (L2.set k (.dict (putA key (.int (a + b)) kvs)))
        | some (.int a), .int b, .sub => .nx δ (L2.set k (.dict (putA key (.int (a - b)) kvs)))
        | _, _, _ => .no) else .no
      | _ => .no
    | _, _ => .no
  | .ret e, δ, L => (ev Φ e δ L).st δ fun d L1 => .rt d L1
  | .retN, _, L => .rt .non L
  | .ite c a b, δ, L => (tst Φ c δ L).sn fun t L1 => if t = true then runs a δ L1 else runs b δ L1
  | .for_ t tup it b, δ, L => (evi Φ it δ L).sn fun its L1 => if its.P L1 then forR (bindT t tup) (fun δ L => runs b δ L) its.P its.ds δ L1 else .no
  | .wh c b, δ, L => whR (tst Φ c) (fun δ L => runs b δ L) δ L
  | .rais C, δ, L => .ex C δ L
  | .try_ b hs, δ, L => match runs b δ L with
    | .ex C δ1 L1 => hdR C hs δ1 L1
    | o => o
  | .pass, δ, L => .nx δ L
  | .cont, δ, L => .ct δ L
  | .lk a s, δ, L => match ev Φ a δ L with
    | .ok (.ref k) _ => match L[k]? with
      | some (.dict kvs) => match run s δ (L.set k (.lock kvs)) with
        | .nx δ2 L2 => if L2[k]? = some (.lock kvs) then .nx δ2 (L2.set k (.dict kvs)) else .no
        | .rt d L2 => if L2[k]? = some (.lock kvs) then .rt d (L2.set k (.dict kvs)) else .no
        | _ => .no
      | _ => .no
    | _ => .no
noncomputable def runs : Ss → Env' → Store → O
  | .nil, δ, L => .nx δ L
  | .cons s r, δ, L => (run s δ L).sq fun δ1 L1 => runs r δ1 L1
end
end
/-- a def: how many parameters, slots in all, its body -/
structure Fd where
  np : Nat
  ns : Nat
  body : Ss
abbrev Tab := Nat → Option Fd
def fin (o : O) : R D := match o with
  | .nx _ L => .ok .non L
  | .rt d L => .ok d L
  | .ex C _ L => .ex C L
  | _ => .no
@[simp] theorem fin_nx {δ : Env'} {L : Store} : fin (.nx δ L) = .ok .non L := rfl
@[simp] theorem fin_rt {d : D} {L : Store} : fin (.rt d L) = .ok d L := rfl
@[simp] theorem fin_ex {C : Str} {δ : Env'} {L : Store} : fin (.ex C δ L) = .ex C L := rfl
@[simp] theorem fin_no : fin .no = .no := rfl
/-- the call of a def, n deep at most -/
noncomputable def call (P : Tab) : Nat → Nat → List D → Store → R D
  | 0, _, _, _ => .no
  | 1, f, ds, L => match P f with
    | some fd => if ds.length = fd.np then fin (runs ⟨fun _ _ _ => .no, fun _ _ _ => .no⟩ fd.body (ds.map some ++ List.replicate (fd.ns - fd.np) none) L) else .no
    | none => .no
  | n + 2, f, ds, L => match P f with
    | some fd => if ds.length = fd.np then fin (runs ⟨call P (n + 1), call P n⟩ fd.body (ds.map some ++ List.replicate (fd.ns - fd.np) none) L) else .no
    | none => .no
theorem call_succ (P : Tab) (n f : Nat) (ds : List D) (L : Store) : call P (n + 1) f ds L = match P f with
    | some fd => if ds.length = fd.np then fin (runs ⟨call P n, call P (n - 1)⟩ fd.body (ds.map some ++ List.replicate (fd.ns - fd.np) none) L) else .no
    | none => .no := by
  cases n with
  | zero =>
    have e : call P 0 = fun _ _ _ => R.no := by
      funext a b c
      rfl
    rw [Nat.zero_sub, e]
    rfl
  | succ n => rfl
end I
set_option Elab.async false
set_option linter.all false
set_option maxRecDepth 100000
set_option maxHeartbeats 4000000
/-! G18: sorted; displayed dicts. -/
namespace G
open PySem PySem.Spec PyProof.Rows L2
theorem perm_sortI {ys ns : List Int} (p : ys.Perm ns) (h : ys.Pairwise (· ≤ ·)) : ys = I.sortI ns := by
  have h2 : (I.sortI ns).Pairwise (· ≤ ·) := by
    have := List.pairwise_mergeSort (le := fun a b : Int => decide (a ≤ b)) (fun a b c h1 h2 => by simp at *; omega) (fun a b => by simp; omega) ns
    exact this.imp (by simp)
  have p2 : (I.sortI ns).Perm ns := List.mergeSort_perm ns _
  exact List.Perm.eq_of_pairwise (fun a b _ _ h1 h2 => Int.le_antisymm h1 h2) h h2 (p.trans p2.symm)
theorem leS_total (a b : Str) : (I.leS a b || I.leS b a) = true := by
  unfold I.leS
  by_cases h : b.cps.toList < a.cps.toList
  · have : ¬ a.cps.toList < b.cps.toList := fun h2 => List.lt_irrefl _ (List.lt_trans h h2)
    simp [h, this]
  · simp [h]
theorem leS_trans {a b c : Str} (h1 : I.leS a b = true) (h2 : I.leS b c = true) : I.leS a c = true := by
  unfold I.leS at *
  simp at *
  exact List.le_trans h1 h2
theorem leS_antisymm {a b : Str} (h1 : I.leS a b = true) (h2 : I.leS b a = true) : a = b := by
  unfold I.leS at *
  simp at *
  have e := List.le_antisymm h1 h2
  cases a; cases b
  simp at e
  subst e
  rfl
theorem rising_pw : ∀ (x : Str) (r : List Str), risingS x r = true → (x :: r).Pairwise (fun a b => I.leS a b = true)
  | x, [], _ => List.pairwise_singleton _ _
  | x, y :: r, h => by
    have h' : (!ltCps y.cps.toList x.cps.toList && risingS y r) = true := h
    rw [Bool.and_eq_true, ltCps_eq] at h'
    have ih := rising_pw y r h'.2
    have hxy : I.leS x y = true := h'.1
    refine List.pairwise_cons.mpr ⟨fun b hb => ?_, ih⟩
    rcases List.mem_cons.mp hb with rfl | hb
    · exact hxy
    · exact leS_trans hxy ((List.pairwise_cons.mp ih).1 b hb)
theorem perm_sortS {ys ns : List Str} (p : ys.Perm ns) (h : sortedS ys = true) : ys = I.sortS ns := by
  have h2 : (I.sortS ns).Pairwise (fun a b => I.leS a b = true) := List.pairwise_mergeSort (le := I.leS) (fun a b c => leS_trans) leS_total ns
  have p2 : (I.sortS ns).Perm ns := List.mergeSort_perm ns _
  have h1 : ys.Pairwise (fun a b => I.leS a b = true) := by
    cases ys with
    | nil => exact .nil
    | cons x r => exact rising_pw x r h
  exact List.Perm.eq_of_pairwise (fun a b _ _ h1 h2 => leS_antisymm h1 h2) h1 h2 (p.trans p2.symm)
section
variable {T : Sta} {Γ : GC} {δ δ' : Env'} {L M1 M2 M3 L' : Store} {a b : Expr} {rest : List Expr} {pos apos p : Pos} {x y : D}
/-- what sorted walks: a list's items, a dict's keys -/
inductive SrtD (L : Store) : D → List D → Prop
  | lst {ds : List D} : SrtD L (.lst ds) ds
  | cell {k : Nat} {ds : List D} (h : L[k]? = some (.list ds)) : SrtD L (.ref k) ds
  | dict {k : Nat} {kvs : List (L2.Key × D)} (h : RdDict L k kvs) : SrtD L (.ref k) (I.keysD kvs)
theorem DtL.strs_eq' {K : PySem.W.Frag} {g : Gw} {ss : List Str} {xs : List V} (h : DtL K g xs (ss.map D.str)) : xs = ss.map V.str := DtL.strs_eq h
theorem keysI {kvs : List (L2.Key × D)} {ns : List Int} (h : I.keysD kvs = ns.map D.int) : kvs.map (·.1) = ns.map Sum.inl := by
  induction kvs generalizing ns with
  | nil =>
    cases ns with
    | nil => rfl
    | cons n r => cases h
  | cons p r ih =>
    cases ns with
    | nil => cases h
    | cons n q =>
      obtain ⟨k, v⟩ := p
      have h' : kD k :: I.keysD r = .int n :: q.map D.int := h
      injection h' with h1 h2
      cases k with
      | inl i =>
        cases h1
        rw [List.map_cons, List.map_cons, ih h2]
      | inr z => cases h1
theorem keysS {kvs : List (L2.Key × D)} {ns : List Str} (h : I.keysD kvs = ns.map D.str) : kvs.map (·.1) = ns.map Sum.inr := by
  induction kvs generalizing ns with
  | nil =>
    cases ns with
    | nil => rfl
    | cons n r => cases h
  | cons p r ih =>
    cases ns with
    | nil => cases h
    | cons n q =>
      obtain ⟨k, v⟩ := p
      have h' : kD k :: I.keysD r = .str n :: q.map D.str := h
      injection h' with h1 h2
      cases k with
      | inl i => cases h1
      | inr z =>
        cases h1
        rw [List.map_cons, List.map_cons, ih h2]
theorem ev_srtI {ns : List Int} (hm : T.mg "sorted" = none) (ha : EV T Γ a δ L x M1) (hs : SrtD M1 x (ns.map D.int)) (hc : Γ.c = true) (hg : GlS Γ.sc "sorted") (he : plainE a = true) : EV T Γ (.Call (.Name "sorted" p) [a] [] pos) δ L (.lst ((I.sortI ns).map D.int)) M1 :=
  ev_bt (rSrt T.K Int V.int Sum.inl fun ys => ys.Pairwise (· ≤ ·)) (fun X F => by rw [← F.K]; exact cr_srtI (by rw [F.calm]; exact hc)) hm boot_sorted' (av_cons ha av_nil (fun _ => star_one he)) (fun g vs W dv Q q => by
    cases dv with
    | cons h r =>
      cases r
      have fin : ∀ (ys : List Int) (p : Addr), ys.Perm ns → ys.Pairwise (· ≤ ·) → g.H p = none → Q (.ref p) (upd g.H p (.lst (ys.map V.int))) := fun ys p h1 h2 hp => by
        rw [perm_sortI h1 h2]
        have e3 := push_ext (c := .data) (o := .lst ((I.sortI ns).map V.int)) hp
        exact q _ (g.push p .data (.lst ((I.sortI ns).map V.int))) e3 (W.push hp) (.lst ⟨push_at, push_own⟩ (DtL.ints _))
      generalize hds : ns.map D.int = ds at hs
      cases hs with
      | lst =>
        cases h with
        | lst p l =>
          subst hds
          rw [DtL.ints_eq l] at p
          exact ⟨_, ns, rfl, .inl p.sq, fin⟩
      | cell hk =>
        cases h
        subst hds
        obtain ⟨_, xs, h1, h2⟩ := W.list hk
        rw [DtL.ints_eq h2] at h1
        exact ⟨_, ns, rfl, .inl (.inl (.inl h1)), fin⟩
      | dict hk =>
        cases h
        obtain ⟨kv, h1, h2⟩ := hk.at W
        exact ⟨_, ns, rfl, .inr ⟨kv, h1, by rw [h2.keys]; exact keysI hds.symm⟩, fin⟩) hg (he := fun _ => star_one he)
theorem ev_srtS {ns : List Str} (hm : T.mg "sorted" = none) (ha : EV T Γ a δ L x M1) (hs : SrtD M1 x (ns.map D.str)) (hc : Γ.c = true) (hg : GlS Γ.sc "sorted") (he : plainE a = true) : EV T Γ (.Call (.Name "sorted" p) [a] [] pos) δ L (.lst ((I.sortS ns).map D.str)) M1 :=
  ev_bt (rSrt T.K Str V.str Sum.inr fun ys => sortedS ys = true) (fun X F => by rw [← F.K]; exact cr_srtS (by rw [F.calm]; exact hc)) hm boot_sorted' (av_cons ha av_nil (fun _ => star_one he)) (fun g vs W dv Q q => by
    cases dv with
    | cons h r =>
      cases r
      have fin : ∀ (ys : List Str) (p : Addr), ys.Perm ns → sortedS ys = true → g.H p = none → Q (.ref p) (upd g.H p (.lst (ys.map V.str))) := fun ys p h1 h2 hp => by
        rw [perm_sortS h1 h2]
        have e3 := push_ext (c := .data) (o := .lst ((I.sortS ns).map V.str)) hp
        exact q _ (g.push p .data (.lst ((I.sortS ns).map V.str))) e3 (W.push hp) (.lst ⟨push_at, push_own⟩ (DtL.strs _))
      generalize hds : ns.map D.str = ds at hs
      cases hs with
      | lst =>
        cases h with
        | lst p l =>
          subst hds
          rw [DtL.strs_eq l] at p
          exact ⟨_, ns, rfl, .inl p.sq, fin⟩
      | cell hk =>
        cases h
        subst hds
        obtain ⟨_, xs, h1, h2⟩ := W.list hk
        rw [DtL.strs_eq h2] at h1
        exact ⟨_, ns, rfl, .inl (.inl (.inl h1)), fin⟩
      | dict hk =>
        cases h
        obtain ⟨kv, h1, h2⟩ := hk.at W
        exact ⟨_, ns, rfl, .inr ⟨kv, h1, by rw [h2.keys]; exact keysS hds.symm⟩, fin⟩) hg (he := fun _ => star_one he)
end
end G
set_option Elab.async false
set_option linter.all false
set_option maxRecDepth 100000
set_option maxHeartbeats 4000000
/-! G19: dicts walked, displayed, compared; dicts of the written part. -/
namespace G
open PySem PySem.Spec PyProof.Rows L2
/-! ### a dict is walked -/
/-- a dict's cell is locked, and let go -/
theorem lock_w {K : PySem.W.Frag} {g : Gw} {L : Store} {k : Nat} {kvs : List (Key × D)} (W : Wo K g L) (hk : L[k]? = some (.dict kvs)) : ∃ kv, g.H (g.ι k) = some (.dK kv) ∧ ∀ od, ∃ g1 : Gw, g1.H = upd g.H (g.ι k) (.frz od (.dK kv)) ∧ Ext g g1 ∧ Wo K g1 (L.set k (.lock kvs)) ∧
    ∀ g2 M, Ext g1 g2 → Wo K g2 M → M[k]? = some (.lock kvs) → g2.H (g.ι k) = some (.frz od (.dK kv)) ∧ ∃ g3 : Gw, g3.H = upd g2.H (g.ι k) (.dK kv) ∧ Ext g g3 ∧ Wo K g3 (M.set k (.dict kvs)) ∧ ExtD g2 g3 := by
  obtain ⟨w, kv, h1, h2⟩ := (show CellOk K g k (.dict kvs) from W.at_ k _ hk)
  have hlt := W.lt hk
  refine ⟨kv, h1, fun od => ?_⟩
  have e01 : Ext g ⟨g.n, g.ι, fun a => if a = g.ι k then .tmp else g.own a, upd g.H (g.ι k) (.frz od (.dK kv))⟩ := ⟨Nat.le_refl _, fun _ _ => rfl, fun a o h z => by
    have ne : a ≠ g.ι k := by
      intro e
      rw [e, w] at z
      rcases z with z | z <;> cases z
    exact ⟨by show upd g.H _ _ a = _; rw [upd_ne ne]; exact h, by show (if a = g.ι k then _ else g.own a) = _; rw [if_neg ne]⟩⟩
  refine ⟨_, rfl, e01, ⟨by show g.n = _; rw [List.length_set]; exact W.n, fun j u q => ?_, W.inj⟩, fun g2 M e12 W2 hM => ?_⟩
  · by_cases hj : k = j
    · subst hj
      rw [List.getElem?_set_self (List.getElem?_eq_some_iff.mp hk).1] at q
      cases q
      exact ⟨if_pos rfl, od, kv, upd_same, h2.ext e01⟩
    · rw [List.getElem?_set_ne hj] at q
      refine (W.at_ j u q).stay e01 (W.lt q) fun o z e => ?_
      have ne : g.ι j ≠ g.ι k := fun z => hj (W.inj j k (W.lt q) hlt z).symm
      exact ⟨by show upd g.H _ _ _ = _; rw [upd_ne ne]; exact e, by show (if g.ι j = g.ι k then _ else g.own _) = _; rw [if_neg ne]⟩
  · have hn : k < g2.n := Nat.lt_of_lt_of_le hlt e12.n
    have ei : g2.ι k = g.ι k := e12.ι k hlt
    obtain ⟨k1, k2⟩ := e12.keep (g.ι k) _ upd_same (.inr (if_pos rfl))
    have own2 : g2.own (g.ι k) = .tmp := k2.trans (if_pos rfl)
    have e02 := e01.trans e12
    have e03 : Ext g ⟨g2.n, g2.ι, fun a => if a = g.ι k then .cell k else g2.own a, upd g2.H (g.ι k) (.dK kv)⟩ := ⟨e02.n, e02.ι, fun a o h z => by
      have ne : a ≠ g.ι k := by
        intro e
        rw [e, w] at z
        rcases z with z | z <;> cases z
      obtain ⟨q1, q2⟩ := e02.keep a o h z
      exact ⟨by show upd g2.H _ _ a = _; rw [upd_ne ne]; exact q1, by show (if a = g.ι k then _ else g2.own a) = _; rw [if_neg ne]; exact q2⟩⟩
    have e23 : ExtD g2 ⟨g2.n, g2.ι, fun a => if a = g.ι k then .cell k else g2.own a, upd g2.H (g.ι k) (.dK kv)⟩ := ⟨Nat.le_refl _, fun _ _ => rfl, fun a o h z => by
      have ne : a ≠ g.ι k := by
        intro e
        rw [e, own2] at z
        cases z
      exact ⟨by show upd g2.H _ _ a = _; rw [upd_ne ne]; exact h, by show (if a = g.ι k then _ else g2.own a) = _; rw [if_neg ne]; exact z⟩⟩
    refine ⟨k1, _, rfl, e03, ⟨by show g2.n = _; rw [List.length_set]; exact W2.n, fun j u q => ?_, W2.inj⟩, e23⟩
    by_cases hj : k = j
    · subst hj
      rw [List.getElem?_set_self (List.getElem?_eq_some_iff.mp hM).1] at q
      cases q
      refine ⟨?_, kv, ?_, h2.ext e03⟩
      · show (if g2.ι k = g.ι k then _ else _) = _
        rw [if_pos ei]
      · show upd g2.H (g.ι k) _ (g2.ι k) = _
        rw [ei]
        exact upd_same
    · rw [List.getElem?_set_ne hj] at q
      refine (W2.at_ j u q).stayD e23 (W2.lt q) fun o z e => ?_
      have ne : g2.ι j ≠ g.ι k := fun z => hj (W2.inj j k (W2.lt q) hn (z.trans ei.symm)).symm
      exact ⟨by show upd g2.H _ _ _ = _; rw [upd_ne ne]; exact e, by show (if g2.ι j = g.ι k then _ else g2.own _) = _; rw [if_neg ne]⟩
section
variable {T : Sta} {Γ : GC} {δ δ' : Env'} {L M1 M2 M3 L' Lk : Store} {a b : Expr} {rest : List Expr} {pos apos p : Pos} {x y : D} {k : Nat} {kvs : List (Key × D)}
/-- what may not be told of a locked statement: what it raises -/
def Oc.calm : Oc → Prop
  | .ex _ _ => False
  | _ => True
theorem s_lock {st : Stmt} {o : Oc} (hk : L[k]? = some (.dict kvs)) (h : S1 T Γ st δ (L.set k (.lock kvs)) o Lk) (hLk : Lk[k]? = some (.lock kvs)) (ho : o.calm) : S1 T Γ st δ L o (Lk.set k (.dict kvs)) := fun X F Wx tk g σ W E Dn q => by
  obtain ⟨kv, h1, hl⟩ := lock_w W hk
  refine sby (ps_lock sself) ⟨g.ι k, .dK kv, h1, trivial, fun od => ?_⟩
  obtain ⟨g1, hg1, e1, W1, hu⟩ := hl od
  rw [← hg1]
  refine h X F Wx tk g1 σ W1 (E.ext e1) _ ?_
  cases o with
  | ex C a => exact ho.elim
  | nx δ2 =>
    intro g2 σ2 e2 W2 E2
    obtain ⟨h2, g3, hg3, e3, W3, d3⟩ := hu g2 _ e2 W2 hLk
    refine ⟨h2, ?_⟩
    rw [← hg3]
    exact q g3 σ2 e3 W3 (E2.extD d3)
  | bk δ2 =>
    intro g2 σ2 e2 W2 E2
    obtain ⟨h2, g3, hg3, e3, W3, d3⟩ := hu g2 _ e2 W2 hLk
    refine ⟨h2, ?_⟩
    rw [← hg3]
    exact q g3 σ2 e3 W3 (E2.extD d3)
  | ct δ2 =>
    intro g2 σ2 e2 W2 E2
    obtain ⟨h2, g3, hg3, e3, W3, d3⟩ := hu g2 _ e2 W2 hLk
    refine ⟨h2, ?_⟩
    rw [← hg3]
    exact q g3 σ2 e3 W3 (E2.extD d3)
  | rt d =>
    intro g2 v e2 W2 d2
    obtain ⟨h2, g3, hg3, e3, W3, d3⟩ := hu g2 _ e2 W2 hLk
    refine ⟨h2, ?_⟩
    rw [← hg3]
    exact q g3 v e3 W3 (d2.extD d3)
theorem ev_lock (hk : L[k]? = some (.dict kvs)) (h : EV T Γ a δ (L.set k (.lock kvs)) x Lk) (hLk : Lk[k]? = some (.lock kvs)) : EV T Γ a δ L x (Lk.set k (.dict kvs)) := fun X F g σ W E Q q => by
  obtain ⟨kv, h1, hl⟩ := lock_w W hk
  refine eby (pe_lock eself) ⟨g.ι k, .dK kv, h1, trivial, fun od => ?_⟩
  obtain ⟨g1, hg1, e1, W1, hu⟩ := hl od
  rw [← hg1]
  refine h X F g1 σ W1 (E.ext e1) _ fun v g2 e2 W2 d2 => ?_
  obtain ⟨h2, g3, hg3, e3, W3, d3⟩ := hu g2 _ e2 W2 hLk
  refine ⟨h2, ?_⟩
  rw [← hg3]
  exact q v g3 e3 W3 (d2.extD d3)
theorem Dt.kD {K : PySem.W.Frag} {g : Gw} (z : Key) : Dt K g (kV z) (kD z) := by
  cases z with
  | inl i => exact .int i
  | inr s => exact .str s
/-- the keys of a locked dict -/
theorem iv_keys {tg : Expr} (h : EV T Γ a δ L (.ref k) M1) (hk : M1[k]? = some (.lock kvs)) : IV T Γ tg a δ L (fun L => L[k]? = some (.lock kvs)) (I.keysD kvs) M1 := fun X F => ⟨_, pi_keys eself, fun g σ W E R r => h X F g σ W E _ fun v g1 e1 W1 d1 => by
  cases d1 with
  | ref hn =>
    obtain ⟨w, o, kv, h1, h2⟩ := (show CellOk T.K g1 k (.lock kvs) from W1.at_ k _ hk)
    have stays : ∀ g2 : Gw, Ext g1 g2 → g2.H (g1.ι k) = some (.frz o (.dK kv)) := fun g2 e2 => (e2.keep _ _ h1 (.inr w)).1
    have hlen : kv.length = (I.keysD kvs).length := by
      rw [I.keysD, List.length_map]
      exact h2.len
    refine ⟨_, o, rfl, .inl ⟨kv, h1, ?_⟩⟩
    refine r _ g1 e1 W1 ⟨fun g L i e W p hi => ⟨stays g e, by rw [hlen]; exact hi⟩, fun g L i x H' d e W p hd q => ?_, fun g L i e W p hi => ⟨stays g e, by rw [hlen]; exact hi⟩⟩
    obtain ⟨q1, z, v, q2, q3⟩ := q
    subst q1 q3
    refine ⟨g, rfl, .refl g, W, ?_⟩
    have hz : (kvs.map (·.1))[i]? = some z := by
      rw [← h2.keys, List.getElem?_map, q2]
      rfl
    have hd' : d = kD z := by
      have : (I.keysD kvs)[i]? = some (kD z) := by
        have e2 : I.keysD kvs = (kvs.map (·.1)).map kD := by
          unfold I.keysD
          rw [List.map_map]
          rfl
        rw [e2, List.getElem?_map, hz]
        rfl
      rw [this] at hd
      exact (Option.some.inj hd).symm
    subst hd'
    exact .kD z⟩
/-- enumerate over a list that may change -/
theorem iv_enumC {elts : List Expr} {kk : Nat} {tpos p : Pos} {e : Expr} {ds : List D} (h : EV T Γ e δ L (.ref k) M1) (hk : M1[k]? = some (.list ds)) (hm : T.mg "enumerate" = none) (hg : GlS Γ.sc "enumerate") (hs : ∀ env : Env, starEach [e] env = [(false, eval e env)]) :
    IV T Γ (.Tuple elts kk tpos) (.Call (.Name "enumerate" p) [e] [] pos) δ L (fun L => L[k]? = some (.list ds)) (enumD ds) M1 := fun X F =>
  ⟨_, pi_enum (F.gl hg) (by rw [F.mg]; exact hm) (pa_cons eself pa_nil (hs _)) (hs _), fun g σ W E R r => h X F g σ W E _ fun v g1 e1 W1 d1 => by
    cases d1 with
    | ref hn =>
      obtain ⟨_, xs, x1, x2⟩ := W1.list hk
      have at_ : ∀ (g : Gw) (L : Store), Ext g1 g → Wo T.K g L → L[k]? = some (.list ds) → ∃ ys, SqL T.K g.H (g1.ι k) ys ∧ DtL T.K g ys ds := fun g L e W p => by
        obtain ⟨_, ys, h3, h4⟩ := W.list p
        rw [e.ι k hn] at h3
        exact ⟨ys, .inl (.inl h3), h4⟩
      refine ⟨_, xs, rfl, by rw [F.K]; exact .inl (.inl x1), ?_⟩
      rw [F.K]
      refine r _ g1 e1 W1 ⟨fun g L i e W p hi => ?_, fun g L i x H' d e W p hd q => ?_, fun g L i e W p hi => ?_⟩
      · obtain ⟨ys, y1, y2⟩ := at_ g L e W p
        rw [enumD_len, ← y2.len] at hi
        exact ⟨ys, ys[i], y1, List.getElem?_eq_getElem hi⟩
      · obtain ⟨P, y, rfl, hn2, rfl, q2⟩ := q
        obtain ⟨c, h1, rfl⟩ := enumD_at hd
        obtain ⟨ys, y1, y2⟩ := at_ g L e W p
        obtain ⟨v, h3, h4⟩ := y2.get h1
        have z := q2 ys y1
        rw [h3] at z
        cases z
        exact ⟨g.push P .data (.tup [.int (i : Nat), y]), rfl, push_ext hn2, W.push hn2, .tup (.inl ⟨.inl push_at, push_own⟩) (.cons (.int _) (.cons (h4.ext (push_ext hn2)) .nil))⟩
      · obtain ⟨ys, y1, y2⟩ := at_ g L e W p
        rw [enumD_len, ← y2.len] at hi
        exact ⟨ys, y1, hi⟩⟩
/-- list(range(b)) -/
theorem ev_lrng1 {j : Int} {pos2 : Pos} (hm : T.mg "list" = none) (hm2 : T.mg "range" = none) (hb : EV T Γ b δ L (.int j) M2) (hc : Γ.c = true) (hz : -(2 ^ 62) ≤ (0 : Int) ∧ (0 : Int) < 2 ^ 62 ∧ -(2 ^ 62) ≤ j ∧ j < 2 ^ 62 ∧ (j - 0).toNat ≤ sizeLine) (hg : GlS Γ.sc "list") (hg2 : GlS Γ.sc "range") (he2 : plainE b = true) :
    EV T Γ (.Call (.Name "list" p) [.Call (.Name "range" apos) [b] [] pos2] [] pos) δ L (.lst (rngD 0 (j - 0).toNat)) M2 := fun X F g σ W E Q q => by
  refine eby (pe_listRg (by rw [F.calm]; exact hc) (F.gl hg) (by rw [F.mg]; exact hm) (prg_1 (F.gl hg2) (by rw [F.mg]; exact hm2) eself (star_cons he2)) rfl) ?_
  refine hb X F g σ W E _ fun u g2 e2 W2 d2 => ?_
  cases d2
  refine ⟨j, rfl, ?_⟩
  have hz5 : (j - 0).toNat ≤ 2 ^ 24 := hz.2.2.2.2
  refine ⟨⟨hz.1, hz.2.1, hz.2.2.1, hz.2.2.2.1, hz5⟩, fun p hp => ?_⟩
  have e3 := push_ext (c := .data) (o := .lst (rgV 0 j)) hp
  have hd : DtL T.K g2 (rgV 0 j) (rngD 0 (j - 0).toNat) := by
    unfold rgV rngD
    generalize (List.range (j - 0).toNat) = l
    induction l with
    | nil => exact .nil
    | cons n r ih => exact .cons (.int _) ih
  exact q _ (g2.push p .data (.lst (rgV 0 j))) (e2.trans e3) (W2.push hp) (.lst ⟨push_at, push_own⟩ (hd.ext e3))
/-! ### == of dicts -/
inductive DHits (K : PySem.W.Frag) (H : Hp) (ls : List (Key × V)) : List (Key × V) → Bool → Prop
  | nil : DHits K H ls [] true
  | miss {z : Key} {v : V} {r : List (Key × V)} : valV ls z = none → DHits K H ls ((z, v) :: r) false
  | hit {z : Key} {v u : V} {d e : PyData} {b : Bool} {r : List (Key × V)} (h : valV ls z = some u) (h1 : Dp K H v d) (h2 : Dp K H u e) (s1 : SeqAt.shaped d = true) (s2 : SeqAt.shaped e = true) (t : DHits K H ls r b) : DHits K H ls ((z, v) :: r) (PyData.eqv d e && b)
theorem DHits.run {X : Cx} {pins : List (Addr × Obj)} {σ : L2.St} {H : Hp} {s : Shared} (I : Inv X pins σ H s) {A : Around} (hu : A.in1.units + 64 < cLine) {ls : List (Key × V)} {vb : List (Key × Value)} (rb : KV ls vb) : ∀ {ks : List (Key × V)} {va : List (Key × Value)} {r : Bool}, KV ks va → DHits X.K H ls ks r → PySem.W.KeqHits A.in1 s vb va r
  | _, _, _, .nil, .nil => .nil
  | _, _, _, .cons (b := q) h t, d => by
    obtain ⟨e1, r1⟩ := h
    obtain ⟨z, v⟩ := q
    have e1 : _ = z := e1
    cases d with
    | @miss z0 v0 _ hn =>
      have e1 : z0 = z := e1
      have rr := rb.val z0
      rw [e1] at rr hn
      rw [hn] at rr
      exact .miss (by
        cases q2 : valueAt vb z with
        | none => rfl
        | some w => rw [q2] at rr; exact rr.elim)
    | @hit z0 v0 u0 _ _ _ _ hh d1 d2 s1 s2 t2 =>
      have e1 : z0 = z := e1
      have rr := rb.val z0
      rw [e1] at rr hh
      rw [hh] at rr
      obtain ⟨w, hw, rw_⟩ := rr.some_of
      obtain ⟨as, r2⟩ := Dp.reads I _ _ _ d1 r1
      obtain ⟨bs, r3⟩ := Dp.reads I _ _ _ d2 rw_
      exact .hit hw (PySem.W.keq_at r2 r3 s1 s2 hu) (DHits.run I hu rb t t2)
def rEqK (K : PySem.W.Frag) (neg : Bool) : R2 := fun x y H Q => ∃ a b ks ls r, x = .ref a ∧ y = .ref b ∧ H a = some (.dK ks) ∧ H b = some (.dK ls) ∧ (ks.length = ls.length → DHits K H ls ks r) ∧ Q (.bl (if neg then !(ks.length == ls.length && r) else ks.length == ls.length && r)) H
theorem op_eqK {X : Cx} (hu : X.A.units + 65 < cLine) : OpR X (compareOp .Eq) (rEqK X.K false) := by
  intro pins s σ H x y v u Q I rx ry h
  obtain ⟨a, b, ks, ls, r, rfl, rfl, ea, eb, hp, q⟩ := h
  obtain rfl : v = Value.ref a := rx
  obtain rfl : u = Value.ref b := ry
  obtain ⟨_, ya, va, ra, da⟩ := dk_of I.hok ea
  obtain ⟨_, yb, vb, rb, db⟩ := dk_of I.hok eb
  have l1 := ra.length
  have l2 := rb.length
  refine PySem.W.keq_eq (knd := mixKind X.prog X.w) (r := r) ya yb da db (by omega) (fun hl => (hp (by omega)).run I (by show X.A.units + 1 + 64 < cLine; omega) rb ra) ?_
  refine ⟨.bl _, H, I, ?_, q⟩
  rw [l1, l2]
  rfl
theorem op_neK {X : Cx} (hu : X.A.units + 65 < cLine) : OpR X (compareOp .NotEq) (rEqK X.K true) := by
  intro pins s σ H x y v u Q I rx ry h
  obtain ⟨a, b, ks, ls, r, rfl, rfl, ea, eb, hp, q⟩ := h
  obtain rfl : v = Value.ref a := rx
  obtain rfl : u = Value.ref b := ry
  obtain ⟨_, ya, va, ra, da⟩ := dk_of I.hok ea
  obtain ⟨_, yb, vb, rb, db⟩ := dk_of I.hok eb
  have l1 := ra.length
  have l2 := rb.length
  refine PySem.W.keq_ne (knd := mixKind X.prog X.w) (r := r) ya yb da db (by omega) (fun hl => (hp (by omega)).run I (by show X.A.units + 1 + 64 < cLine; omega) rb ra) ?_
  refine ⟨.bl _, H, I, ?_, q⟩
  rw [l1, l2]
  rfl
/-! ### dicts of the written part -/
theorem ev_gin {n : Str} {z : Str} {es m u} (hm : T.mg n = some (.ref (He.ga T.K n))) (kd : KDict T.K T.w (He.ga T.K n) es m) (hz : PySem.W.nsIn T.K (He.ga T.K n) z = some (some u)) (ha : EV T Γ a δ L (.str z) M1) (hg : GlS Γ.sc n) (h1 : (n == ("__debug__" : Str)) = false) : EV T Γ (.Compare a [.In] [.Name n p] pos) δ L (.bl true) M1 ∧ TV T Γ (.Compare a [.In] [.Name n p] pos) δ L true M1 := by
  constructor
  · intro X F g σ W E Q q
    refine eby (pe_cmpR (op_in_kd (by rw [F.K, F.w]; exact kd)) eself (pe_glob (v := .ref (He.ga T.K n)) (F.gl hg) (by rw [F.mg]; exact hm) rfl h1) rfl) ?_
    refine ha X F g σ W E _ fun v g1 e1 W1 d1 => ?_
    cases d1
    exact ⟨z, some u, rfl, rfl, by rw [F.K]; exact hz, q _ g1 e1 W1 (.bl _)⟩
  · intro X F g σ W E Q q
    refine tby (pt_cmpR (op_in_kd (by rw [F.K, F.w]; exact kd)) eself (pe_glob (v := .ref (He.ga T.K n)) (F.gl hg) (by rw [F.mg]; exact hm) rfl h1) rfl) ?_
    refine ha X F g σ W E _ fun v g1 e1 W1 d1 => ?_
    cases d1
    exact ⟨z, some u, rfl, rfl, by rw [F.K]; exact hz, true, rfl, q g1 e1 W1⟩
theorem ev_gget {n : Str} {z : Str} {i : Int} {es m u} (hm : T.mg n = some (.ref (He.ga T.K n))) (kd : KDict T.K T.w (He.ga T.K n) es m) (hz : PySem.W.nsIn T.K (He.ga T.K n) z = some (some u)) (hr : RelV (.int i) u) (ha : EV T Γ a δ L (.str z) M1) (hp : PlainIx a) (hg : GlS Γ.sc n) (h1 : (n == ("__debug__" : Str)) = false) : EV T Γ (.Subscript (.Name n p) a pos) δ L (.int i) M1 := fun X F g σ W E Q q => by
  refine eby (pe_ix ix_kdict (pe_glob (v := .ref (He.ga T.K n)) (F.gl hg) (by rw [F.mg]; exact hm) rfl h1) eself hp) ?_
  refine ha X F g σ W E _ fun v g1 e1 W1 d1 => ?_
  cases d1
  exact ⟨_, z, .int i, rfl, rfl, ⟨es, m, u, by rw [F.K]; exact kd.at_, by rw [F.w]; exact kd.lit, by rw [F.K]; exact hz, hr⟩, q _ g1 e1 W1 (.int _)⟩
end
end G
set_option Elab.async false
set_option linter.all false
set_option maxRecDepth 100000
set_option maxHeartbeats 4000000
/-! I3: whether the library's text is coded by the small language. -/
namespace I
open PySem PySem.Spec PyProof.Rows L2 G
structure Cfg where
  name : Nat → Option (Option Str × Str)
  here : Nat → Bool
  free : List Str
  gi : List (Str × Int)
  gs : List (Str × Str)
  gt : List (Str × List Str)
  gk : List (Str × List (Str × Int))
  excs : List Str
  makes : List Str
  flds : List (Str × Str)
  iscs : List Str
def dunder (n : Str) : Bool := n == ("__debug__" : Str)
def globB (sc : Scope) (n : Str) : Bool := kindB sc n 3 && !dunder n && !(n == ("__name__" : Str))
def bopB : Bop → Operator → Bool
  | .add, .Add | .sub, .Sub | .mul, .Mult | .div, .FloorDiv | .mod, .Mod | .pow, .Pow => true
  | _, _ => false
def copB : Cop → CmpOp → Bool
  | .eq, .Eq | .ne, .NotEq | .lt, .Lt | .le, .LtE | .gt, .Gt | .ge, .GtE | .mem, .In | .nin, .NotIn => true
  | _, _ => false
def icopB : Cop → CmpOp → Bool
  | .lt, .Lt | .le, .LtE | .gt, .Gt | .ge, .GtE => true
  | _, _ => false
def biN : Bi → Str
  | .len => "len" | .sum => "sum" | .tuple => "tuple" | .list => "list" | .sorted => "sorted" | .str => "str" | .int => "int" | .max => "max" | .min => "min" | .dict => "dict"
def bmN : Bm → Str
  | .append => "append" | .pop => "pop" | .pop2 => "pop" | .get => "get" | .index => "index"
def strsB : List Str → List Expr → Bool
  | [], [] => true
  | s :: ss, .Constant (.str t) _ _ :: r => s == t && strsB ss r
  | _, _ => false
def keysB : List Str → List (Option Expr) → Bool
  | [], [] => true
  | s :: ss, some (.Constant (.str t) _ _) :: r => s == t && keysB ss r
  | _, _ => false
/-- a test that is no a if c else b -/
def tOk : E → Bool
  | .ite _ _ _ => false
  | .not a => tOk a
  | .bop _ es => tOks es
  | _ => true
where tOks : Es → Bool
  | .nil => true
  | .cons e r => tOk e && tOks r
/-- a target: one name, or a tuple of names; k: the kind of names -/
def namesB (N : List Str) (sc : Scope) (k : Nat) : List Nat → List Expr → Bool
  | [], [] => true
  | i :: is, .Name n _ :: r => (N[i]? == some n) && kindB sc n k && namesB N sc k is r
  | _, _ => false
def tgB (N : List Str) (sc : Scope) (k : Nat) (t : List Nat) (tup : Bool) (x : Expr) : Bool := match tup, t, x with
  | false, [i], .Name n _ => (N[i]? == some n) && kindB sc n k
  | true, is, .Tuple tgs _ _ => namesB N sc k is tgs
  | _, _, _ => false
/-- enumerate wants a tuple as its target -/
def needT : It → Bool
  | .enum _ => true
  | _ => false
def notLk : E → Bool
  | .lk _ _ => false
  | _ => true
def isZero : E → Bool
  | .int i => i == 0
  | _ => false
section
variable (C : Cfg) (N : List Str)
def ownOf (own : List Nat) : List (Str × Nat) := own.map fun i => (N.getD i "", i)
mutual
def chkE : E → Scope → Expr → Bool
  | .non, _, x => match x with
    | .Constant .none _ _ => true
    | _ => false
  | .bl b, _, x => match x with
    | .Constant (.bool c) _ _ => b == c
    | _ => false
  | .int i, _, x => match x with
    | .Constant (.int c) _ _ => i == c
    | _ => false
  | .str s, _, x => match x with
    | .Constant (.str c) _ _ => s == c
    | _ => false
  | .var i, sc, x => match x with
    | .Name n _ => (N[i]? == some n) && kindB sc n 0 && !dunder n && !(n == ("__classdict__" : Str))
    | _ => false
  | .gint n i, sc, x => match x with
    | .Name m _ => m == n && C.gi.contains (n, i) && globB sc n
    | _ => false
  | .gstr n s, sc, x => match x with
    | .Name m _ => m == n && C.gs.contains (n, s) && globB sc n
    | _ => false
  | .gtup n ss, sc, x => match x with
    | .Name m _ => m == n && C.gt.contains (n, ss) && globB sc n
    | _ => false
  | .gidx n ss a, sc, x => match x with
    | .Call (.Attribute (.Name m _) at_ ap) [xa] [] pos => m == n && C.gt.contains (n, ss) && globB sc n && at_ == ("index" : Str) && (ap.endLine == pos.line) && plainE xa && chkE a sc xa
    | _ => false
  | .gin n kvs a, sc, x => match x with
    | .Compare xa [.In] [.Name m _] _ => m == n && C.gk.contains (n, kvs) && globB sc n && chkE a sc xa
    | _ => false
  | .gget n kvs a, sc, x => match x with
    | .Subscript (.Name m _) xa _ => m == n && C.gk.contains (n, kvs) && globB sc n && ixOk xa && chkE a sc xa
    | _ => false
  | .bin op a b, sc, x => match x with
    | .BinOp xa o xb _ => bopB op o && chkE a sc xa && chkE b sc xb
    | _ => false
  | .neg a, sc, x => match x with
    | .UnaryOp .USub xa _ => chkE a sc xa
    | _ => false
  | .cmp op a b, sc, x => match x with
    | .Compare xa [o] [xb] _ => copB op o && noSet xb && chkE a sc xa && chkE b sc xb
    | _ => false
  | .isN a, sc, x => match x with
    | .Compare xa [.Is] [.Constant .none _ _] _ => chkE a sc xa
    | _ => false
  | .notN a, sc, x => match x with
    | .Compare xa [.IsNot] [.Constant .none _ _] _ => chkE a sc xa
    | _ => false
  | .chain o1 o2 a b c, sc, x => match x with
    | .Compare xa [p1, p2] [xb, xc] _ => icopB o1 p1 && icopB o2 p2 && noSet xc && chkE a sc xa && chkE b sc xb && chkE c sc xc
    | _ => false
  | .bop k es, sc, x => match x with
    | .BoolOp .And xs _ => k && chkEs es sc xs
    | .BoolOp .Or xs _ => !k && chkEs es sc xs
    | _ => false
  | .not a, sc, x => match x with
    | .UnaryOp .Not xa _ => tOk a && chkE a sc xa
    | _ => false
  | .ite c a b, sc, x => match x with
    | .IfExp xc xa xb _ => tOk c && chkE c sc xc && chkE a sc xa && chkE b sc xb
    | _ => false
  | .tup es, sc, x => match x with
    | .Tuple xs _ _ => xs.all plainE && chkEs es sc xs
    | _ => false
  | .lst es, sc, x => match x with
    | .List xs _ => xs.all plainE && chkEs es sc xs
    | _ => false
  | .nlst es, sc, x => match x with
    | .List xs _ => xs.all plainE && chkEs es sc xs
    | _ => false
  | .xtup ss, sc, x => match x with
    | .Tuple xs _ _ => strsB ss xs && decide (ss.length ≤ 1000)
    | _ => false
  | .dict ks es, sc, x => match x with
    | .Dict keys vals _ => keysB ks keys && decide (keys.length = vals.length) && decide (keys.length ≤ 15) && chkEs es sc vals
    | _ => false
  | .ix a b, sc, x => match x with
    | .Subscript xa xb _ => ixOk xb && chkE a sc xa && chkE b sc xb
    | _ => false
  | .sl a lo hi, sc, x => match x with
    | .Subscript xa (.Slice l h none _) _ => chkE a sc xa && chkO lo sc l && chkO hi sc h
    | _ => false
  | .nsl a lo hi, sc, x => match x with
    | .Subscript xa (.Slice l h none _) _ => chkE a sc xa && chkO lo sc l && chkO hi sc h
    | _ => false
  | .rev a, sc, x => match x with
    | .Subscript xa (.Slice none none (some (.UnaryOp .USub (.Constant (.int 1) _ _) _)) _) _ => chkE a sc xa
    | _ => false
  | .lrng a b, sc, x => match x with
    | .Call (.Name n _) [.Call (.Name m _) [xa, xb] [] _] [] _ => n == ("list" : Str) && m == ("range" : Str) && C.free.contains n && C.free.contains m && globB sc n && globB sc m && plainE xa && plainE xb && chkE a sc xa && chkE b sc xb
    | .Call (.Name n _) [.Call (.Name m _) [xb] [] _] [] _ => n == ("list" : Str) && m == ("range" : Str) && C.free.contains n && C.free.contains m && globB sc n && globB sc m && plainE xb && isZero a && chkE b sc xb
    | _ => false
  | .fn f es, sc, x => match x with
    | .Call (.Name n _) xs [] _ => C.name f == some (none, n) && C.here f && globB sc n && xs.all plainE && chkEs es sc xs
    | _ => false
  | .mth D m f o es, sc, x => match x with
    | .Call (.Attribute xo n ap) xs [] pos => n == m && C.name f == some (some D, m) && C.here f && baseOk xo && xs.all plainE && decide (xs.length < 29) && (ap.endLine == pos.line) && chkE o sc xo && chkEs es sc xs
    | _ => false
  | .mk D f es, sc, x => match x with
    | .Call (.Name n _) xs [] _ => n == D && C.name f == some (some D, ("__init__" : Str)) && C.here f && C.makes.contains D && globB sc n && xs.all plainE && chkEs es sc xs
    | _ => false
  | .fld D o f, sc, x => match x with
    | .Attribute xo n _ => n == f && C.flds.contains (D, f) && baseOk xo && chkE o sc xo
    | _ => false
  | .bi b es, sc, x => match x with
    | .Call (.Name n _) xs [] _ => n == biN b && C.free.contains n && globB sc n && xs.all plainE && chkEs es sc xs
    | _ => false
  | .bm m o es, sc, x => match x with
    | .Call (.Attribute xo n ap) xs [] pos => n == bmN m && baseOk xo && xs.all plainE && decide (xs.length < 29) && (ap.endLine == pos.line) && chkE o sc xo && chkEs es sc xs
    | _ => false
  | .isi a n, sc, x => match x with
    | .Call (.Name i _) [xa, .Name m _] [] _ => i == ("isinstance" : Str) && C.free.contains i && globB sc i && m == (n : Str) && C.free.contains m && globB sc m && plainE xa && (n == "int" || n == "bool" || n == "str" || n == "tuple" || n == "list" || n == "dict") && chkE a sc xa
    | _ => false
  | .isc a D, sc, x => match x with
    | .Call (.Name i _) [xa, .Name m _] [] _ => i == ("isinstance" : Str) && C.free.contains i && globB sc i && m == D && C.iscs.contains D && globB sc m && plainE xa && chkE a sc xa
    | _ => false
  | .lk _ e, sc, x => tstOk x && chkE e sc x
  | .lc elt t tup it c own, sc, x => match x with
    | .ListComp xe [⟨tg, xi, ifs, 0⟩] scope _ => tgB N (relS scope sc) 2 t tup tg && (!needT it || tup) && t.all (own.contains ·) && chkI it sc xi && noSet xi && chkE elt (relS scope sc) xe && blkC N sc scope (ownOf N own) && (match c, ifs with
      | .none, [] => true
      | .some e, [xc] => tOk e && chkE e (relS scope sc) xc
      | _, _ => false)
    | _ => false
def chkEs : Es → Scope → List Expr → Bool
  | .nil, _, [] => true
  | .cons e r, sc, x :: xs => chkE e sc x && chkEs r sc xs
  | _, _, _ => false
def chkO : Oe → Scope → Option Expr → Bool
  | .none, _, none => true
  | .some e, sc, some x => chkE e sc x
  | _, _, _ => false
def chkI : It → Scope → Expr → Bool
  | .val e, sc, x => chkE e sc x
  | .rng e, sc, x => match x with
    | .Call (.Name n _) [xa] [] _ => n == ("range" : Str) && C.free.contains n && globB sc n && plainE xa && chkE e sc xa
    | _ => false
  | .rng2 a b, sc, x => match x with
    | .Call (.Name n _) [xa, xb] [] _ => n == ("range" : Str) && C.free.contains n && globB sc n && plainE xa && plainE xb && chkE a sc xa && chkE b sc xb
    | _ => false
  | .enum e, sc, x => match x with
    | .Call (.Name n _) [xa] [] _ => n == ("enumerate" : Str) && C.free.contains n && globB sc n && plainE xa && chkE e sc xa
    | _ => false
end
/-- y = [.. for ..] on one line -/
def lcSet (sc : Scope) (n : Str) (np : Pos) (x : Expr) : Bool := match x with
  | .ListComp _ _ scope p => decide (sc.kind = .function) && kindB sc n 2 && (np.line == p.line) && !(scope.names.any fun (m, k) => m == n && (k == .local || k == .cell))
  | _ => false
def hbB (sc : Scope) (h : Hb) (x : List Stmt) : Bool := match h, x with
  | .set i e, [.Assign [.Name n _] xe _] => (N[i]? == some n) && kindB sc n 1 && (match e with
    | .int _ | .bl _ | .str _ | .non => chkE C N e sc xe
    | _ => false)
  | .aug i k, [.AugAssign (.Name n _) .Add (.Constant (.int j) _ _) _] => (N[i]? == some n) && kindB sc n 1 && j == k
  | .app i e, [.Expr (.Call (.Attribute (.Name n _) at_ ap) [xe] [] pos) _] => (N[i]? == some n) && kindB sc n 0 && !dunder n && !(n == ("__classdict__" : Str)) && at_ == ("append" : Str) && (ap.endLine == pos.line) && plainE xe && (match e with
    | .int _ | .str _ => chkE C N e sc xe
    | _ => false)
  | _, _ => false
def hdsB (sc : Scope) : List (Str × Hb) → List ExceptHandler → Bool
  | [], [] => true
  | (X, h) :: r, .ExceptHandler (some (.Name n _)) none su _ :: q => n == X && C.excs.contains X && globB sc X && hbB C N sc h su && hdsB sc r q
  | _, _ => false
mutual
def chkS : S → Scope → Stmt → Bool
  | .expr e, sc, x => match x with
    | .Expr xe _ => noLc xe && chkE C N e sc xe
    | _ => false
  | .set t tup e, sc, x => match x with
    | .Assign [tg] xe _ => tgB N sc 1 t tup tg && chkE C N e sc xe && (if noLc xe then (noTup xe || noTup tg) else match tg with
      | .Name n np => !tup && (notLk e && lcSet sc n np xe)
      | _ => false)
    | _ => false
  | .fset D o f e, sc, x => match x with
    | .Assign [.Attribute xo n _] xe _ => n == f && C.flds.contains (D, f) && noLc xe && chkE C N o sc xo && chkE C N e sc xe
    | _ => false
  | .dset o i e, sc, x => match x with
    | .Assign [.Subscript xo xi _] xe _ => noLc xe && chkE C N o sc xo && chkE C N i sc xi && chkE C N e sc xe
    | _ => false
  | .aug i op e, sc, x => match x with
    | .AugAssign (.Name n _) o xe _ => (N[i]? == some n) && kindB sc n 1 && bopB op o && chkE C N e sc xe
    | _ => false
  | .faug D o f op e, sc, x => match x with
    | .AugAssign (.Attribute xo n _) p xe _ => n == f && C.flds.contains (D, f) && bopB op p && chkE C N o sc xo && chkE C N e sc xe
    | _ => false
  | .daug o i op e, sc, x => match x with
    | .AugAssign (.Subscript xo xi _) p xe _ => ixOk xi && bopB op p && chkE C N o sc xo && chkE C N i sc xi && chkE C N e sc xe
    | _ => false
  | .ret e, sc, x => match x with
    | .Return (some xe) _ => chkE C N e sc xe
    | _ => false
  | .retN, _, x => match x with
    | .Return none _ => true
    | _ => false
  | .ite c a b, sc, x => match x with
    | .If xc xa xb _ => tOk c && chkE C N c sc xc && chkSs a sc xa && chkSs b sc xb
    | _ => false
  | .for_ t tup it b, sc, x => match x with
    | .For tg xi xb [] _ => tgB N sc 1 t tup tg && (!needT it || tup) && chkI C N it sc xi && noSet xi && chkSs b sc xb
    | _ => false
  | .wh c b, sc, x => match x with
    | .While xc xb [] _ => tOk c && chkE C N c sc xc && chkSs b sc xb
    | _ => false
  | .rais X, sc, x => match x with
    | .Raise (some (.Call (.Name n _) [.Constant (.str _) _ _] [] _)) none _ => n == X && C.excs.contains X && globB sc X
    | _ => false
  | .try_ b hs, sc, x => match x with
    | .Try xb hds [] [] _ => !hs.isEmpty && chkSs b sc xb && hdsB C N sc hs hds
    | _ => false
  | .pass, _, x => match x with
    | .Pass _ => true
    | _ => false
  | .cont, _, x => match x with
    | .Continue _ => true
    | _ => false
  | .lk _ s, sc, x => chkS s sc x
def chkSs : Ss → Scope → List Stmt → Bool
  | .nil, _, [] => true
  | .cons s r, sc, x :: xs => chkS s sc x && chkSs r sc xs
  | _, _, _ => false
end
end
end I
set_option Elab.async false
set_option linter.all false
set_option maxRecDepth 100000
set_option maxHeartbeats 4000000
/-! I4: what the small language gives, the library's machine gives: expressions. -/
namespace I
open PySem PySem.Spec PyProof.Rows L2 G
open scoped Classical
/-- what is known of the program's names -/
structure Good (T : Sta) (C : Cfg) : Prop where
  free : ∀ n, C.free.contains n = true → T.mg n = none
  gi : ∀ n i, C.gi.contains (n, i) = true → ∃ t, T.mg n = some (.int i t)
  gs : ∀ n s, C.gs.contains (n, s) = true → ∃ t, T.mg n = some (.str s t)
  gt : ∀ n ss, C.gt.contains (n, ss) = true → T.mg n = some (.ref (He.ga T.K n)) ∧ kxB T.K n ss = true
  gk : ∀ n kvs, C.gk.contains (n, kvs) = true → T.mg n = some (.ref (He.ga T.K n)) ∧ (∃ es m, KDict T.K T.w (He.ga T.K n) es m) ∧ ∀ z i, lkA z kvs = some i → ∃ u, PySem.W.nsIn T.K (He.ga T.K n) z = some (some u) ∧ RelV (.int i) u
  exc : ∀ X, C.excs.contains X = true → XC T X
  exm : ∀ X Y, C.excs.contains X = true → C.excs.contains Y = true → PySem.W.exmOne T.K (.ref (He.ga T.K X)) (.ref (He.ga T.K Y)) = some (takes Y X)
  mak : ∀ X, C.makes.contains X = true → KC T X
  fld : ∀ X f, C.flds.contains (X, f) = true → FldOk T X f
  isc : ∀ X, C.iscs.contains X = true → isB T.K X = true ∧ Cls T.K (He.ga T.K X) ∧ T.mg X = some (.ref (He.ga T.K X))
def OutOk (C : Cfg) (P : Out → Store → Prop) (r : R D) : Prop := match r with
  | .ok d L => P (.rt d) L
  | .ex X L => C.excs.contains X = true ∧ P (.ex X) L
  | .no => True
/-- the calls are the program's -/
structure PhiOk (T : Sta) (C : Cfg) (k : Nat) (Φ : Calls) : Prop where
  fn : ∀ f n, C.here f = true → C.name f = some (none, n) → ∀ ds L, OutOk C (fun o L' => FC T k n ds L o L') (Φ.c f ds L)
  mt : ∀ f X m, C.here f = true → C.name f = some (some X, m) → ∀ ds L, OutOk C (fun o L' => MC T k X m ds L o L') (Φ.c f ds L)
  ini : ∀ f X, C.here f = true → C.name f = some (some X, ("__init__" : Str)) → ∀ ds L, OutOk C (fun o L' => ∃ j, j + 1 ≤ k ∧ MC T j X "__init__" ds L o L') (Φ.i f ds L)
section
variable {T : Sta} {C : Cfg} {k : Nat} {Φ : Calls} {N : List Str}
theorem glob_of {sc : Scope} {n : Str} (h : globB sc n = true) : GlS sc n ∧ (n == ("__debug__" : Str)) = false ∧ n ≠ ("__name__" : Str) := by
  unfold globB dunder at h
  simp only [Bool.and_eq_true, Bool.not_eq_true'] at h
  exact ⟨gls_of h.1.1, h.1.2, by simpa using h.2⟩
/-- what is shown of an expression -/
structure Snd (T : Sta) (C : Cfg) (Γ : GC) (Φ : Calls) (x : Expr) (e : E) : Prop where
  ok : ∀ δ L d L', ev Φ e δ L = .ok d L' → EV T Γ x δ L d L'
  ex : ∀ δ L X L', ev Φ e δ L = .ex X L' → C.excs.contains X = true ∧ EX T Γ x δ L X L'
  tv : tOk e = true → ∀ δ L b L', tst Φ e δ L = .ok b L' → TV T Γ x δ L b L'
theorem tst_eq {e : E} {δ : Env'} {L L' : Store} {b : Bool} (h : tst Φ e δ L = .ok b L') : ∃ d, ev Φ e δ L = .ok d L' ∧ d.truth L' = some b := by
  obtain ⟨d, M, h1, h2⟩ := R.bd_eq h
  obtain ⟨h3, rfl⟩ := R.op_ok h2
  exact ⟨d, h1, h3⟩
theorem Snd.plain {Γ : GC} {x : Expr} {e : E} (ok : ∀ δ L d L', ev Φ e δ L = .ok d L' → EV T Γ x δ L d L') (ex : ∀ δ L X L', ev Φ e δ L = .ex X L' → C.excs.contains X = true ∧ EX T Γ x δ L X L') (ht : tstOk x = true) : Snd T C Γ Φ x e :=
  ⟨ok, ex, fun _ δ L b L' h => by
    obtain ⟨d, h1, h2⟩ := tst_eq h
    exact tv_truth (ok δ L d L' h1) h2 (isT_ok ht)⟩
/-- nothing is raised -/
theorem Snd.plainN {Γ : GC} {x : Expr} {e : E} (ok : ∀ δ L d L', ev Φ e δ L = .ok d L' → EV T Γ x δ L d L') (ex : ∀ δ L X L', ev Φ e δ L ≠ .ex X L') (ht : tstOk x = true) : Snd T C Γ Φ x e :=
  .plain ok (fun δ L X L' h => absurd h (ex δ L X L')) ht
/-! ### equality of data -/
mutual
theorem eqvD_py : ∀ x y : D, eqvD x y = PyData.eqv x.py y.py
  | .tup xs, y => by
    cases y <;> simp [eqvD, D.py, PyData.eqv]
    exact eqvL_py xs _
  | .lst xs, y => by
    cases y <;> simp [eqvD, D.py, PyData.eqv]
    exact eqvL_py xs _
  | .non, y => by cases y <;> simp [eqvD, D.py, PyData.eqv]
  | .bl _, y => by cases y <;> simp [eqvD, D.py, PyData.eqv]
  | .int _, y => by cases y <;> simp [eqvD, D.py, PyData.eqv]
  | .str _, y => by cases y <;> simp [eqvD, D.py, PyData.eqv]
  | .ref _, y => by cases y <;> simp [eqvD, D.py, PyData.eqv]
  | .scr _, y => by cases y <;> simp [eqvD, D.py, PyData.eqv]
theorem eqvL_py : ∀ xs ys : List D, eqvL xs ys = PyData.eqvAll (pyL xs) (pyL ys)
  | [], [] => by simp [eqvL, pyL, PyData.eqvAll]
  | [], _ :: _ => by simp [eqvL, pyL, PyData.eqvAll]
  | _ :: _, [] => by simp [eqvL, pyL, PyData.eqvAll]
  | x :: xs, y :: ys => by
    simp only [eqvL, pyL, PyData.eqvAll]
    rw [eqvD_py x y, eqvL_py xs ys]
end
theorem lay_shp : ∀ (n : Nat) (d : D), lay n d = true → Shp n d
  | n, .non, _ => (shp_non).mono (Nat.zero_le _)
  | n, .bl b, _ => (shp_bl b).mono (Nat.zero_le _)
  | n, .int i, _ => (shp_int i).mono (Nat.zero_le _)
  | n, .str x, h => (shp_str (by simpa [lay] using h)).mono (Nat.zero_le _)
  | 0, .tup ds, h => by simp [lay] at h
  | 0, .lst ds, h => by simp [lay] at h
  | n + 1, .tup ds, h => shp_tup fun d hd => lay_shp n d (List.all_eq_true.mp (by simpa [lay] using h) d hd)
  | n + 1, .lst ds, h => shp_lst fun d hd => lay_shp n d (List.all_eq_true.mp (by simpa [lay] using h) d hd)
  | n, .ref _, h => by cases n <;> simp [lay] at h
  | n, .scr _, h => by cases n <;> simp [lay] at h
theorem lay_shaped {n : Nat} {d : D} (h : lay n d = true) (hn : n ≤ 64 := by decide) : SeqAt.shaped d.py = true := (lay_shp n d h).ok hn
theorem frz_dp {K : PySem.W.Frag} {g : Gw} {L : Store} (W : Wo K g L) : ∀ (n : Nat) (v : V) (d : D), Dt K g v d → lay n (frz L n d) = true → Dp K g.H v (frz L n d).py := by
  intro n
  induction n with
  | zero =>
    intro v d h hl
    have e : frz L 0 d = d := by cases d <;> rfl
    rw [e] at hl ⊢
    exact h.dp (SeqAt.canLay_of_shaped (lay_shaped hl))
  | succ n ih =>
    have all : ∀ (xs : List V) (ds : List D), DtL K g xs ds → (ds.map (frz L n)).all (lay n) = true → DpAll K g.H xs (pyL (ds.map (frz L n))) := by
      intro xs ds hd
      induction ds generalizing xs with
      | nil =>
        cases hd
        intro _
        exact .nil
      | cons d ds ih2 =>
        cases hd with
        | cons h r =>
          intro hl
          rw [List.map_cons, List.all_cons, Bool.and_eq_true] at hl
          exact .cons (ih _ d h hl.1) (ih2 _ r hl.2)
    intro v d h hl
    cases h with
    | non => exact .non
    | bl b => exact .bl b
    | int i => exact .int i
    | str x => exact .str x
    | @tup a xs ds p l =>
      have hl' : (ds.map (frz L n)).all (lay n) = true := hl
      exact .tup p.sq (all _ _ l hl')
    | @lst a xs ds p l =>
      have hl' : (ds.map (frz L n)).all (lay n) = true := hl
      exact .lst p.sq (all _ _ l hl')
    | scr p => cases hl
    | @ref j hj =>
      cases q : L[j]? with
      | none =>
        have e : frz L (n + 1) (.ref j) = .ref j := by unfold frz; rw [q]
        rw [e] at hl
        cases hl
      | some c =>
        cases c with
        | list ds =>
          have e : frz L (n + 1) (.ref j) = .lst (ds.map (frz L n)) := by unfold frz; rw [q]
          rw [e] at hl ⊢
          obtain ⟨_, xs, h1, h2⟩ := (show CellOk K g j (.list ds) from W.at_ j _ q)
          exact .lst (.inl (.inl h1)) (all _ _ h2 hl)
        | ins _ _ =>
          have e : frz L (n + 1) (.ref j) = .ref j := by unfold frz; rw [q]
          rw [e] at hl
          cases hl
        | dict _ =>
          have e : frz L (n + 1) (.ref j) = .ref j := by unfold frz; rw [q]
          rw [e] at hl
          cases hl
        | lock _ =>
          have e : frz L (n + 1) (.ref j) = .ref j := by unfold frz; rw [q]
          rw [e] at hl
          cases hl
        | xtup _ =>
          have e : frz L (n + 1) (.ref j) = .ref j := by unfold frz; rw [q]
          rw [e] at hl
          cases hl
        | dead =>
          have e : frz L (n + 1) (.ref j) = .ref j := by unfold frz; rw [q]
          rw [e] at hl
          cases hl
theorem lkA_all {α β : Type} [DecidableEq β] {p : α → Bool} {z : β} {y : α} : ∀ {ls : List (β × α)}, (ls.all fun q => p q.2) = true → lkA z ls = some y → p y = true
  | [], _, h => by cases h
  | (a, x) :: r, h, q => by
    rw [List.all_cons, Bool.and_eq_true] at h
    unfold lkA at q
    split at q
    · cases q
      exact h.1
    · exact lkA_all h.2 q
section
variable {Γ : GC} {δ : Env'} {L M1 M2 : Store} {a b : Expr} {pos : Pos} {x y : D} {t : Bool}
theorem dhits {g : Gw} {ls : List (L2.Key × D)} {kl : List (L2.Key × V)} (hl : KvR T.K g kl ls) (h2 : (ls.all fun p => lay 39 p.2) = true) : ∀ {ks : List (L2.Key × D)} {kk : List (L2.Key × V)}, KvR T.K g kk ks → (ks.all fun p => lay 39 p.2) = true →
    DHits T.K g.H kl kk (ks.all fun p => match lkA p.1 ls with
      | some y => eqvD p.2 y
      | none => false)
  | _, _, .nil, _ => .nil
  | _, _, .cons (a := p) (b := q) h t, h1 => by
    obtain ⟨e1, r1⟩ := h
    obtain ⟨z, v⟩ := p
    obtain ⟨z', d⟩ := q
    have e1 : z = z' := e1
    subst e1
    rw [List.all_cons, Bool.and_eq_true] at h1
    have ih := dhits hl h2 t h1.2
    rw [List.all_cons]
    have lk := hl.lk (k := z)
    show DHits T.K g.H kl ((z, v) :: _) ((match lkA z ls with
      | some y => eqvD d y
      | none => false) && _)
    cases q : lkA z ls with
    | none => exact .miss (lk.2 q)
    | some y =>
      obtain ⟨u, u1, u2⟩ := lk.1 y q
      have hy : lay 39 y = true := lkA_all (p := fun d => lay 39 d) h2 q
      show DHits T.K g.H kl ((z, v) :: _) (eqvD d y && _)
      rw [eqvD_py]
      have s1 := lay_shaped h1.1
      have s2 := lay_shaped hy
      exact .hit u1 (r1.dp (SeqAt.canLay_of_shaped s1)) (u2.dp (SeqAt.canLay_of_shaped s2)) s1 s2 ih
theorem eqDc_ev (ha : EV T Γ a δ L x M1) (hb : EV T Γ b δ M1 y M2) (hc : Γ.c = true) (h : eqDc M2 x y = some t) : EV T Γ (.Compare a [.Eq] [b] pos) δ L (.bl t) M2 ∧ EV T Γ (.Compare a [.NotEq] [b] pos) δ L (.bl (!t)) M2 ∧ TV T Γ (.Compare a [.Eq] [b] pos) δ L t M2 ∧ TV T Γ (.Compare a [.NotEq] [b] pos) δ L (!t) M2 := by
  unfold eqDc at h
  split at h
  · rename_i i j
    split at h
    · rename_i ks ls q1 q2
      split at h
      · rename_i hl
        cases h
        have rd : ∀ (neg : Bool) (g : Gw) v u, Wo T.K g M2 → Dt T.K g v (.ref i) → Dt T.K g u (.ref j) → ∀ Q : VK, (∀ z g', Ext g g' → Wo T.K g' M2 → Dt T.K g' z (.bl (if neg then !eqKv ks ls else eqKv ks ls)) → Q z g'.H) → rEqK T.K neg v u g.H Q := fun neg g v u W dv du Q q => by
          obtain ⟨_, kk, h1, h2⟩ := W.dict q1
          obtain ⟨_, kl, h3, h4⟩ := W.dict q2
          cases dv
          cases du
          refine ⟨_, _, kk, kl, _, rfl, rfl, h1, h3, fun _ => dhits h4 hl.2 h2 hl.1, ?_⟩
          rw [h2.len, h4.len]
          exact q _ g (.refl g) W (.bl _)
        exact ⟨ev_cmp (rEqK T.K false) (fun X F => by rw [← F.K]; exact op_eqK (by have h := (F.room hc).un; omega)) ha hb (rd false) (nomark _),
          ev_cmp (rEqK T.K true) (fun X F => by rw [← F.K]; exact op_neK (by have h := (F.room hc).un; omega)) ha hb (rd true) (nomark _),
          tv_cmp (rEqK T.K false) (fun X F => by rw [← F.K]; exact op_eqK (by have h := (F.room hc).un; omega)) ha hb (rd false) (nomark _),
          tv_cmp (rEqK T.K true) (fun X F => by rw [← F.K]; exact op_neK (by have h := (F.room hc).un; omega)) ha hb (rd true) (nomark _)⟩
      · cases h
    · cases h
  · cases h
theorem eqR_ev (ha : EV T Γ a δ L x M1) (hb : EV T Γ b δ M1 y M2) (hc : Γ.c = true) (h : eqR M2 x y = some t) : EV T Γ (.Compare a [.Eq] [b] pos) δ L (.bl t) M2 ∧ EV T Γ (.Compare a [.NotEq] [b] pos) δ L (.bl (!t)) M2 ∧ TV T Γ (.Compare a [.Eq] [b] pos) δ L t M2 ∧ TV T Γ (.Compare a [.NotEq] [b] pos) δ L (!t) M2 := by
  unfold eqR at h
  split at h
  · rename_i hl
    cases h
    rw [eqvD_py]
    have s1 := lay_shaped hl.1
    have s2 := lay_shaped hl.2
    exact ⟨ev_eq ha hb s1 s2 hc, ev_ne ha hb s1 s2 hc, tv_eq ha hb s1 s2 hc, tv_ne ha hb s1 s2 hc⟩
  · split at h
    · rename_i hl
      cases h
      rw [eqvD_py]
      have s1 := lay_shaped hl.1
      have s2 := lay_shaped hl.2
      have d1 : ∀ g v, Wo T.K g M2 → Dt T.K g v x → Dp T.K g.H v (frz M2 40 x).py := fun g v W d => frz_dp W 40 v x d hl.1
      have d2 : ∀ g v, Wo T.K g M2 → Dt T.K g v y → Dp T.K g.H v (frz M2 40 y).py := fun g v W d => frz_dp W 40 v y d hl.2
      exact ⟨ev_eqX ha hb hc d1 d2 s1 s2, ev_neX ha hb hc d1 d2 s1 s2, tv_eqX ha hb hc d1 d2 s1 s2, tv_neX ha hb hc d1 d2 s1 s2⟩
    · exact eqDc_ev ha hb hc h
theorem key_of {d : D} {z : L2.Key} (h : keyOf d = some z) : d = kD z := by
  cases d <;> first | (cases h; rfl) | cases h
theorem eqv_any {ds : List D} {z : D} : ((pyL ds).any fun w => PyData.eqv w z.py) = ds.any fun w => eqvD w z := by
  induction ds with
  | nil => rfl
  | cons d r ih =>
    show (PyData.eqv d.py z.py || (pyL r).any _) = _
    rw [ih, List.any_cons, eqvD_py]
theorem any_map {ds : List D} {f : D → D} {z : D} : ((ds.map f).any fun w => eqvD w z) = ds.any fun w => eqvD (f w) z := by
  rw [List.any_map]
  rfl
theorem list_py {ds : List D} : (D.lst ds).py = .list (pyL ds) := rfl
/-- membership in a list, by data -/
theorem inDD_ev {ds : List D} (ha : EV T Γ a δ L x M1) (hb : EV T Γ b δ M1 y M2) (hc : Γ.c = true) (hy : frz M2 40 y = .lst (ds.map (frz M2 39))) (l1 : lay 40 (frz M2 40 x) = true) (l2 : lay 40 (frz M2 40 y) = true) (hm : noSet b = true) (ht : (ds.any fun z => eqvD (frz M2 39 z) (frz M2 40 x)) = t) :
    EV T Γ (.Compare a [.In] [b] pos) δ L (.bl t) M2 ∧ EV T Γ (.Compare a [.NotIn] [b] pos) δ L (.bl (!t)) M2 ∧ TV T Γ (.Compare a [.In] [b] pos) δ L t M2 ∧ TV T Γ (.Compare a [.NotIn] [b] pos) δ L (!t) M2 := by
  have d1 : ∀ g v, Wo T.K g M2 → Dt T.K g v x → Dp T.K g.H v (frz M2 40 x).py := fun g v W d => frz_dp W 40 v x d l1
  have d2 : ∀ g v, Wo T.K g M2 → Dt T.K g v y → Dp T.K g.H v (.list (pyL (ds.map (frz M2 39)))) := fun g v W d => by
    have := frz_dp W 40 v y d l2
    rw [hy] at this
    exact this
  have s1 := lay_shaped l1
  have s2 : SeqAt.shaped (.list (pyL (ds.map (frz M2 39)))) = true := by
    have := lay_shaped l2
    rw [hy] at this
    exact this
  have e : ((pyL (ds.map (frz M2 39))).any fun w => PyData.eqv w (frz M2 40 x).py) = t := by rw [eqv_any, any_map, ht]
  have r1 := ev_inDD (pos := pos) ha hb hc d1 d2 s1 s2 (marks_ok hm)
  have r2 := ev_ninDD (pos := pos) ha hb hc d1 d2 s1 s2 (marks_ok hm)
  have r3 := tv_inDD (pos := pos) ha hb hc d1 d2 s1 s2 (marks_ok hm)
  have r4 := tv_ninDD (pos := pos) ha hb hc d1 d2 s1 s2 (marks_ok hm)
  rw [e] at r1 r2 r3 r4
  exact ⟨r1, r2, r3, r4⟩
theorem inSeq_ev {ds : List D} (ha : EV T Γ a δ L x M1) (hb : EV T Γ b δ M1 y M2) (s : SeqD M2 y ds) (fx : x.flat = true) (fs : ds.all D.flat = true) (hm : noSet b = true) (ht : (ds.any fun y => eqD y x) = t) :
    EV T Γ (.Compare a [.In] [b] pos) δ L (.bl t) M2 ∧ EV T Γ (.Compare a [.NotIn] [b] pos) δ L (.bl (!t)) M2 ∧ TV T Γ (.Compare a [.In] [b] pos) δ L t M2 ∧ TV T Γ (.Compare a [.NotIn] [b] pos) δ L (!t) M2 := by
  subst ht
  exact ⟨ev_in ha hb s fx fs (marks_ok hm), ev_nin ha hb s fx fs (marks_ok hm), tv_in ha hb s fx fs (marks_ok hm), tv_nin ha hb s fx fs (marks_ok hm)⟩
theorem inDict_ev {j : Nat} {kvs} {z : L2.Key} (ha : EV T Γ a δ L x M1) (hb : EV T Γ b δ M1 (.ref j) M2) (hk : RdDict M2 j kvs) (hc : Γ.c = true) (hx : keyOf x = some z) (hm : noSet b = true) (ht : (lkA z kvs).isSome = t) :
    EV T Γ (.Compare a [.In] [b] pos) δ L (.bl t) M2 ∧ EV T Γ (.Compare a [.NotIn] [b] pos) δ L (.bl (!t)) M2 ∧ TV T Γ (.Compare a [.In] [b] pos) δ L t M2 ∧ TV T Γ (.Compare a [.NotIn] [b] pos) δ L (!t) M2 := by
  subst ht
  rw [key_of hx] at ha
  exact ⟨ev_din ha hb hk hc (marks_ok hm), ev_dnin ha hb hk hc (marks_ok hm), tv_din ha hb hk hc (marks_ok hm), tv_dnin ha hb hk hc (marks_ok hm)⟩
theorem inR_ev (ha : EV T Γ a δ L x M1) (hb : EV T Γ b δ M1 y M2) (hc : Γ.c = true) (hm : noSet b = true) (h : inR M2 x y = some t) :
    EV T Γ (.Compare a [.In] [b] pos) δ L (.bl t) M2 ∧ EV T Γ (.Compare a [.NotIn] [b] pos) δ L (.bl (!t)) M2 ∧ TV T Γ (.Compare a [.In] [b] pos) δ L t M2 ∧ TV T Γ (.Compare a [.NotIn] [b] pos) δ L (!t) M2 := by
  cases y with
  | str z =>
    cases x with
    | str c =>
      have h' : (match c.cps.toList with
        | [n] => some (decide (n ∈ z.cps.toList))
        | _ => none) = some t := h
      split at h'
      · rename_i n hn
        cases h'
        have e : c = ⟨#[n]⟩ := by
          cases c with
          | mk cps =>
            have : cps = #[n] := by
              have := congrArg List.toArray hn
              simpa using this
            rw [this]
        subst e
        exact ⟨ev_inS ha hb (marks_ok hm), ev_ninS ha hb (marks_ok hm), tv_inS ha hb (marks_ok hm), tv_ninS ha hb (marks_ok hm)⟩
      · cases h'
    | _ => cases h
  | ref j =>
    unfold inR at h
    dsimp only at h
    split at h
    · rename_i ds q
      split at h
      · rename_i hf
        exact inSeq_ev ha hb (.cell q) hf.1 hf.2 hm (Option.some.inj h)
      · split at h
        · rename_i hl
          refine inDD_ev (ds := ds) ha hb hc ?_ hl.1 hl.2 hm (Option.some.inj h)
          show frz M2 (39 + 1) (.ref j) = _
          unfold frz
          rw [q]
        · cases h
    · rename_i kvs q
      cases hx : keyOf x with
      | none => rw [hx] at h; cases h
      | some z =>
        rw [hx] at h
        exact inDict_ev ha hb (.inl q) hc hx hm (Option.some.inj h)
    · rename_i kvs q
      cases hx : keyOf x with
      | none => rw [hx] at h; cases h
      | some z =>
        rw [hx] at h
        exact inDict_ev ha hb (.inr q) hc hx hm (Option.some.inj h)
    · cases h
  | tup ds =>
    have h' : (if x.flat = true ∧ ds.all D.flat = true then some (ds.any fun y => eqD y x) else none) = some t := h
    split at h'
    · rename_i hf
      exact inSeq_ev ha hb .tup hf.1 hf.2 hm (Option.some.inj h')
    · cases h'
  | lst ds =>
    unfold inR at h
    dsimp only at h
    split at h
    · rename_i hf
      exact inSeq_ev ha hb .lst hf.1 hf.2 hm (Option.some.inj h)
    · split at h
      · rename_i hl
        exact inDD_ev (ds := ds) ha hb hc rfl hl.1 hl.2 hm (Option.some.inj h)
      · cases h
  | _ => cases h
/-- one comparison -/
theorem cmp_ev {op : Cop} {o : CmpOp} (hop : copB op o = true) (ha : EV T Γ a δ L x M1) (hb : EV T Γ b δ M1 y M2) (hc : Γ.c = true) (hm : noSet b = true) (h : cmpD op M2 x y = some t) : EV T Γ (.Compare a [o] [b] pos) δ L (.bl t) M2 ∧ TV T Γ (.Compare a [o] [b] pos) δ L t M2 := by
  have num : ∀ {i j : Int} {op : Cop}, cmpD op M2 x y = some t → op ≠ .eq → op ≠ .ne → op ≠ .mem → op ≠ .nin → ∃ i j, x = .int i ∧ y = .int j ∧ icmp op i j = t := fun {i j op} h n1 n2 n3 n4 => by
    cases op <;> first | exact absurd rfl n1 | exact absurd rfl n2 | exact absurd rfl n3 | exact absurd rfl n4 | (cases x <;> cases y <;> first | exact ⟨_, _, rfl, rfl, Option.some.inj h⟩ | cases h)
  cases op <;> cases o <;> first | (cases hop; done) | skip
  case eq.Eq =>
    obtain ⟨h1, _, h2, _⟩ := eqR_ev (pos := pos) ha hb hc h
    exact ⟨h1, h2⟩
  case ne.NotEq =>
    have h' : (eqR M2 x y).map (!·) = some t := h
    cases q : eqR M2 x y with
    | none => rw [q] at h'; cases h'
    | some u =>
      rw [q] at h'
      cases h'
      obtain ⟨_, h1, _, h2⟩ := eqR_ev (pos := pos) ha hb hc q
      exact ⟨h1, h2⟩
  case mem.In =>
    obtain ⟨h1, _, h2, _⟩ := inR_ev (pos := pos) ha hb hc hm h
    exact ⟨h1, h2⟩
  case nin.NotIn =>
    have h' : (inR M2 x y).map (!·) = some t := h
    cases q : inR M2 x y with
    | none => rw [q] at h'; cases h'
    | some u =>
      rw [q] at h'
      cases h'
      obtain ⟨_, h1, _, h2⟩ := inR_ev (pos := pos) ha hb hc hm q
      exact ⟨h1, h2⟩
  case lt.Lt =>
    obtain ⟨i, j, rfl, rfl, rfl⟩ := num (i := 0) (j := 0) h nofun nofun nofun nofun
    exact ⟨ev_lt ha hb, tv_lt ha hb⟩
  case le.LtE =>
    obtain ⟨i, j, rfl, rfl, rfl⟩ := num (i := 0) (j := 0) h nofun nofun nofun nofun
    exact ⟨ev_le ha hb, tv_le ha hb⟩
  case gt.Gt =>
    obtain ⟨i, j, rfl, rfl, rfl⟩ := num (i := 0) (j := 0) h nofun nofun nofun nofun
    exact ⟨ev_gt ha hb, tv_gt ha hb⟩
  case ge.GtE =>
    obtain ⟨i, j, rfl, rfl, rfl⟩ := num (i := 0) (j := 0) h nofun nofun nofun nofun
    exact ⟨ev_ge ha hb, tv_ge ha hb⟩
end
end
end I
set_option Elab.async false
set_option linter.all false
set_option maxRecDepth 100000
set_option maxHeartbeats 4000000
/-! I5: operators, built-ins, methods. -/
namespace I
open PySem PySem.Spec PyProof.Rows L2 G
open scoped Classical
section
variable {T : Sta} {C : Cfg} {Γ : GC} {δ : Env'} {L M1 M2 L' : Store} {a b : Expr} {pos apos p : Pos} {x y d : D} {t : Bool}
theorem lstOf_eq {L : Store} {x : D} {ds : List D} (h : lstOf L x = some ds) : x = .lst ds ∨ ∃ k, x = .ref k ∧ L[k]? = some (.list ds) := by
  unfold lstOf at h
  split at h
  · cases h
    exact .inl rfl
  · split at h
    · rename_i q
      cases h
      exact .inr ⟨_, rfl, q⟩
    · cases h
  · cases h
theorem seqOf_eq {L : Store} {x : D} {ds : List D} (h : seqOf L x = some ds) : SeqD L x ds := by
  unfold seqOf at h
  split at h
  · cases h; exact .tup
  · cases h; exact .lst
  · cases h; exact .scr
  · split at h
    · rename_i q
      cases h
      exact .cell q
    · cases h
  · cases h
theorem mulOk_c {i j : Int} (h : mulOk i j = true) : CMul i j := by
  unfold mulOk at h
  rw [Bool.or_eq_true, decide_eq_true_eq, decide_eq_true_eq] at h
  unfold CMul
  omega
theorem bin_ev {op : Bop} {o : Operator} (hop : bopB op o = true) (ha : EV T Γ a δ L x M1) (hb : EV T Γ b δ M1 y M2) (h : opD op M2 x y = some d) : EV T Γ (.BinOp a o b pos) δ L d M2 := by
  cases op <;> cases o <;> first | (cases hop; done) | skip
  case add.Add =>
    have h' : addD M2 x y = some d := h
    unfold addD at h'
    split at h'
    · cases h'
      exact ev_add ha hb
    · split at h'
      · rename_i hz
        cases h'
        exact ev_addS ha hb hz
      · cases h'
    · split at h'
      · rename_i hz
        cases h'
        exact ev_catT ha hb hz
      · cases h'
    · split at h'
      · rename_i q1 q2
        split at h'
        · rename_i hz
          cases h'
          exact ev_catL ha hb (lstOf_eq q1) (lstOf_eq q2) hz
        · cases h'
      · cases h'
  case sub.Sub =>
    cases x <;> cases y <;> first | (cases h; exact ev_sub ha hb) | cases h
  case mul.Mult =>
    have h' : mulD x y = some d := h
    unfold mulD at h'
    split at h'
    · split at h'
      · rename_i hz
        cases h'
        exact ev_mul ha hb (mulOk_c hz)
      · cases h'
    · split at h'
      · rename_i hz
        cases h'
        exact ev_rep ha hb hz.1 ⟨hz.2.1, hz.2.2.1, hz.2.2.2⟩
      · cases h'
    · cases h'
  case div.FloorDiv =>
    cases x <;> cases y <;> first | cases h; done | skip
    rename_i i j
    have h' : (if 0 < j ∧ j < 1073741824 then some (D.int (i / j)) else none) = some d := h
    split at h'
    · rename_i hz
      cases h'
      exact ev_div ha hb hz
    · cases h'
  case mod.Mod =>
    cases x <;> cases y <;> first | cases h; done | skip
    rename_i i j
    have h' : (if 0 < j then some (D.int (i % j)) else none) = some d := h
    split at h'
    · rename_i hz
      cases h'
      exact ev_mod ha hb hz
    · cases h'
  case pow.Pow =>
    cases x <;> cases y <;> first | cases h; done | skip
    rename_i i j
    have h' : (if 0 ≤ j ∧ j ≤ 1000000 ∧ i.natAbs < 18446744073709551616 then some (D.int (i ^ j.toNat)) else none) = some d := h
    split at h'
    · rename_i hz
      cases h'
      exact ev_pow ha hb ⟨hz.1, hz.2.1, by omega⟩
    · cases h'
theorem dict_rd {L : Store} {k : Nat} {kvs} (h : dictOf L k = some kvs) : RdDict L k kvs := by
  unfold dictOf at h
  split at h
  · rename_i q
    cases h
    exact .inl q
  · rename_i q
    cases h
    exact .inr q
  · cases h
theorem ix_ev (hx : ixOk b = true) (hc : Γ.c = true) (ha : EV T Γ a δ L x M1) (hb : EV T Γ b δ M1 y M2) (h : ixD M2 x y = some d) : EV T Γ (.Subscript a b pos) δ L d M2 := by
  have dic : ∀ {j kvs}, x = .ref j → RdDict M2 j kvs → ((keyOf y).bind fun z => lkA z kvs) = some d → EV T Γ (.Subscript a b pos) δ L d M2 := fun {j kvs} e hk hq => by
    subst e
    cases q : keyOf y with
    | none => rw [q] at hq; cases hq
    | some z =>
      rw [q] at hq
      rw [key_of q] at hb
      exact ev_dget ha hb hk hq hc (nosl_ok hx)
  have seq : ∀ {ds}, SeqD M2 x ds → (∃ i, y = .int i ∧ atI ds i = some d) → EV T Γ (.Subscript a b pos) δ L d M2 := fun {ds} s hq => by
    obtain ⟨i, rfl, hq⟩ := hq
    exact ev_ix ha hb s hq (pix_ok hx)
  cases x with
  | ref j =>
    unfold ixD at h
    dsimp only at h
    split at h
    · rename_i q
      exact dic rfl (.inl q) h
    · rename_i q
      exact dic rfl (.inr q) h
    · rename_i q
      refine seq (.cell q) ?_
      cases y <;> first | exact ⟨_, rfl, h⟩ | cases h
    · cases h
  | tup ds =>
    refine seq .tup ?_
    cases y <;> first | exact ⟨_, rfl, h⟩ | cases h
  | lst ds =>
    refine seq .lst ?_
    cases y <;> first | exact ⟨_, rfl, h⟩ | cases h
  | scr ns =>
    refine seq .scr ?_
    cases y with
    | int i =>
      have h' : (atI ns i).map D.int = some d := h
      refine ⟨i, rfl, ?_⟩
      unfold atI at h' ⊢
      rw [List.length_map]
      cases q : ixN ns.length i with
      | none => rw [q] at h'; cases h'
      | some j =>
        rw [q] at h'
        show (ns.map D.int)[j]? = some d
        rw [List.getElem?_map]
        exact h'
    | _ => cases h
  | _ => cases h
theorem cut_eq {s : Str} {lo hi : Option Int} : cutT s lo hi = cutS s lo hi := rfl
theorem sl_ev {l h : Option Expr} {p2 : Pos} {i j : Option Int} (ha : EV T Γ a δ L x M1) (hl : OV T Γ l δ M1 i) (hh : OV T Γ h δ M1 j) (hs : slD M1 x i j = some d) : EV T Γ (.Subscript a (.Slice l h none p2) pos) δ L d M1 := by
  have seq : (∀ ds, x ≠ .tup ds) → ((seqOf M1 x).map fun ds => D.lst (cutD ds i j)) = some d → EV T Γ (.Subscript a (.Slice l h none p2) pos) δ L d M1 := fun n hs => by
    cases q : seqOf M1 x with
    | none => rw [q] at hs; cases hs
    | some ds =>
      rw [q] at hs
      cases hs
      exact ev_slL ha (seqOf_eq q) n hl hh
  cases x with
  | tup ds =>
    cases hs
    exact ev_slT ha hl hh
  | str s =>
    have hs' : (if s.length ≤ sizeLine then some (D.str (cutT s i j)) else none) = some d := hs
    split at hs'
    · rename_i hz
      cases hs'
      exact ev_slS ha hz hl hh
    · cases hs'
  | non => exact seq nofun hs
  | bl b => exact seq nofun hs
  | int i => exact seq nofun hs
  | ref k => exact seq nofun hs
  | lst ds => exact seq nofun hs
  | scr ns => exact seq nofun hs
/-! ### built-ins -/
theorem ints_of : ∀ {ds : List D} {ns : List Int}, intsOf ds = some ns → ds = ns.map D.int
  | [], ns, h => by cases h; rfl
  | d :: ds, ns, h => by
    cases d with
    | int i =>
      have h' : (intsOf ds).map (i :: ·) = some ns := h
      cases q : intsOf ds with
      | none => rw [q] at h'; cases h'
      | some ms =>
        rw [q] at h'
        cases h'
        rw [ints_of q]
        rfl
    | _ => cases h
theorem strs_of : ∀ {ds : List D} {ns : List Str}, strsOf ds = some ns → ds = ns.map D.str
  | [], ns, h => by cases h; rfl
  | d :: ds, ns, h => by
    cases d with
    | str i =>
      have h' : (strsOf ds).map (i :: ·) = some ns := h
      cases q : strsOf ds with
      | none => rw [q] at h'; cases h'
      | some ms =>
        rw [q] at h'
        cases h'
        rw [strs_of q]
        rfl
    | _ => cases h
theorem sort_of {L : Store} {x : D} {ds : List D} (h : sortOf L x = some ds) : SrtD L x ds := by
  unfold sortOf at h
  split at h
  · cases h; exact .lst
  · split at h
    · rename_i q; cases h; exact .cell q
    · rename_i q; cases h; exact .dict (.inl q)
    · rename_i q; cases h; exact .dict (.inr q)
    · cases h
  · cases h
/-- arguments, one by one -/
inductive AVc (T : Sta) (Γ : GC) (δ : Env') : List Expr → Store → List D → Store → Prop
  | nil {L : Store} : AVc T Γ δ [] L [] L
  | cons {x : Expr} {xs : List Expr} {d : D} {ds : List D} {L M1 M2 : Store} (h : EV T Γ x δ L d M1) (r : AVc T Γ δ xs M1 ds M2) : AVc T Γ δ (x :: xs) L (d :: ds) M2
theorem AVc.av : ∀ {xs : List Expr} {L : Store} {ds : List D} {M : Store}, xs.all plainE = true → AVc T Γ δ xs L ds M → AV T Γ xs δ L ds M
  | _, _, _, _, _, .nil => av_nil
  | _, _, _, _, hp, .cons h r => by
    rw [List.all_cons, Bool.and_eq_true] at hp
    exact av_cons h (AVc.av hp.2 r) (fun _ => star_cons hp.1)
theorem AVc.one {xs : List Expr} {M : Store} (h : AVc T Γ δ xs L [x] M) : ∃ e, xs = [e] ∧ EV T Γ e δ L x M := by
  cases h with
  | cons h r =>
    cases r
    exact ⟨_, rfl, h⟩
theorem AVc.two {xs : List Expr} {M : Store} (h : AVc T Γ δ xs L [x, y] M) : ∃ e f M1, xs = [e, f] ∧ EV T Γ e δ L x M1 ∧ EV T Γ f δ M1 y M := by
  cases h with
  | cons h r =>
    cases r with
    | cons h2 r =>
      cases r
      exact ⟨_, _, _, rfl, h, h2⟩
theorem plain1 {e : Expr} (h : [e].all plainE = true) : plainE e = true := by simpa using h
theorem bi_ev {b : Bi} {xs : List Expr} {ds : List D} (hm : T.mg (biN b) = none) (hg : GlS Γ.sc (biN b)) (hc : Γ.c = true) (hp : xs.all plainE = true) (ha : AVc T Γ δ xs L ds M1) (h : biD b ds M1 = .ok d L') : EV T Γ (.Call (.Name (biN b) p) xs [] pos) δ L d L' := by
  unfold biD at h
  split at h
  · -- len of a text
    obtain ⟨e, rfl, he⟩ := ha.one
    split at h
    · rename_i hz
      cases h
      exact ev_lenS hm he hz hg (fun _ => star_one (plain1 hp))
    · cases h
  · -- len
    obtain ⟨e, rfl, he⟩ := ha.one
    have seq : ∀ {x : D} {ds : List D}, EV T Γ e δ L x M1 → seqOf M1 x = some ds → EV T Γ (.Call (.Name "len" p) [e] [] pos) δ L (.int ds.length) M1 := fun he q => ev_len hm he (seqOf_eq q) hg (fun _ => star_one (plain1 hp))
    split at h
    · split at h
      · rename_i q
        cases h
        exact ev_lenD hm he q hg (plain1 hp)
      · obtain ⟨h1, rfl⟩ := R.op_ok h
        rename_i q
        cases q2 : seqOf L' (.ref _) with
        | none => rw [q2] at h1; cases h1
        | some zs =>
          rw [q2] at h1
          cases h1
          exact seq he q2
    · obtain ⟨h1, rfl⟩ := R.op_ok h
      rename_i x _ _ _ _
      cases q2 : seqOf L' _ with
      | none => rw [q2] at h1; cases h1
      | some zs =>
        rw [q2] at h1
        cases h1
        exact seq he q2
  · -- sum
    obtain ⟨e, rfl, he⟩ := ha.one
    obtain ⟨h1, rfl⟩ := R.op_ok h
    cases q : (seqOf L' _).bind intsOf with
    | none => rw [q] at h1; cases h1
    | some ns =>
      rw [q] at h1
      cases h1
      cases q2 : seqOf L' _ with
      | none => rw [q2] at q; cases q
      | some ds =>
        rw [q2] at q
        have e2 : ds = ns.map D.int := ints_of q
        subst e2
        exact ev_sum hm he (seqOf_eq q2) hc hg (fun _ => star_one (plain1 hp))
  · -- tuple
    obtain ⟨e, rfl, he⟩ := ha.one
    split at h
    · cases h
      exact ev_tupleT hm he hg (fun _ => star_one (plain1 hp))
    · obtain ⟨h1, rfl⟩ := R.op_ok h
      cases q : lstOf L' _ with
      | none => rw [q] at h1; cases h1
      | some ds =>
        rw [q] at h1
        cases h1
        rcases lstOf_eq q with e1 | ⟨j, e1, e2⟩
        · rw [e1] at he
          exact ev_tupleL hm he hg (fun _ => star_one (plain1 hp))
        · rw [e1] at he
          exact ev_tupleC hm he e2 hg (fun _ => star_one (plain1 hp))
  · -- list
    obtain ⟨e, rfl, he⟩ := ha.one
    obtain ⟨h1, rfl⟩ := R.op_ok h
    cases q : seqOf L' _ with
    | none => rw [q] at h1; cases h1
    | some ds =>
      rw [q] at h1
      cases h1
      exact ev_listOf hm he (seqOf_eq q) hg (fun _ => star_one (plain1 hp))
  · -- sorted
    obtain ⟨e, rfl, he⟩ := ha.one
    obtain ⟨h1, rfl⟩ := R.op_ok h
    cases q : sortOf L' _ with
    | none => rw [q] at h1; cases h1
    | some ds =>
      rw [q] at h1
      have h2 : sortD ds = some d := h1
      unfold sortD at h2
      split at h2
      · rename_i ns q2
        cases h2
        rw [ints_of q2] at q
        exact ev_srtI hm he (sort_of q) hc hg (plain1 hp)
      · split at h2
        · rename_i ns q2
          cases h2
          rw [strs_of q2] at q
          exact ev_srtS hm he (sort_of q) hc hg (plain1 hp)
        · cases h2
  · -- str
    obtain ⟨e, rfl, he⟩ := ha.one
    split at h
    · rename_i hz
      cases h
      exact ev_strI hm he hz hg (plain1 hp)
    · cases h
  · obtain ⟨e, rfl, he⟩ := ha.one
    cases h
    exact ev_intB hm he hg (plain1 hp)
  · obtain ⟨e, rfl, he⟩ := ha.one
    cases h
    exact ev_intI hm he hg (plain1 hp)
  · obtain ⟨e, rfl, he⟩ := ha.one
    split at h
    · rename_i s hz
      obtain ⟨h1, rfl⟩ := R.op_ok h
      cases q : PySem.intText? s with
      | none => rw [q] at h1; cases h1
      | some n =>
        rw [q] at h1
        cases h1
        exact ev_intS hm he q hz hg (plain1 hp)
    · cases h
  · have hav := ha.av hp
    obtain ⟨e, f, M, rfl, he, hf⟩ := ha.two
    simp only [List.all_cons, Bool.and_eq_true] at hp
    cases h
    exact ev_max2 hm hav hc hg hp.1 hp.2.1
  · have hav := ha.av hp
    obtain ⟨e, f, M, rfl, he, hf⟩ := ha.two
    simp only [List.all_cons, Bool.and_eq_true] at hp
    cases h
    exact ev_min2 hm hav hc hg hp.1 hp.2.1
  · obtain ⟨e, rfl, he⟩ := ha.one
    split at h
    · rename_i q
      cases h
      exact en_dictD hm he (dict_rd q) hg (plain1 hp)
    · cases h
  · cases h
theorem bm_ev {m : Bm} {o : Expr} {xs : List Expr} {ds : List D} {j : Nat} (hb : baseOk o = true) (hp : xs.all plainE = true) (hl : (apos.endLine == pos.line) = true) (hc : Γ.c = true) (ho : EV T Γ o δ L (.ref j) M1) (ha : AVc T Γ δ xs M1 ds M2)
    (h1 : ∃ c, M1[j]? = some c ∧ (m = .append → ∃ ds, c = .list ds) ∧ (m = .pop ∨ m = .pop2 ∨ m = .get → ∃ kvs, c = .dict kvs) ∧ (m = .index → M2[j]? = some c)) (h : bmD m (.ref j) ds M2 = .ok d L') : EV T Γ (.Call (.Attribute o (bmN m) apos) xs [] pos) δ L d L' := by
  obtain ⟨c, hj, c1, c2, c3⟩ := h1
  unfold bmD at h
  split at h
  · obtain ⟨e, rfl, he⟩ := ha.one
    obtain ⟨zs, rfl⟩ := c1 rfl
    dsimp only at h
    split at h
    · rename_i q
      split at h
      · rename_i hz
        cases h
        exact ev_append ho ⟨_, hj⟩ he q hz hb (plain1 hp) hl
      · cases h
    · cases h
  · obtain ⟨e, rfl, he⟩ := ha.one
    obtain ⟨kvs, rfl⟩ := c2 (.inl rfl)
    split at h
    · rename_i q0 q1
      cases q0
      split at h
      · rename_i q
        split at h
        · rename_i q2
          cases h
          rw [key_of q1] at he
          exact ev_dpop ho ⟨_, hj⟩ he q q2 (fun X => m1_ok hb (plain1 hp) hl)
        · cases h
      · cases h
    · cases h
  · obtain ⟨e, f, M, rfl, he, hf⟩ := ha.two
    obtain ⟨kvs, rfl⟩ := c2 (.inr (.inl rfl))
    simp only [List.all_cons, Bool.and_eq_true] at hp
    split at h
    · rename_i q0 q1
      cases q0
      split at h
      · rename_i q
        rw [key_of q1] at he
        split at h
        · rename_i q2
          cases h
          have z := ev_dpop2 (L' := M2.set j (.dict (delA _ _))) ho ⟨_, hj⟩ he hf q (fun X => m2_ok hb hp.1 hp.2.1 hl) (by rw [q2]; rfl)
          rw [q2] at z
          exact z
        · rename_i q2
          cases h
          have z := ev_dpop2 (L' := M2) ho ⟨_, hj⟩ he hf q (fun X => m2_ok hb hp.1 hp.2.1 hl) (by rw [q2]; rfl)
          rw [q2] at z
          exact z
      · cases h
    · cases h
  · obtain ⟨e, f, M, rfl, he, hf⟩ := ha.two
    obtain ⟨kvs, rfl⟩ := c2 (.inr (.inr rfl))
    simp only [List.all_cons, Bool.and_eq_true] at hp
    split at h
    · rename_i q0 q1
      cases q0
      split at h
      · rename_i q
        rw [key_of q1] at he
        cases h
        exact ev_dget2 ho ⟨_, hj⟩ he hf q (fun X => m2_ok hb hp.1 hp.2.1 hl) hc
      · cases h
    · cases h
  · obtain ⟨e, rfl, he⟩ := ha.one
    dsimp only at h
    split at h
    · rename_i q
      split at h
      · rename_i hz
        cases h
        have hj2 := c3 rfl
        rw [q] at hj2
        cases hj2
        exact ev_xidx ho he hj q hz (fun _ => base_ok hb) (fun _ => few_ok hp (by simp)) hl (fun _ => star_one (plain1 hp))
      · cases h
    · cases h
  · cases h
end
end I
set_option Elab.async false
set_option linter.all false
set_option maxRecDepth 100000
set_option maxHeartbeats 4000000
/-! I6: targets, what is walked, comprehensions; expressions. -/
namespace I
open PySem PySem.Spec PyProof.Rows L2 G
open scoped Classical
/-! ### targets -/
def tgsOf : List Nat → TGs
  | [] => gNil
  | i :: is => gCons (gName i) (tgsOf is)
def tgOf (T : Sta) (t : List Nat) (tup : Bool) : TG := if tup = true then gTup T.K t.length (tgsOf t) else gName (t.headD 0)
section
variable {T : Sta} {C : Cfg} {k : Nat} {Φ : Calls} {N : List Str}
theorem names_plain {sc : Scope} {j : Nat} : ∀ {is : List Nat} {xs : List Expr}, namesB N sc j is xs = true → xs.all plainE = true ∧ xs.length = is.length
  | [], [], _ => ⟨rfl, rfl⟩
  | i :: is, x :: xs, h => by
    cases x <;> simp only [namesB] at h <;> try (cases h; done)
    simp only [Bool.and_eq_true] at h
    obtain ⟨h1, h2⟩ := names_plain h.2
    exact ⟨by rw [List.all_cons, h1]; rfl, by simp [h2]⟩
  | [], _ :: _, h => by cases h
  | _ :: _, [], h => by cases h
theorem names_tgs {Γ : GC} (hN : Γ.N = N) : ∀ {is : List Nat} {xs : List Expr}, namesB N Γ.sc 1 is xs = true → Tgs T Γ xs (tgsOf is)
  | [], [], _ => tg_nil
  | i :: is, x :: xs, h => by
    cases x <;> simp only [namesB] at h <;> try (cases h; done)
    simp only [Bool.and_eq_true, beq_iff_eq] at h
    exact tg_cons (tg_name i (by rw [hN]; exact h.1.1) (loc_of h.1.2)) (names_tgs hN h.2) (fun _ => assignE_cons rfl)
  | [], _ :: _, h => by cases h
  | _ :: _, [], h => by cases h
theorem names_tls {Γ : GC} (hN : Γ.N = N) : ∀ {is : List Nat} {xs : List Expr}, namesB N Γ.sc 2 is xs = true → TgLs T Γ xs (tgsOf is)
  | [], [], _ => tl_nil
  | i :: is, x :: xs, h => by
    cases x <;> simp only [namesB] at h <;> try (cases h; done)
    simp only [Bool.and_eq_true, beq_iff_eq] at h
    exact tl_cons (tl_name i (by rw [hN]; exact h.1.1) (lol_of h.1.2)) (names_tls hN h.2) (fun _ => assignE_cons rfl)
  | [], _ :: _, h => by cases h
  | _ :: _, [], h => by cases h
theorem tg_ok {Γ : GC} (hN : Γ.N = N) (hc : Γ.c = true) {t : List Nat} {tup : Bool} {x : Expr} (h : tgB N Γ.sc 1 t tup x = true) : Tgt T Γ x (tgOf T t tup) := by
  unfold tgB at h
  split at h
  · simp only [Bool.and_eq_true, beq_iff_eq] at h
    exact tg_name _ (by rw [hN]; exact h.1) (loc_of h.2)
  · obtain ⟨h1, h2⟩ := names_plain h
    exact tg_tup (n := t.length) (names_tgs (T := T) hN h) hc (fun env => by rw [assignE_len, h2]) (fun env => assignE_star h1)
  · cases h
theorem tl_ok {Γ : GC} (hN : Γ.N = N) (hc : Γ.c = true) {t : List Nat} {tup : Bool} {x : Expr} (h : tgB N Γ.sc 2 t tup x = true) : TgL T Γ x (tgOf T t tup) := by
  unfold tgB at h
  split at h
  · simp only [Bool.and_eq_true, beq_iff_eq] at h
    exact tl_name _ (by rw [hN]; exact h.1) (lol_of h.2)
  · obtain ⟨h1, h2⟩ := names_plain h
    exact tl_tup (n := t.length) (names_tls (T := T) hN h) hc (fun env => by rw [assignE_len, h2]) (fun env => assignE_star h1)
  · cases h
theorem gbs_ok : ∀ {is : List Nat} {ds : List D} {δ δ' : Env'}, bindMany is ds δ = some δ' → GBs T (tgsOf is) is ds δ δ' ∧ ds.length = is.length
  | [], [], δ, δ', h => by
    cases h
    exact ⟨gb_nil, rfl⟩
  | i :: is, d :: ds, δ, δ', h => by
    obtain ⟨h1, h2⟩ := gbs_ok (is := is) (ds := ds) h
    exact ⟨gb_cons gb_name h1, by simp [h2]⟩
  | [], _ :: _, _, _, h => by cases h
  | _ :: _, [], _, _, h => by cases h
theorem gb_ok {t : List Nat} {tup : Bool} {d : D} {δ δ' : Env'} (h : bindT t tup d δ = some δ') : GB T (tgOf T t tup) t d δ δ' := by
  unfold bindT at h
  split at h
  · cases h
    exact gb_name
  · obtain ⟨h1, h2⟩ := gbs_ok (T := T) h
    have z := gb_tup h1
    rw [h2] at z
    exact z
  · cases h
/-! ### what is walked -/
theorem items_iv {Γ : GC} {δ : Env'} {L M1 : Store} {tg a : Expr} {x : D} {its : Items} (ha : EV T Γ a δ L x M1) (h : itemsOf M1 x = some its) : IV T Γ tg a δ L its.P its.ds M1 := by
  unfold itemsOf at h
  split at h
  · cases h; exact iv_lst ha
  · cases h; exact iv_tup ha
  · cases h; exact iv_scr ha
  · cases h; exact iv_str ha
  · split at h
    · rename_i q
      cases h
      exact iv_cell ha q
    · rename_i q
      cases h
      exact iv_keys ha q
    · cases h
  · cases h
/-! ### displayed dicts -/
def trsOf (X : Cx) : List (Option Expr) → List Expr → List (L2.TE × L2.TE)
  | some k :: ks, v :: vs => (EXV X k, EXV X v) :: trsOf X ks vs
  | _, _ => []
theorem pps_of {X : Cx} {pos : Pos} : ∀ {ss : List Str} {keys : List (Option Expr)} {vals : List Expr}, keysB ss keys = true → keys.length = vals.length → L2.PPs X pos keys vals (trsOf X keys vals)
  | [], [], [], _, _ => pps_nil
  | s :: ss, some (.Constant (.str t) _ _) :: ks, v :: vs, h, hl => by
    have h' : (s == t && keysB ss ks) = true := h
    rw [Bool.and_eq_true] at h'
    exact pps_cons eself eself (pps_of h'.2 (by simpa using hl))
  | [], _ :: _, _, h, _ => by simp [keysB] at h
  | _ :: _, [], _, h, _ => by simp [keysB] at h
  | _ :: _, _ :: _, [], _, hl => by simp at hl
  | [], [], _ :: _, _, hl => by simp at hl
theorem pairs_ok {Γ : GC} {δ : Env'} {X : Cx} (F : Fit T Γ X) : ∀ {ss : List Str} {keys : List (Option Expr)} {vals : List Expr} {L M : Store} {ds : List D}, keysB ss keys = true → keys.length = vals.length → AVc T Γ δ vals L ds M →
    ∀ (g : Gw) (σ : L2.St), Wo T.K g L → EnvOk T.K g σ δ → ∀ Q : List (V × V) → Hp → Prop, (∀ xs g', Ext g g' → Wo T.K g' M → DtL T.K g' xs ds → Q ((ss.zip xs).map fun p => (V.str p.1, p.2)) g'.H) → tPairs (trsOf X keys vals) σ g.H Q
  | [], [], [], _, _, _, _, _, .nil, g, σ, W, E, Q, q => q [] g (.refl g) W .nil
  | s :: ss, some (.Constant (.str t) _ _) :: ks, v :: vs, _, _, _, h, hl, .cons hv r, g, σ, W, E, Q, q => by
    have h' : (s == t && keysB ss ks) = true := h
    rw [Bool.and_eq_true, beq_iff_eq] at h'
    obtain ⟨rfl, h'⟩ := h'
    show EXV X _ σ g.H _
    refine ev_str (T := T) (Γ := Γ) (δ := δ) X F g σ W E _ fun u g1 e1 W1 d1 => ?_
    cases d1
    refine hv X F g1 σ W1 (E.ext e1) _ fun w g2 e2 W2 d2 => ?_
    exact pairs_ok F h' (by simpa using hl) r g2 σ W2 ((E.ext e1).ext e2) _ fun xs g3 e3 W3 d3 => q (w :: xs) g3 ((e1.trans e2).trans e3) W3 (.cons (d2.ext e3) d3)
  | [], _ :: _, _, _, _, _, h, _, _, _, _, _, _, _, _ => by simp [keysB] at h
  | _ :: _, [], _, _, _, _, h, _, _, _, _, _, _, _, _ => by simp [keysB] at h
  | _ :: _, _ :: _, [], _, _, _, _, hl, _, _, _, _, _, _, _ => by simp at hl
  | [], [], _ :: _, _, _, _, _, hl, _, _, _, _, _, _, _ => by simp at hl
theorem KvR.merge {K : PySem.W.Frag} {g : Gw} : ∀ {kv : List (L2.Key × V)} {kvs : List (L2.Key × D)} {acc accd}, KvR K g kv kvs → KvR K g acc accd → KvR K g (mergeK acc kv) (kvs.foldl (fun l p => putA p.1 p.2 l) accd)
  | _, _, _, _, .nil, h => h
  | _, _, acc, accd, .cons (a := p) (b := q) h t, h2 => by
    obtain ⟨e1, r1⟩ := h
    have h3 := h2.put (k := p.1) r1
    rw [List.foldl_cons, ← e1]
    have r := KvR.merge t h3
    exact r
theorem putA_new {α β : Type} [DecidableEq β] {k : β} {v : α} {l : List (β × α)} (h : k ∉ l.map (·.1)) : putA k v l = l ++ [(k, v)] := by
  unfold putA
  rw [if_neg]
  intro z
  obtain ⟨p, hp, e⟩ := List.any_eq_true.mp z
  exact h (List.mem_map.mpr ⟨p, hp, of_decide_eq_true e⟩)
theorem foldl_put {α β : Type} [DecidableEq β] : ∀ (kvs acc : List (β × α)), ((acc ++ kvs).map (·.1)).Nodup → kvs.foldl (fun l p => putA p.1 p.2 l) acc = acc ++ kvs
  | [], acc, _ => by simp
  | (k, v) :: r, acc, h => by
    have h2 : k ∉ acc.map (·.1) := by
      rw [List.map_append, List.map_cons] at h
      have := (List.nodup_append.mp h).2.2
      intro z
      exact this k z k List.mem_cons_self rfl
    rw [List.foldl_cons, putA_new h2, foldl_put r (acc ++ [(k, v)]) (by simpa using h), List.append_assoc]
    rfl
theorem zip_keys {ks : List Str} {ds : List D} (h : ds.length = ks.length) : ((ks.map (Sum.inr : Str → L2.Key)).zip ds).map (·.1) = ks.map Sum.inr := by
  rw [List.map_fst_zip]
  simp [h]
theorem KvR.zip {K : PySem.W.Frag} {g : Gw} : ∀ {ks : List Str} {xs : List V} {ds : List D}, DtL K g xs ds → KvR K g ((ks.map (Sum.inr : Str → L2.Key)).zip xs) ((ks.map Sum.inr).zip ds)
  | [], _, _, _ => .nil
  | _ :: _, _, _, .nil => .nil
  | k :: ks, _, _, .cons h r => .cons ⟨rfl, h⟩ (KvR.zip r)
/-- {"k": v, ..} -/
theorem en_disp {Γ : GC} {δ : Env'} {L M : Store} {ks : List Str} {keys : List (Option Expr)} {vals : List Expr} {ds : List D} {pos : Pos} (hk : keysB ks keys = true) (hn : ks ≠ []) (hl : keys.length = vals.length) (h15 : keys.length ≤ 15) (ha : AVc T Γ δ vals (L ++ [.dict []]) ds M) (hM : M[L.length]? = some (.dict [])) (hd : ds.length = ks.length) (hnd : ks.Nodup) :
    EV T Γ (.Dict keys vals pos) δ L (.ref L.length) (M.set L.length (.dict ((ks.map Sum.inr).zip ds))) := fun X F g σ W E Q q => by
  have hkl : ∀ {ss : List Str} {keys : List (Option Expr)}, keysB ss keys = true → keys.length = ss.length ∧ keys.all (·.isSome) = true := by
    intro ss
    induction ss with
    | nil =>
      intro keys h
      cases keys with
      | nil => exact ⟨rfl, rfl⟩
      | cons _ _ => simp [keysB] at h
    | cons s ss ih =>
      intro keys h
      cases keys with
      | nil => simp [keysB] at h
      | cons k keys =>
        unfold keysB at h
        split at h
        · rename_i e _
          cases e
        · rename_i e1 e2
          cases e1
          cases e2
          rw [Bool.and_eq_true] at h
          obtain ⟨i1, i2⟩ := ih h.2
          exact ⟨by simp [i1], by simp [i2]⟩
        · cases h
  obtain ⟨kl, kall⟩ := hkl hk
  refine eby (pe_disp (pps_of hk hl) kall hl (fun e => hn (by rw [e] at kl; exact List.length_eq_zero_iff.mp kl.symm)) h15) fun p hp => ?_
  obtain ⟨e1, W1, d1⟩ := new_cell W hp (o := HO.dK []) (c := .dict []) fun g' eg => by
    subst eg
    exact ⟨by rw [cell_ι]; exact cell_own, [], by rw [cell_ι]; exact upd_same, .nil⟩
  have hH : upd g.H p (.dK []) = (g.cell p (.dK [])).H := rfl
  rw [hH]
  refine pairs_ok F hk hl ha _ σ W1 (E.ext e1) _ fun xs g2 e2 W2 d2 => ?_
  have hlt : L.length < (g.cell p (.dK [])).n := by
    show L.length < g.n + 1
    rw [W.n]
    exact Nat.lt_succ_self _
  have hi : g2.ι L.length = p := by
    rw [e2.ι _ hlt]
    have := cell_ι (g := g) (p := p) (o := HO.dK [])
    rw [W.n] at this
    exact this
  obtain ⟨w, kv, k1, k2⟩ := W2.dict hM
  rw [hi] at w k1
  have hkv : kv = [] := by
    cases k2
    rfl
  subst hkv
  have hz : ((ks.map (Sum.inr : Str → L2.Key)).zip xs).map (fun kv => (kV kv.1, kv.2)) = (ks.zip xs).map fun p => (V.str p.1, p.2) := by
    rw [List.zip_map_left, List.map_map]
    rfl
  refine ⟨k1, (ks.map Sum.inr).zip xs, hz.symm, by simp; omega, ?_⟩
  have w2 : g2.own (g2.ι L.length) = .cell L.length := by rw [hi]; exact w
  have e3 := put_ext (o := HO.dK (mergeK [] ((ks.map Sum.inr).zip xs))) w2
  have r := q (.ref p) (g2.put L.length (.dK (mergeK [] ((ks.map Sum.inr).zip xs)))) ((e1.trans e2).trans e3) (W2.put hM w2 ⟨w2, _, upd_same, by
    have m := KvR.merge (KvR.zip (ks := ks) (d2.ext e3)) (KvR.zip (K := T.K) (g := g2.put L.length (.dK (mergeK [] ((ks.map Sum.inr).zip xs)))) (ks := []) (xs := []) (ds := []) .nil)
    rw [foldl_put _ _ (by
      show (([] ++ _).map _).Nodup
      rw [List.nil_append, zip_keys hd]
      exact List.pairwise_map.mpr (hnd.imp fun {a b} ne e => ne (by injection e)))] at m
    exact m⟩) (by
      have z := Dt.ref (K := T.K) (g := g2.put L.length (.dK (mergeK [] ((ks.map Sum.inr).zip xs)))) (k := L.length) (Nat.lt_of_lt_of_le hlt e2.n)
      have e4 : (g2.put L.length (.dK (mergeK [] ((ks.map Sum.inr).zip xs)))).ι L.length = p := hi
      rw [e4] at z
      exact z)
  have eH : (g2.put L.length (.dK (mergeK [] ((ks.map Sum.inr).zip xs)))).H = upd g2.H p (.dK (mergeK [] ((ks.map Sum.inr).zip xs))) := by
    show upd g2.H (g2.ι L.length) _ = _
    rw [hi]
  rw [eH] at r
  exact r
structure SndI (T : Sta) (Γ : GC) (Φ : Calls) (x : Expr) (it : It) : Prop where
  iv : ∀ tg, (needT it = true → ∃ es j p, tg = .Tuple es j p) → ∀ δ L its L', evi Φ it δ L = .ok its L' → IV T Γ tg x δ L its.P its.ds L'
/-! ### comprehensions -/
theorem lcL_eq {step : D → Option (Option D)} : ∀ {ds ys : List D}, lcL step ds = some ys → ys = ds.filterMap (fun d => (step d).getD none) ∧ ∀ d ∈ ds, ∃ o, step d = some o
  | [], ys, h => by
    cases h
    exact ⟨rfl, nofun⟩
  | d :: ds, ys, h => by
    unfold lcL at h
    split at h
    · rename_i y ys' q1 q2
      cases h
      obtain ⟨h1, h2⟩ := lcL_eq q2
      refine ⟨?_, fun e he => ?_⟩
      · rw [List.filterMap_cons, q1]
        show y :: ys' = y :: _
        rw [← h1]
      · rcases List.mem_cons.mp he with rfl | he
        · exact ⟨_, q1⟩
        · exact h2 e he
    · rename_i ys' q1 q2
      cases h
      obtain ⟨h1, h2⟩ := lcL_eq q2
      refine ⟨?_, fun e he => ?_⟩
      · rw [List.filterMap_cons, q1]
        exact h1
      · rcases List.mem_cons.mp he with rfl | he
        · exact ⟨_, q1⟩
        · exact h2 e he
    · cases h
theorem own_snd {own : List Nat} : (ownOf N own).map (·.2) = own := by
  induction own with
  | nil => rfl
  | cons i r ih =>
    show i :: (ownOf N r).map (·.2) = i :: r
    rw [ih]
/-- a comprehension's test and element, from their own soundness -/
theorem lc_turn {Γ : GC} {scope : Scope} {xe : Expr} {elt : E} {oc : Option Expr} {c : Oe} {t : List Nat} {tup : Bool} {own : List Nat} {δ : Env'} {L1 : Store} {ds ys : List D}
    (he : Snd T C (Γ.blk scope) Φ xe elt) (hcd : ∀ δ1 b, evc Φ c δ1 L1 = some b → TTv T (Γ.blk scope) oc δ1 L1 b)
    (h : lcL (lcStep (fun d => bindT t tup d (wipeE δ own)) (fun δ1 => evc Φ c δ1 L1) (fun δ1 => ev Φ elt δ1 L1) L1) ds = some ys) :
    ∃ f : D → Option D, ys = ds.filterMap f ∧ ∀ (i : Nat) (d : D), ds[i]? = some d → ∃ δ1, GB T (tgOf T t tup) t d (wipeE δ ((ownOf N own).map (·.2))) δ1 ∧ TTv T (Γ.blk scope) oc δ1 L1 (f d).isSome ∧ ∀ y, f d = some y → EV T (Γ.blk scope) xe δ1 L1 y L1 := by
  obtain ⟨h1, h2⟩ := lcL_eq h
  refine ⟨_, h1, fun i d hd => ?_⟩
  obtain ⟨o, ho⟩ := h2 d (List.mem_of_getElem? hd)
  rw [own_snd, ho]
  unfold lcStep at ho
  split at ho
  · cases ho
  · rename_i δ1 hb
    refine ⟨δ1, gb_ok hb, ?_⟩
    split at ho
    · cases ho
    · rename_i hq
      cases ho
      exact ⟨hcd _ _ hq, fun y hy => by cases hy⟩
    · rename_i hq
      split at ho
      · rename_i y L2 hy
        split at ho
        · rename_i e2
          subst e2
          cases ho
          exact ⟨hcd _ _ hq, fun z hz => by
            cases hz
            exact he.ok _ _ _ _ hy⟩
        · cases ho
      · cases ho
/-! ### soundness of expressions -/
/-- a list of expressions -/
structure SndL (T : Sta) (C : Cfg) (Γ : GC) (Φ : Calls) (xs : List Expr) (es : Es) : Prop where
  ok : ∀ δ L ds L', evs Φ es δ L = .ok ds L' → AVc T Γ δ xs L ds L'
  nx : ∀ δ L X L', evs Φ es δ L ≠ .ex X L'
  bok : ∀ pos j, xs ≠ [] → (∀ δ L d L', evb Φ j es δ L = .ok d L' → EV T Γ (.BoolOp (if j = true then .And else .Or) xs pos) δ L d L') ∧ (∀ δ L X L', evb Φ j es δ L = .ex X L' → False) ∧
    (tOk.tOks es = true → ∀ δ L b L', (evb Φ j es δ L).bd (fun x L1 => R.op (x.truth L1) L1) = .ok b L' → WV T Γ (.BoolOp (if j = true then .And else .Or) xs pos) δ L b L')
end
end I
set_option Elab.async false
set_option linter.all false
set_option maxRecDepth 100000
set_option maxHeartbeats 4000000
/-! I7: soundness of expressions. -/
namespace I
open PySem PySem.Spec PyProof.Rows L2 G
open scoped Classical
section
variable {T : Sta} {C : Cfg} {k : Nat} {Φ : Calls} {N : List Str}
abbrev gc (N : List Str) (k : Nat) (sc : Scope) : GC := ⟨N, sc, k, true⟩
theorem icop_ok {o : Cop} {p : CmpOp} (h : icopB o p = true) : ∀ X : Cx, OpR X (compareOp p) (rI0 fun i j => .bl (icmp o i j)) := fun X => by
  cases o <;> cases p <;> first | (cases h; done) | skip
  · exact op_lt
  · exact op_le
  · exact op_gt
  · exact op_ge
theorem contains_mem {α : Type} [BEq α] [LawfulBEq α] {l : List α} {a : α} (h : l.contains a = true) : a ∈ l := by simpa using h
/-- what is raised: never, by the form of the rule -/
theorem opx {α β : Type} {r : R α} {f : α → Store → Option β} {X : Str} {L : Store} : (r.bd fun x L1 => R.op (f x L1) L1) ≠ .ex X L := fun h => by
  obtain ⟨a, M, _, h2⟩ := R.bd_ex' h
  exact R.op_nex h2
theorem strs_av {Γ : GC} {δ : Env'} : ∀ {ss : List Str} {xs : List Expr} {L : Store}, strsB ss xs = true → AV T Γ xs δ L (ss.map D.str) L
  | [], [], _, _ => av_nil
  | s :: ss, x :: xs, L, h => by
    cases x <;> try (cases h; done)
    rename_i v _ _
    cases v <;> try (cases h; done)
    have h' : (s == _ && strsB ss xs) = true := h
    rw [Bool.and_eq_true, beq_iff_eq] at h'
    rw [h'.1]
    exact av_cons ev_str (strs_av h'.2) (fun _ => star_cons rfl)
  | [], _ :: _, _, h => by cases h
  | _ :: _, [], _, h => by cases h
theorem int_of {d : D} {i : Int} (h : intOf d = some i) : d = .int i := by
  cases d <;> first | (cases h; rfl) | cases h
/-- what a called def ends with -/
theorem out_ok {P : Out → Store → Prop} {r : R D} {d : D} {L : Store} (h : OutOk C P r) (e : r = .ok d L) : P (.rt d) L := by
  rw [e] at h
  exact h
theorem out_ex {P : Out → Store → Prop} {r : R D} {X : Str} {L : Store} (h : OutOk C P r) (e : r = .ex X L) : C.excs.contains X = true ∧ P (.ex X) L := by
  rw [e] at h
  exact h
theorem bi_nex {b : Bi} {ds : List D} {L L' : Store} {X : Str} (h : biD b ds L = .ex X L') : False := by
  unfold biD at h
  repeat' split at h
  all_goals first | cases h; done | exact R.op_nex h
theorem bm_nex {m : Bm} {x : D} {ds : List D} {L L' : Store} {X : Str} (h : bmD m x ds L = .ex X L') : False := by
  unfold bmD at h
  repeat' split at h
  all_goals first | cases h; done | exact R.op_nex h
theorem own_all {t own : List Nat} (h : (t.all (own.contains ·)) = true) : ∀ j ∈ t, j ∈ own := fun j hj => by
  have := List.all_eq_true.mp h j hj
  simpa using this
theorem tup_of {sc : Scope} {j : Nat} {t : List Nat} {tup : Bool} {x : Expr} {it : It} (h : tgB N sc j t tup x = true) (h2 : (!needT it || tup) = true) : needT it = true → ∃ es j p, x = .Tuple es j p := fun e => by
  rw [e] at h2
  have e2 : tup = true := by simpa using h2
  subst e2
  unfold tgB at h
  split at h
  · rename_i q
    cases q
  · exact ⟨_, _, _, rfl⟩
  · cases h
theorem evc_tv {Γ : GC} {x : Expr} {e : E} {δ : Env'} {L : Store} {b : Bool} (s : Snd T C Γ Φ x e) (ht : tOk e = true) (h : evc Φ (.some e) δ L = some b) : TTv T Γ (some x) δ L b := by
  unfold evc at h
  split at h
  · rename_i y L1 q
    split at h
    · rename_i e1
      subst e1
      refine s.tv ht _ _ _ _ ?_
      unfold tst
      rw [q]
      show R.op (y.truth _) _ = _
      rw [h]
      rfl
    · cases h
  · cases h
theorem isi_ev {Γ : GC} {δ : Env'} {L M1 : Store} {e : Expr} {n : String} {p p2 pos : Pos} {t : Bool} {y : D} (hm : T.mg "isinstance" = none) (hm2 : T.mg (n : Str) = none) (ha : EV T Γ e δ L y M1) (h : isiD M1 y n = some t) (hn : (n == "int" || n == "bool" || n == "str" || n == "tuple" || n == "list" || n == "dict") = true) (hg : GlS Γ.sc "isinstance")
    (hg2 : GlS Γ.sc (n : Str) ∧ ((n : Str) == ("__debug__" : Str)) = false ∧ (n : Str) ≠ ("__name__" : Str)) (he : plainE e = true) : EV T Γ (.Call (.Name "isinstance" p) [e, .Name (n : Str) p2] [] pos) δ L (.bl t) M1 := by
  have hv : bootBuiltins (n : Str) = some (.type n) := by
    simp only [Bool.or_eq_true, beq_iff_eq] at hn
    rcases hn with ((((rfl | rfl) | rfl) | rfl) | rfl) | rfl <;> decide +kernel
  refine ev_isiX hm ha (fun g v W d => ?_) hm2 hv hg2.1 hg2.2.2 hg2.2.1 hg he
  have plain : y.isK n = some t → ∃ t', TyX T.K g.H v t' ∧ PySem.W.kitOne T.K t' (.type n) = some t := fun h => isK_at d h
  cases y with
  | ref j =>
    unfold isiD at h
    dsimp only at h
    split at h
    · rename_i q
      exact ⟨_, (isN_cell W d q).1 _ rfl, kit_ty h⟩
    · rename_i q
      exact ⟨_, (isN_cell W d q).2 _ rfl, kit_ty h⟩
    · cases h
  | _ => exact plain h
theorem keys_nil {Γ : GC} {δ : Env'} {L : Store} {keys : List (Option Expr)} {vals : List Expr} {pos : Pos} (h : keysB [] keys = true) (hl : keys.length = vals.length) : EV T Γ (.Dict keys vals pos) δ L (.ref L.length) (L ++ [.dict []]) := by
  cases keys with
  | nil =>
    cases vals with
    | nil => exact en_dict
    | cons _ _ => cases hl
  | cons _ _ => cases h
mutual
theorem sndE (G : Good T C) (P : PhiOk T C k Φ) : ∀ (e : E) (sc : Scope) (x : Expr), chkE C N e sc x = true → Snd T C (gc N k sc) Φ x e
  | .non, sc, x, h => by
    unfold chkE at h
    split at h
    · exact .plainN (fun δ L d L' q => by cases q; exact ev_non) (fun δ L X L' q => by cases q) rfl
    · cases h
  | .bl b, sc, x, h => by
    unfold chkE at h
    split at h
    · cases beq_iff_eq.mp h
      exact .plainN (fun δ L d L' q => by cases q; exact ev_bl) (fun δ L X L' q => by cases q) rfl
    · cases h
  | .int b, sc, x, h => by
    unfold chkE at h
    split at h
    · cases beq_iff_eq.mp h
      exact .plainN (fun δ L d L' q => by cases q; exact ev_int) (fun δ L X L' q => by cases q) rfl
    · cases h
  | .str b, sc, x, h => by
    unfold chkE at h
    split at h
    · cases beq_iff_eq.mp h
      exact .plainN (fun δ L d L' q => by cases q; exact ev_str) (fun δ L X L' q => by cases q) rfl
    · cases h
  | .var i, sc, x, h => by
    unfold chkE at h
    split at h
    · simp only [Bool.and_eq_true, beq_iff_eq, Bool.not_eq_true', dunder] at h
      refine .plainN (fun δ L d L' q => ?_) (fun δ L X L' q => ?_) rfl
      · unfold ev at q
        split at q
        · rename_i q1
          cases q
          exact ev_name i h.1.1.1 q1 (vis_of h.1.1.2) h.1.2 h.2
        · cases q
      · unfold ev at q
        split at q <;> cases q
    · cases h
  | .gint n i, sc, x, h => by
    unfold chkE at h
    split at h
    · simp only [Bool.and_eq_true, beq_iff_eq] at h
      obtain ⟨g1, g2, _⟩ := glob_of h.2
      refine .plainN (fun δ L d L' q => ?_) (fun δ L X L' q => by cases q) rfl
      cases q
      rw [h.1.1]
      exact ev_kint (G.gi _ _ h.1.2) g1 g2
    · cases h
  | .gstr n s, sc, x, h => by
    unfold chkE at h
    split at h
    · simp only [Bool.and_eq_true, beq_iff_eq] at h
      obtain ⟨g1, g2, _⟩ := glob_of h.2
      refine .plainN (fun δ L d L' q => ?_) (fun δ L X L' q => by cases q) rfl
      cases q
      rw [h.1.1]
      obtain ⟨t, hm⟩ := G.gs _ _ h.1.2
      exact ev_glob (v := .str s) hm ⟨t, rfl⟩ (fun g => .str s) g1 g2
    · cases h
  | .gtup n ss, sc, x, h => by
    unfold chkE at h
    split at h
    · simp only [Bool.and_eq_true, beq_iff_eq] at h
      obtain ⟨g1, g2, _⟩ := glob_of h.2
      refine .plainN (fun δ L d L' q => ?_) (fun δ L X L' q => by cases q) rfl
      cases q
      rw [h.1.1]
      obtain ⟨h1, h2⟩ := G.gt _ _ h.1.2
      exact ev_kx h1 h2 g1 g2
    · cases h
  | .gidx n ss a, sc, x, h => by
    unfold chkE at h
    split at h
    · simp only [Bool.and_eq_true, beq_iff_eq] at h
      obtain ⟨⟨⟨⟨⟨⟨h1, h2⟩, h3⟩, h4⟩, h5⟩, h6⟩, h7⟩ := h
      obtain ⟨g1, g2, _⟩ := glob_of h3
      have ih := sndE G P a sc _ h7
      subst h4 h1
      refine .plainN (fun δ L d L' q => ?_) (fun δ L X L' q => ?_) rfl
      · unfold ev at q
        obtain ⟨y, M, q1, q2⟩ := R.bd_eq q
        split at q2
        · split at q2
          · rename_i hz
            cases q2
            obtain ⟨k1, k2⟩ := G.gt _ _ h2
            exact ev_kidx k1 k2 (ih.ok _ _ _ _ q1) hz g1 g2 (fun _ => rfl) (fun _ => few_ok (by rw [List.all_cons, h6]; rfl) (by simp)) (by simpa using h5) (fun _ => star_one h6)
          · cases q2
        · cases q2
      · unfold ev at q
        obtain ⟨y, M, q1, q2⟩ := R.bd_ex' q
        split at q2
        · split at q2 <;> cases q2
        · cases q2
    · cases h
  | .gin n kvs a, sc, x, h => by
    unfold chkE at h
    split at h
    · simp only [Bool.and_eq_true, beq_iff_eq] at h
      obtain ⟨⟨⟨h1, h2⟩, h3⟩, h4⟩ := h
      have ih := sndE G P a sc _ h4
      obtain ⟨g1, g2, _⟩ := glob_of h3
      obtain ⟨k1, ⟨es, m, k2⟩, k3⟩ := G.gk _ _ h2
      rw [h1]
      have key : ∀ δ L d L', ev Φ (.gin n kvs a) δ L = .ok d L' → d = .bl true ∧ ∃ z, ev Φ a δ L = .ok (.str z) L' ∧ (lkA z kvs).isSome = true := fun δ L d L' q => by
        unfold ev at q
        obtain ⟨y, M, q1, q2⟩ := R.bd_eq q
        split at q2
        · rename_i z
          split at q2
          · rename_i hz
            cases q2
            exact ⟨rfl, z, q1, hz⟩
          · cases q2
        · cases q2
      refine ⟨fun δ L d L' q => ?_, fun δ L X L' q => ?_, fun _ δ L t L' q => ?_⟩
      · obtain ⟨rfl, z, q1, hz⟩ := key _ _ _ _ q
        obtain ⟨i, hi⟩ := Option.isSome_iff_exists.mp hz
        obtain ⟨u, u1, u2⟩ := k3 z i hi
        exact (ev_gin k1 k2 u1 (ih.ok _ _ _ _ q1) g1 g2).1
      · unfold ev at q
        obtain ⟨y, M, q1, q2⟩ := R.bd_ex' q
        split at q2
        · split at q2 <;> cases q2
        · cases q2
      · obtain ⟨d, q1, q2⟩ := tst_eq q
        obtain ⟨rfl, z, r1, hz⟩ := key _ _ _ _ q1
        cases q2
        obtain ⟨i, hi⟩ := Option.isSome_iff_exists.mp hz
        obtain ⟨u, u1, u2⟩ := k3 z i hi
        exact (ev_gin k1 k2 u1 (ih.ok _ _ _ _ r1) g1 g2).2
    · cases h
  | .gget n kvs a, sc, x, h => by
    unfold chkE at h
    split at h
    · simp only [Bool.and_eq_true, beq_iff_eq] at h
      obtain ⟨⟨⟨⟨h1, h2⟩, h3⟩, h5⟩, h4⟩ := h
      have ih := sndE G P a sc _ h4
      obtain ⟨g1, g2, _⟩ := glob_of h3
      obtain ⟨k1, ⟨es, m, k2⟩, k3⟩ := G.gk _ _ h2
      subst h1
      refine .plainN (fun δ L d L' q => ?_) (fun δ L X L' q => ?_) rfl
      · unfold ev at q
        obtain ⟨y, M, q1, q2⟩ := R.bd_eq q
        split at q2
        · rename_i z
          obtain ⟨q3, rfl⟩ := R.op_ok q2
          cases hi : lkA z kvs with
          | none => rw [hi] at q3; cases q3
          | some i =>
            rw [hi] at q3
            cases q3
            obtain ⟨u, u1, u2⟩ := k3 z i hi
            exact ev_gget k1 k2 u1 u2 (ih.ok _ _ _ _ q1) (pix_ok h5) g1 g2
        · cases q2
      · unfold ev at q
        obtain ⟨y, M, q1, q2⟩ := R.bd_ex' q
        split at q2
        · exact R.op_nex q2
        · cases q2
    · cases h
  | .lk a e, sc, x, h => by
    unfold chkE at h
    rw [Bool.and_eq_true] at h
    have ih := sndE G P e sc x h.2
    refine .plainN (fun δ L d L' q => ?_) (fun δ L X L' q => ?_) h.1
    · unfold ev at q
      split at q
      · split at q
        · rename_i hk
          split at q
          · rename_i q2
            split at q
            · rename_i hl
              cases q
              exact ev_lock hk (ih.ok _ _ _ _ q2) hl
            · cases q
          · cases q
        · cases q
      · cases q
    · unfold ev at q
      split at q
      · split at q
        · split at q
          · split at q <;> cases q
          · cases q
        · cases q
      · cases q
  | .bin op a b, sc, x, h => by
    unfold chkE at h
    split at h
    · simp only [Bool.and_eq_true] at h
      have ia := sndE G P a sc _ h.1.2
      have ib := sndE G P b sc _ h.2
      refine .plainN (fun δ L d L' q => ?_) (fun δ L X L' q => ?_) rfl
      · unfold ev at q
        obtain ⟨y, M, q1, q⟩ := R.bd_eq q
        obtain ⟨z, M', q2, q⟩ := R.bd_eq q
        obtain ⟨q3, rfl⟩ := R.op_ok q
        exact bin_ev h.1.1 (ia.ok _ _ _ _ q1) (ib.ok _ _ _ _ q2) q3
      · unfold ev at q
        obtain ⟨y, M, q1, q⟩ := R.bd_ex' q
        exact opx q
    · cases h
  | .neg a, sc, x, h => by
    unfold chkE at h
    split at h
    · have ia := sndE G P a sc _ h
      refine .plainN (fun δ L d L' q => ?_) (fun δ L X L' q => ?_) rfl
      · unfold ev at q
        obtain ⟨y, M, q1, q⟩ := R.bd_eq q
        obtain ⟨q3, rfl⟩ := R.op_ok q
        cases y with
        | int i =>
          cases q3
          exact ev_neg (ia.ok _ _ _ _ q1)
        | _ => cases q3
      · unfold ev at q
        exact opx q
    · cases h
  | .cmp op a b, sc, x, h => by
    unfold chkE at h
    split at h
    · simp only [Bool.and_eq_true] at h
      have ia := sndE G P a sc _ h.1.2
      have ib := sndE G P b sc _ h.2
      have key : ∀ δ L d L', ev Φ (.cmp op a b) δ L = .ok d L' → ∃ t y z M, d = .bl t ∧ ev Φ a δ L = .ok y M ∧ ev Φ b δ M = .ok z L' ∧ cmpD op L' y z = some t := fun δ L d L' q => by
        unfold ev at q
        obtain ⟨y, M, q1, q⟩ := R.bd_eq q
        obtain ⟨z, M', q2, q⟩ := R.bd_eq q
        obtain ⟨q3, rfl⟩ := R.op_ok q
        cases q4 : cmpD op L' y z with
        | none => rw [q4] at q3; cases q3
        | some t =>
          rw [q4] at q3
          cases q3
          exact ⟨t, y, z, M, rfl, q1, q2, q4⟩
      refine ⟨fun δ L d L' q => ?_, fun δ L X L' q => ?_, fun _ δ L t L' q => ?_⟩
      · obtain ⟨t, y, z, M, rfl, q1, q2, q3⟩ := key _ _ _ _ q
        exact (cmp_ev h.1.1.1 (ia.ok _ _ _ _ q1) (ib.ok _ _ _ _ q2) rfl h.1.1.2 q3).1
      · unfold ev at q
        obtain ⟨y, M, q1, q⟩ := R.bd_ex' q
        exact absurd q opx
      · obtain ⟨d, q1, q2⟩ := tst_eq q
        obtain ⟨t', y, z, M, rfl, r1, r2, r3⟩ := key _ _ _ _ q1
        cases q2
        exact (cmp_ev h.1.1.1 (ia.ok _ _ _ _ r1) (ib.ok _ _ _ _ r2) rfl h.1.1.2 r3).2
    · cases h
  | .isN a, sc, x, h => by
    unfold chkE at h
    split at h
    · have ia := sndE G P a sc _ h
      refine ⟨fun δ L d L' q => ?_, fun δ L X L' q => ?_, fun _ δ L t L' q => ?_⟩
      · unfold ev at q
        obtain ⟨y, M, q1, q⟩ := R.bd_eq q
        cases q
        exact ev_isN (ia.ok _ _ _ _ q1)
      · unfold ev at q
        obtain ⟨y, M, q1, q⟩ := R.bd_ex' q
        cases q
      · obtain ⟨d, q1, q2⟩ := tst_eq q
        unfold ev at q1
        obtain ⟨y, M, q1, q⟩ := R.bd_eq q1
        cases q
        cases q2
        exact tv_isN (ia.ok _ _ _ _ q1)
    · cases h
  | .notN a, sc, x, h => by
    unfold chkE at h
    split at h
    · have ia := sndE G P a sc _ h
      refine ⟨fun δ L d L' q => ?_, fun δ L X L' q => ?_, fun _ δ L t L' q => ?_⟩
      · unfold ev at q
        obtain ⟨y, M, q1, q⟩ := R.bd_eq q
        cases q
        exact ev_notN (ia.ok _ _ _ _ q1)
      · unfold ev at q
        obtain ⟨y, M, q1, q⟩ := R.bd_ex' q
        cases q
      · obtain ⟨d, q1, q2⟩ := tst_eq q
        unfold ev at q1
        obtain ⟨y, M, q1, q⟩ := R.bd_eq q1
        cases q
        cases q2
        exact tv_notN (ia.ok _ _ _ _ q1)
    · cases h
  | .chain o1 o2 a b c, sc, x, h => by
    unfold chkE at h
    split at h
    · simp only [Bool.and_eq_true] at h
      obtain ⟨⟨⟨⟨⟨h1, h2⟩, h3⟩, h4⟩, h5⟩, h6⟩ := h
      have ia := sndE G P a sc _ h4
      have ib := sndE G P b sc _ h5
      have ic := sndE G P c sc _ h6
      have key : ∀ δ L d L', ev Φ (.chain o1 o2 a b c) δ L = .ok d L' → ∃ i j l M, d = .bl (icmp o1 i j && icmp o2 j l) ∧ ev Φ a δ L = .ok (.int i) M ∧ ev Φ b δ M = .ok (.int j) L' ∧ ev Φ c δ L' = .ok (.int l) L' := fun δ L d L' q => by
        unfold ev at q
        obtain ⟨y, M, q1, qa⟩ := R.bd_eq q
        obtain ⟨z, M', q2, qb⟩ := R.bd_eq qa
        obtain ⟨w, M'', q3, qc⟩ := R.bd_eq qb
        clear q qa qb
        revert qc
        intro q
        split at q
        · rename_i e1 e2 e3
          rw [int_of e1] at q1
          rw [int_of e2] at q2
          rw [int_of e3] at q3
          split at q
          · rename_i e
            subst e
            cases q
            exact ⟨_, _, _, _, rfl, q1, q2, q3⟩
          · cases q
        · cases q
      refine ⟨fun δ L d L' q => ?_, fun δ L X L' q => ?_, fun _ δ L t L' q => ?_⟩
      · obtain ⟨i, j, l, M, rfl, q1, q2, q3⟩ := key _ _ _ _ q
        exact ev_chain (icop_ok h1) (icop_ok h2) (ia.ok _ _ _ _ q1) (ib.ok _ _ _ _ q2) (ic.ok _ _ _ _ q3) (lmarks_ok h3)
      · unfold ev at q
        obtain ⟨y, M, q1, qa⟩ := R.bd_ex' q
        obtain ⟨z, M', q2, qb⟩ := R.bd_ex' qa
        obtain ⟨w, M'', q3, qc⟩ := R.bd_ex' qb
        clear q qa qb
        revert qc
        intro q
        split at q
        · split at q <;> cases q
        · cases q
      · obtain ⟨d, q1, q2⟩ := tst_eq q
        obtain ⟨i, j, l, M, rfl, r1, r2, r3⟩ := key _ _ _ _ q1
        cases q2
        exact tv_chain (icop_ok h1) (icop_ok h2) (ia.ok _ _ _ _ r1) (ib.ok _ _ _ _ r2) (ic.ok _ _ _ _ r3) (lmarks_ok h3)
    · cases h
  | .bop j es, sc, x, h => by
    unfold chkE at h
    split at h
    · rename_i xs pos
      rw [Bool.and_eq_true] at h
      obtain ⟨h1, h⟩ := h
      subst h1
      have il := sndEs G P es sc xs h
      have hne : xs ≠ [] ∨ xs = [] := by cases xs <;> simp
      rcases hne with hne | hne
      · obtain ⟨b1, b2, b3⟩ := il.bok pos true hne
        exact ⟨fun δ L d L' q => by unfold ev at q; exact b1 _ _ _ _ q, fun δ L X L' q => by unfold ev at q; exact (b2 _ _ _ _ q).elim, fun ht δ L b L' q => by unfold tst ev at q; exact tv_w (b3 ht _ _ _ _ q)⟩
      · subst hne
        cases es with
        | nil => exact ⟨(fun δ L d L' q => by unfold ev evb at q; cases q), (fun δ L X L' q => by unfold ev evb at q; cases q), (fun ht δ L b L' q => by unfold tst ev evb at q; cases q)⟩
        | cons e r => cases h
    · rename_i xs pos
      rw [Bool.and_eq_true] at h
      obtain ⟨h1, h⟩ := h
      have h1' : j = false := by simpa using h1
      subst h1'
      have il := sndEs G P es sc xs h
      have hne : xs ≠ [] ∨ xs = [] := by cases xs <;> simp
      rcases hne with hne | hne
      · obtain ⟨b1, b2, b3⟩ := il.bok pos false hne
        exact ⟨fun δ L d L' q => by unfold ev at q; exact b1 _ _ _ _ q, fun δ L X L' q => by unfold ev at q; exact (b2 _ _ _ _ q).elim, fun ht δ L b L' q => by unfold tst ev at q; exact tv_w (b3 ht _ _ _ _ q)⟩
      · subst hne
        cases es with
        | nil => exact ⟨(fun δ L d L' q => by unfold ev evb at q; cases q), (fun δ L X L' q => by unfold ev evb at q; cases q), (fun ht δ L b L' q => by unfold tst ev evb at q; cases q)⟩
        | cons e r => cases h
    · cases h
  | .not a, sc, x, h => by
    unfold chkE at h
    split at h
    · rw [Bool.and_eq_true] at h
      have ia := sndE G P a sc _ h.2
      have key : ∀ δ L d L', ev Φ (.not a) δ L = .ok d L' → ∃ y b, d = .bl (!b) ∧ ev Φ a δ L = .ok y L' ∧ y.truth L' = some b := fun δ L d L' q => by
        unfold ev at q
        obtain ⟨y, M, q1, q⟩ := R.bd_eq q
        obtain ⟨q3, rfl⟩ := R.op_ok q
        cases q4 : y.truth L' with
        | none => rw [q4] at q3; cases q3
        | some t =>
          rw [q4] at q3
          cases q3
          exact ⟨y, t, rfl, q1, q4⟩
      refine ⟨fun δ L d L' q => ?_, fun δ L X L' q => ?_, fun _ δ L t L' q => ?_⟩
      · obtain ⟨y, b, rfl, q1, q2⟩ := key _ _ _ _ q
        exact ev_notV (ia.ok _ _ _ _ q1) q2
      · unfold ev at q
        exact absurd q opx
      · obtain ⟨d, q1, q2⟩ := tst_eq q
        obtain ⟨y, b, rfl, q1, q3⟩ := key _ _ _ _ q1
        cases q2
        refine tv_not (ia.tv h.1 _ _ _ _ ?_)
        unfold tst
        rw [q1]
        show R.op (y.truth L') L' = _
        rw [q3]
        rfl
    · cases h
  | .ite c a b, sc, x, h => by
    unfold chkE at h
    split at h
    · simp only [Bool.and_eq_true] at h
      obtain ⟨⟨⟨h1, h2⟩, h3⟩, h4⟩ := h
      have ic := sndE G P c sc _ h2
      have ia := sndE G P a sc _ h3
      have ib := sndE G P b sc _ h4
      have tc : ∀ {δ L y M t}, ev Φ c δ L = .ok y M → y.truth M = some t → TV T (gc N k sc) _ δ L t M := fun {δ L y M t} q1 q2 => ic.tv h1 _ _ _ _ (by unfold tst; rw [q1]; show R.op (y.truth M) M = _; rw [q2]; rfl)
      refine ⟨fun δ L d L' q => ?_, fun δ L X L' q => ?_, fun ht => by cases ht⟩
      · unfold ev at q
        obtain ⟨y, M, q1, q⟩ := R.bd_eq q
        split at q
        · rename_i q2
          exact ev_if (tc q1 q2) (fun _ => ia.ok _ _ _ _ q) (fun e => nomatch e)
        · rename_i q2
          exact ev_if (tc q1 q2) (fun e => nomatch e) (fun _ => ib.ok _ _ _ _ q)
        · cases q
      · unfold ev at q
        obtain ⟨y, M, q1, q⟩ := R.bd_ex' q
        split at q
        · rename_i q2
          obtain ⟨x1, x2⟩ := ia.ex _ _ _ _ q
          exact ⟨x1, ex_if (tc q1 q2) (fun _ => x2) (fun e => nomatch e)⟩
        · rename_i q2
          obtain ⟨x1, x2⟩ := ib.ex _ _ _ _ q
          exact ⟨x1, ex_if (tc q1 q2) (fun e => nomatch e) (fun _ => x2)⟩
        · cases q
    · cases h
  | .tup es, sc, x, h => by
    unfold chkE at h
    split at h
    · rw [Bool.and_eq_true] at h
      have il := sndEs G P es sc _ h.2
      refine .plainN (fun δ L d L' q => ?_) (fun δ L X L' q => ?_) rfl
      · unfold ev at q
        obtain ⟨ds, M, q1, q⟩ := R.bd_eq q
        split at q
        · rename_i hz
          cases q
          exact ev_tup ((il.ok _ _ _ _ q1).av h.1) hz
        · cases q
      · unfold ev at q
        obtain ⟨ds, M, q1, q⟩ := R.bd_ex' q
        split at q <;> cases q
    · cases h
  | .lst es, sc, x, h => by
    unfold chkE at h
    split at h
    · rw [Bool.and_eq_true] at h
      have il := sndEs G P es sc _ h.2
      refine .plainN (fun δ L d L' q => ?_) (fun δ L X L' q => ?_) rfl
      · unfold ev at q
        obtain ⟨ds, M, q1, q⟩ := R.bd_eq q
        split at q
        · rename_i hz
          cases q
          exact ev_lst ((il.ok _ _ _ _ q1).av h.1) hz
        · cases q
      · unfold ev at q
        obtain ⟨ds, M, q1, q⟩ := R.bd_ex' q
        split at q <;> cases q
    · cases h
  | .nlst es, sc, x, h => by
    unfold chkE at h
    split at h
    · rw [Bool.and_eq_true] at h
      have il := sndEs G P es sc _ h.2
      refine .plainN (fun δ L d L' q => ?_) (fun δ L X L' q => ?_) rfl
      · unfold ev at q
        obtain ⟨ds, M, q1, q⟩ := R.bd_eq q
        split at q
        · rename_i hz
          cases q
          exact en_lst ((il.ok _ _ _ _ q1).av h.1) hz
        · cases q
      · unfold ev at q
        obtain ⟨ds, M, q1, q⟩ := R.bd_ex' q
        split at q <;> cases q
    · cases h
  | .xtup ss, sc, x, h => by
    unfold chkE at h
    split at h
    · rw [Bool.and_eq_true, decide_eq_true_eq] at h
      refine .plainN (fun δ L d L' q => ?_) (fun δ L X L' q => by cases q) rfl
      cases q
      exact en_xtup (strs_av h.1) (by rw [sizeLine_eq]; omega)
    · cases h
  | .dict ks es, sc, x, h => by
    unfold chkE at h
    split at h
    · simp only [Bool.and_eq_true, decide_eq_true_eq] at h
      obtain ⟨⟨⟨h1, h2⟩, h3⟩, h4⟩ := h
      have il := sndEs G P es sc _ h4
      refine .plainN (fun δ L d L' q => ?_) (fun δ L X L' q => ?_) rfl
      · unfold ev at q
        split at q
        · cases q
          exact keys_nil h1 h2
        · rename_i hne
          obtain ⟨ds, M, q1, q⟩ := R.bd_eq q
          split at q
          · rename_i hz
            cases q
            exact en_disp h1 (fun e => hne e) h2 h3 (il.ok _ _ _ _ q1) hz.2.2 hz.1 hz.2.1
          · cases q
      · unfold ev at q
        split at q
        · cases q
        · obtain ⟨ds, M, q1, q⟩ := R.bd_ex' q
          split at q <;> cases q
    · cases h
  | .ix a b, sc, x, h => by
    unfold chkE at h
    split at h
    · simp only [Bool.and_eq_true] at h
      have ia := sndE G P a sc _ h.1.2
      have ib := sndE G P b sc _ h.2
      refine .plainN (fun δ L d L' q => ?_) (fun δ L X L' q => ?_) rfl
      · unfold ev at q
        obtain ⟨y, M, q1, q⟩ := R.bd_eq q
        obtain ⟨z, M', q2, q⟩ := R.bd_eq q
        obtain ⟨q3, rfl⟩ := R.op_ok q
        exact ix_ev h.1.1 rfl (ia.ok _ _ _ _ q1) (ib.ok _ _ _ _ q2) q3
      · unfold ev at q
        obtain ⟨y, M, q1, q⟩ := R.bd_ex' q
        exact opx q
    · cases h
  | .sl a lo hi, sc, x, h => by
    unfold chkE at h
    split at h
    · simp only [Bool.and_eq_true] at h
      have ia := sndE G P a sc _ h.1.1
      have il := sndO G P lo sc _ h.1.2
      have ih := sndO G P hi sc _ h.2
      refine .plainN (fun δ L d L' q => ?_) (fun δ L X L' q => ?_) rfl
      · unfold ev at q
        obtain ⟨y, M, q1, qa⟩ := R.bd_eq q
        obtain ⟨i, M2, q2, qb⟩ := R.bd_eq qa
        obtain ⟨j, M3, q3, qc⟩ := R.bd_eq qb
        split at qc
        · rename_i e
          obtain ⟨rfl, rfl⟩ := e
          obtain ⟨q4, rfl⟩ := R.op_ok qc
          exact sl_ev (ia.ok _ _ _ _ q1) (il _ _ _ q2) (ih _ _ _ q3) q4
        · cases qc
      · unfold ev at q
        obtain ⟨y, M, q1, qa⟩ := R.bd_ex' q
        obtain ⟨i, M2, q2, qb⟩ := R.bd_ex' qa
        obtain ⟨j, M3, q3, qc⟩ := R.bd_ex' qb
        split at qc
        · exact R.op_nex qc
        · cases qc
    · cases h
  | .nsl a lo hi, sc, x, h => by
    unfold chkE at h
    split at h
    · simp only [Bool.and_eq_true] at h
      have ia := sndE G P a sc _ h.1.1
      have il := sndO G P lo sc _ h.1.2
      have ih := sndO G P hi sc _ h.2
      refine .plainN (fun δ L d L' q => ?_) (fun δ L X L' q => ?_) rfl
      · unfold ev at q
        obtain ⟨y, M, q1, qa⟩ := R.bd_eq q
        obtain ⟨i, M2, q2, qb⟩ := R.bd_eq qa
        obtain ⟨j, M3, q3, qc⟩ := R.bd_eq qb
        split at qc
        · rename_i e
          obtain ⟨rfl, rfl⟩ := e
          split at qc
          · rename_i q4
            cases qc
            exact en_slL (ia.ok _ _ _ _ q1) (lstOf_eq q4) (il _ _ _ q2) (ih _ _ _ q3)
          · cases qc
        · cases qc
      · unfold ev at q
        obtain ⟨y, M, q1, qa⟩ := R.bd_ex' q
        obtain ⟨i, M2, q2, qb⟩ := R.bd_ex' qa
        obtain ⟨j, M3, q3, qc⟩ := R.bd_ex' qb
        split at qc
        · split at qc <;> cases qc
        · cases qc
    · cases h
  | .rev a, sc, x, h => by
    unfold chkE at h
    split at h
    · have ia := sndE G P a sc _ h
      refine .plainN (fun δ L d L' q => ?_) (fun δ L X L' q => ?_) rfl
      · unfold ev at q
        obtain ⟨y, M, q1, q⟩ := R.bd_eq q
        obtain ⟨q3, rfl⟩ := R.op_ok q
        cases q4 : lstOf L' y with
        | none => rw [q4] at q3; cases q3
        | some ds =>
          rw [q4] at q3
          cases q3
          exact ev_rev (ia.ok _ _ _ _ q1) (lstOf_eq q4)
      · unfold ev at q
        exact opx q
    · cases h
  | .lrng a b, sc, x, h => by
    unfold chkE at h
    split at h
    · simp only [Bool.and_eq_true, beq_iff_eq] at h
      obtain ⟨⟨⟨⟨⟨⟨⟨⟨⟨h1, h2⟩, h3⟩, h4⟩, h5⟩, h6⟩, h7⟩, h8⟩, h9⟩, h10⟩ := h
      subst h1 h2
      have ia := sndE G P a sc _ h9
      have ib := sndE G P b sc _ h10
      refine .plainN (fun δ L d L' q => ?_) (fun δ L X L' q => ?_) rfl
      · unfold ev at q
        obtain ⟨y, M, q1, qa⟩ := R.bd_eq q
        obtain ⟨z, M', q2, qb⟩ := R.bd_eq qa
        split at qb
        · split at qb
          · rename_i hz
            cases qb
            exact ev_lrng (G.free _ h3) (G.free _ h4) (ia.ok _ _ _ _ q1) (ib.ok _ _ _ _ q2) rfl hz (glob_of h5).1 (glob_of h6).1 h7 h8
          · cases qb
        · cases qb
      · unfold ev at q
        obtain ⟨y, M, q1, qa⟩ := R.bd_ex' q
        obtain ⟨z, M', q2, qb⟩ := R.bd_ex' qa
        split at qb
        · split at qb <;> cases qb
        · cases qb
    · simp only [Bool.and_eq_true, beq_iff_eq] at h
      obtain ⟨⟨⟨⟨⟨⟨⟨⟨h1, h2⟩, h3⟩, h4⟩, h5⟩, h6⟩, h7⟩, h8⟩, h9⟩ := h
      subst h1 h2
      have ea : a = .int 0 := by
        unfold isZero at h8
        split at h8
        · rw [beq_iff_eq] at h8
          rw [h8]
        · cases h8
      subst ea
      have ib := sndE G P b sc _ h9
      refine .plainN (fun δ L d L' q => ?_) (fun δ L X L' q => ?_) rfl
      · unfold ev at q
        obtain ⟨y, M, q1, qa⟩ := R.bd_eq q
        cases q1
        obtain ⟨z, M', q2, qb⟩ := R.bd_eq qa
        split at qb
        · rename_i i j e1
          injection e1 with e1
          subst e1
          split at qb
          · rename_i hz
            cases qb
            exact ev_lrng1 (G.free _ h3) (G.free _ h4) (ib.ok _ _ _ _ q2) rfl hz (glob_of h5).1 (glob_of h6).1 h7
          · cases qb
        · cases qb
      · unfold ev at q
        obtain ⟨y, M, q1, qa⟩ := R.bd_ex' q
        obtain ⟨z, M', q2, qb⟩ := R.bd_ex' qa
        split at qb
        · split at qb <;> cases qb
        · cases qb
    · cases h
  | .fn f es, sc, x, h => by
    unfold chkE at h
    split at h
    · simp only [Bool.and_eq_true, beq_iff_eq] at h
      obtain ⟨⟨⟨⟨h1, h2⟩, h3⟩, h4⟩, h5⟩ := h
      have il := sndEs G P es sc _ h5
      obtain ⟨g1, g2, _⟩ := glob_of h3
      refine .plain (fun δ L d L' q => ?_) (fun δ L X L' q => ?_) rfl
      · unfold ev at q
        obtain ⟨ds, M, q1, q⟩ := R.bd_eq q
        have z := out_ok (P.fn f _ h2 h1 ds M) q
        have ha := il.ok _ _ _ _ q1
        have hav := ha.av h4
        cases ha with
        | nil => exact ev_call0 z (Nat.le_refl _) rfl g1 g2
        | cons r1 r2 =>
          rw [List.all_cons, Bool.and_eq_true] at h4
          exact ev_call z hav (Nat.le_refl _) rfl g1 g2 (fun _ => star_cons h4.1) (fun _ => star_any h4.2)
      · unfold ev at q
        obtain ⟨ds, M, q1, q⟩ := R.bd_ex' q
        obtain ⟨hx, z⟩ := out_ex (P.fn f _ h2 h1 ds M) q
        refine ⟨hx, ?_⟩
        have ha := il.ok _ _ _ _ q1
        have hav := ha.av h4
        cases ha with
        | nil => exact ex_call0 z (Nat.le_refl _) rfl g1 g2
        | cons r1 r2 =>
          rw [List.all_cons, Bool.and_eq_true] at h4
          exact ex_call z hav (Nat.le_refl _) rfl g1 g2 (fun _ => star_cons h4.1) (fun _ => star_any h4.2)
    · cases h
  | .mth D m f o es, sc, x, h => by
    unfold chkE at h
    split at h
    · simp only [Bool.and_eq_true, beq_iff_eq, decide_eq_true_eq] at h
      obtain ⟨⟨⟨⟨⟨⟨⟨⟨h1, h2⟩, h3⟩, h4⟩, h5⟩, h6⟩, h7⟩, h8⟩, h9⟩ := h
      subst h1
      have io := sndE G P o sc _ h8
      have il := sndEs G P es sc _ h9
      have hl : ∀ {a b : Nat}, a = b → (a == b) = true := fun e => by simp [e]
      refine .plain (fun δ L d L' q => ?_) (fun δ L X L' q => ?_) rfl
      · unfold ev at q
        obtain ⟨y, M, q1, qa⟩ := R.bd_eq q
        clear q
        split at qa
        · split at qa
          · rename_i hk
            split at qa
            · rename_i hz
              obtain ⟨e1, e2⟩ := hz
              subst e1
              obtain ⟨ds, M2, q2, qb⟩ := R.bd_eq qa
              have z := out_ok (P.mt f _ _ h3 h2 _ M2) qb
              have ha := il.ok _ _ _ _ q2
              have hav := ha.av h5
              have hr : Recv M _ _ _ := ⟨_, _, rfl, hk, e2⟩
              cases ha with
              | nil => exact ev_meth0 (io.ok _ _ _ _ q1) hr z (Nat.le_refl _) rfl (mform_ok h4 rfl (by simp) (hl h7))
              | cons r1 r2 =>
                have h5' := h5
                rw [List.all_cons, Bool.and_eq_true] at h5
                exact ev_meth (io.ok _ _ _ _ q1) hr hav z (Nat.le_refl _) rfl (mform_ok h4 h5' h6 (hl h7)) (fun _ => star_cons h5.1) (fun _ => star_any h5.2)
            · cases qa
          · cases qa
        · cases qa
      · unfold ev at q
        obtain ⟨y, M, q1, qa⟩ := R.bd_ex' q
        clear q
        split at qa
        · split at qa
          · rename_i hk
            split at qa
            · rename_i hz
              obtain ⟨e1, e2⟩ := hz
              subst e1
              obtain ⟨ds, M2, q2, qb⟩ := R.bd_ex' qa
              obtain ⟨hx, z⟩ := out_ex (P.mt f _ _ h3 h2 _ M2) qb
              refine ⟨hx, ?_⟩
              have ha := il.ok _ _ _ _ q2
              have hav := ha.av h5
              have hr : Recv M _ _ _ := ⟨_, _, rfl, hk, e2⟩
              cases ha with
              | nil => exact ex_meth0 (io.ok _ _ _ _ q1) hr z (Nat.le_refl _) rfl (mform_ok h4 rfl (by simp) (hl h7))
              | cons r1 r2 =>
                have h5' := h5
                rw [List.all_cons, Bool.and_eq_true] at h5
                exact ex_meth (io.ok _ _ _ _ q1) hr hav z (Nat.le_refl _) rfl (mform_ok h4 h5' h6 (hl h7)) (fun _ => star_cons h5.1) (fun _ => star_any h5.2)
            · cases qa
          · cases qa
        · cases qa
    · cases h
  | .mk D f es, sc, x, h => by
    unfold chkE at h
    split at h
    · simp only [Bool.and_eq_true, beq_iff_eq] at h
      obtain ⟨⟨⟨⟨⟨⟨h1, h2⟩, h3⟩, h4⟩, h5⟩, h6⟩, h7⟩ := h
      subst h1
      have il := sndEs G P es sc _ h7
      obtain ⟨g1, g2, _⟩ := glob_of h5
      refine .plain (fun δ L d L' q => ?_) (fun δ L X L' q => ?_) rfl
      · unfold ev at q
        obtain ⟨ds, M, q1, q⟩ := R.bd_eq q
        obtain ⟨y, M2, q2, q⟩ := R.bx_eq q
        split at q
        · cases q
          obtain ⟨j, hj, z⟩ := out_ok (P.ini f _ h3 h2 _ _) q2
          have ha := il.ok _ _ _ _ q1
          have hav := ha.av h6
          cases ha with
          | nil => exact ev_make0 (G.mak _ h4) z hj rfl g1 g2
          | cons r1 r2 =>
            rw [List.all_cons, Bool.and_eq_true] at h6
            exact ev_make (G.mak _ h4) hav z hj rfl g1 g2 (fun _ => star_cons h6.1) (fun _ => star_any h6.2)
        · cases q
      · unfold ev at q
        obtain ⟨ds, M, q1, q⟩ := R.bd_ex' q
        rcases R.bx_ex' q with q2 | ⟨y, M2, q2, q3⟩
        · obtain ⟨hx, j, hj, z⟩ := out_ex (P.ini f _ h3 h2 _ _) q2
          refine ⟨hx, ?_⟩
          have ha := il.ok _ _ _ _ q1
          have hav := ha.av h6
          cases ha with
          | nil => exact ex_make0 (G.mak _ h4) z hj rfl g1 g2
          | cons r1 r2 =>
            rw [List.all_cons, Bool.and_eq_true] at h6
            exact ex_make (G.mak _ h4) hav z hj rfl g1 g2 (fun _ => star_cons h6.1) (fun _ => star_any h6.2)
        · split at q3 <;> cases q3
    · cases h
  | .fld D o f, sc, x, h => by
    unfold chkE at h
    split at h
    · simp only [Bool.and_eq_true, beq_iff_eq] at h
      obtain ⟨⟨⟨h1, h2⟩, h3⟩, h4⟩ := h
      subst h1
      have io := sndE G P o sc _ h4
      refine .plainN (fun δ L d L' q => ?_) (fun δ L X L' q => ?_) rfl
      · unfold ev at q
        obtain ⟨y, M, q1, qa⟩ := R.bd_eq q
        clear q
        revert qa
        intro q
        split at q
        · split at q
          · rename_i hk
            split at q
            · rename_i e
              subst e
              obtain ⟨q2, rfl⟩ := R.op_ok q
              exact ev_fld (io.ok _ _ _ _ q1) hk q2 (G.fld _ _ h2) (fun _ => base_ok h3)
            · cases q
          · cases q
        · cases q
      · unfold ev at q
        obtain ⟨y, M, q1, q⟩ := R.bd_ex' q
        split at q
        · split at q
          · split at q
            · exact R.op_nex q
            · cases q
          · cases q
        · cases q
    · cases h
  | .bi b es, sc, x, h => by
    unfold chkE at h
    split at h
    · simp only [Bool.and_eq_true, beq_iff_eq] at h
      obtain ⟨⟨⟨⟨h1, h2⟩, h3⟩, h4⟩, h5⟩ := h
      subst h1
      have il := sndEs G P es sc _ h5
      refine .plainN (fun δ L d L' q => ?_) (fun δ L X L' q => ?_) rfl
      · unfold ev at q
        obtain ⟨ds, M, q1, q⟩ := R.bd_eq q
        exact bi_ev (G.free _ h2) (glob_of h3).1 rfl h4 (il.ok _ _ _ _ q1) q
      · unfold ev at q
        obtain ⟨ds, M, q1, q⟩ := R.bd_ex' q
        exact bi_nex q
    · cases h
  | .bm m o es, sc, x, h => by
    unfold chkE at h
    split at h
    · simp only [Bool.and_eq_true, beq_iff_eq, decide_eq_true_eq] at h
      obtain ⟨⟨⟨⟨⟨⟨h1, h2⟩, h3⟩, h4⟩, h5⟩, h6⟩, h7⟩ := h
      subst h1
      have io := sndE G P o sc _ h6
      have il := sndEs G P es sc _ h7
      refine .plainN (fun δ L d L' q => ?_) (fun δ L X L' q => ?_) rfl
      · unfold ev at q
        obtain ⟨y, M, q1, qa⟩ := R.bd_eq q
        obtain ⟨ds, M2, q2, qb⟩ := R.bd_eq qa
        split at qb
        · split at qb
          · rename_i hz
            exact bm_ev h2 h3 (by simp [h5]) rfl (io.ok _ _ _ _ q1) (il.ok _ _ _ _ q2) hz qb
          · cases qb
        · cases qb
      · unfold ev at q
        obtain ⟨y, M, q1, qa⟩ := R.bd_ex' q
        obtain ⟨ds, M2, q2, qb⟩ := R.bd_ex' qa
        split at qb
        · split at qb
          · exact bm_nex qb
          · cases qb
        · cases qb
    · cases h
  | .isi a n, sc, x, h => by
    unfold chkE at h
    split at h
    · simp only [Bool.and_eq_true, beq_iff_eq] at h
      obtain ⟨⟨⟨⟨⟨⟨⟨⟨h1, h2⟩, h3⟩, h4⟩, h5⟩, h6⟩, h7⟩, h8⟩, h9⟩ := h
      subst h1
      subst h4
      have ia := sndE G P a sc _ h9
      refine .plainN (fun δ L d L' q => ?_) (fun δ L X L' q => ?_) rfl
      · unfold ev at q
        obtain ⟨y, M, q1, q⟩ := R.bd_eq q
        obtain ⟨q2, rfl⟩ := R.op_ok q
        cases q3 : isiD L' y n with
        | none => rw [q3] at q2; cases q2
        | some t =>
          rw [q3] at q2
          cases q2
          exact isi_ev (G.free _ h2) (G.free _ h5) (ia.ok _ _ _ _ q1) q3 h8 (glob_of h3).1 (glob_of h6) h7
      · unfold ev at q
        exact opx q
    · cases h
  | .isc a D, sc, x, h => by
    unfold chkE at h
    split at h
    · simp only [Bool.and_eq_true, beq_iff_eq] at h
      obtain ⟨⟨⟨⟨⟨⟨⟨h1, h2⟩, h3⟩, h4⟩, h5⟩, h6⟩, h7⟩, h8⟩ := h
      subst h1
      subst h4
      have ia := sndE G P a sc _ h8
      obtain ⟨b1, b2, b3⟩ := G.isc _ h5
      obtain ⟨g1, g2, _⟩ := glob_of h6
      refine .plainN (fun δ L d L' q => ?_) (fun δ L X L' q => ?_) rfl
      · unfold ev at q
        obtain ⟨y, M, q1, qa⟩ := R.bd_eq q
        clear q
        revert qa
        intro q
        split at q
        · split at q
          · rename_i hk
            split at q
            · rename_i e
              subst e
              cases q
              exact ev_isc (G.free _ h2) (ia.ok _ _ _ _ q1) hk b1 b2 b3 g1 g2 (glob_of h3).1 h7
            · cases q
          · cases q
        · cases q
      · unfold ev at q
        obtain ⟨y, M, q1, q⟩ := R.bd_ex' q
        split at q
        · split at q
          · split at q <;> cases q
          · cases q
        · cases q
    · cases h
  | .lc elt t tup it c own, sc, x, h => by
    unfold chkE at h
    split at h
    · rename_i xe tg xi ifs scope pos
      simp only [Bool.and_eq_true] at h
      obtain ⟨⟨⟨⟨⟨⟨⟨h1, h2⟩, h3⟩, h4⟩, h5⟩, h6⟩, h7⟩, h8⟩ := h
      refine .plainN (fun δ L d L' q => ?_) (fun δ L X L' q => ?_) rfl
      · unfold ev at q
        obtain ⟨its, M, q1, q⟩ := R.bd_eq q
        split at q
        · rename_i hz
          obtain ⟨q2, rfl⟩ := R.op_ok q
          cases q3 : lcL (lcStep (fun d => bindT t tup d (wipeE δ own)) (fun δ1 => evc Φ c δ1 L') (fun δ1 => ev Φ elt δ1 L') L') its.ds with
          | none => rw [q3] at q2; cases q2
          | some ys =>
            rw [q3] at q2
            cases q2
            have it_ := sndI G P it sc _ h4
            have ie : Snd T C ((gc N k sc).blk scope) Φ xe elt := sndE G P elt _ _ h6
            have hiv := it_.iv _ (tup_of h1 h2) _ _ _ _ q1
            split at h8
            · obtain ⟨f, e1, tn⟩ := lc_turn (oc := none) ie (fun δ1 b hb => by cases hb; rfl) q3
              rw [e1]
              exact ev_lc (c := none) (ownOf N own) f hiv hz.2 (tl_ok (Γ := (gc N k sc).blk _) rfl rfl h1) (by rw [own_snd]; exact own_all h3) tn hz.1 rfl h7 (folded_ok h5)
            · rw [Bool.and_eq_true] at h8
              have ic : Snd T C ((gc N k sc).blk scope) Φ _ _ := sndE G P _ _ _ h8.2
              obtain ⟨f, e1, tn⟩ := lc_turn (oc := some _) ie (fun δ1 b hb => evc_tv ic h8.1 hb) q3
              rw [e1]
              exact ev_lc (c := some _) (ownOf N own) f hiv hz.2 (tl_ok (Γ := (gc N k sc).blk _) rfl rfl h1) (by rw [own_snd]; exact own_all h3) tn hz.1 rfl h7 (folded_ok h5)
            · cases h8
        · cases q
      · unfold ev at q
        obtain ⟨its, M, q1, q⟩ := R.bd_ex' q
        split at q
        · exact R.op_nex q
        · cases q
    · cases h
theorem sndEs (G : Good T C) (P : PhiOk T C k Φ) : ∀ (es : Es) (sc : Scope) (xs : List Expr), chkEs C N es sc xs = true → SndL T C (gc N k sc) Φ xs es
  | .nil, sc, [], h => ⟨(fun δ L ds L' q => by cases q; exact .nil), (fun δ L X L' q => by cases q), fun pos j hne => absurd rfl hne⟩
  | .cons e r, sc, x :: xs, h => by
    have h' : (chkE C N e sc x && chkEs C N r sc xs) = true := h
    rw [Bool.and_eq_true] at h'
    have ie := sndE G P e sc x h'.1
    have ir := sndEs G P r sc xs h'.2
    refine ⟨fun δ L ds L' q => ?_, fun δ L X L' q => ?_, fun pos j _ => ?_⟩
    · unfold evs at q
      obtain ⟨d, M, q1, q⟩ := R.bd_eq q
      obtain ⟨ds', M2, q2, q⟩ := R.bd_eq q
      cases q
      exact .cons (ie.ok _ _ _ _ q1) (ir.ok _ _ _ _ q2)
    · unfold evs at q
      obtain ⟨d, M, q1, q⟩ := R.bd_ex' q
      obtain ⟨ds', M2, q2, q⟩ := R.bd_ex' q
      cases q
    · cases r with
      | nil =>
        have hx : xs = [] := by
          cases xs with
          | nil => rfl
          | cons _ _ => cases h'.2
        subst hx
        have key : ∀ δ L d L', evb Φ j (.cons e .nil) δ L = .ok d L' → ev Φ e δ L = .ok d L' := fun δ L d L' q => by
          unfold evb at q
          obtain ⟨y, M, q1, q2⟩ := R.bd_eq q
          cases q2
          exact q1
        refine ⟨fun δ L d L' q => ev_one (ie.ok _ _ _ _ (key _ _ _ _ q)), fun δ L X L' q => ?_, fun ht δ L b L' q => ?_⟩
        · unfold evb at q
          obtain ⟨y, M, q1, q2⟩ := R.bd_ex' q
          cases q2
        · obtain ⟨y, M, q1, q2⟩ := R.bd_eq q
          have ht' : tOk e = true := by
            have z : (tOk e && true) = true := ht
            simpa using z
          have tt := ie.tv ht' δ L b L' (by unfold tst; rw [key _ _ _ _ q1]; exact q2)
          cases j with
          | true => exact wv_and1 tt
          | false => exact wv_or1 tt
      | cons e2 r2 =>
        cases xs with
        | nil => cases h'.2
        | cons x2 xs2 =>
          obtain ⟨b1, b2, b3⟩ := ir.bok pos j (by simp)
          have key : ∀ δ L d L', evb Φ j (.cons e (.cons e2 r2)) δ L = .ok d L' → ∃ y M t, ev Φ e δ L = .ok y M ∧ y.truth M = some t ∧ ((t = j ∧ evb Φ j (.cons e2 r2) δ M = .ok d L') ∨ (t = !j ∧ d = y ∧ L' = M)) := fun δ L d L' q => by
            unfold evb at q
            obtain ⟨y, M, q1, q2⟩ := R.bd_eq q
            split at q2
            · rename_i t q3
              refine ⟨y, M, t, q1, q3, ?_⟩
              split at q2
              · rename_i e1
                exact .inl ⟨e1, q2⟩
              · rename_i e1
                cases q2
                refine .inr ⟨?_, rfl, rfl⟩
                cases t <;> cases j <;> first | rfl | exact absurd rfl e1
            · cases q2
          refine ⟨fun δ L d L' q => ?_, fun δ L X L' q => ?_, fun ht δ L b L' q => ?_⟩
          · obtain ⟨y, M, t, q1, q2, q3⟩ := key _ _ _ _ q
            have e1 := ie.ok _ _ _ _ q1
            rcases q3 with ⟨rfl, q3⟩ | ⟨rfl, rfl, rfl⟩
            · have e2 := b1 _ _ _ _ q3
              cases t with
              | true => exact ev_andV1 e1 q2 e2
              | false => exact ev_orV0 e1 q2 e2
            · cases j with
              | true => exact ev_andV0 e1 q2
              | false => exact ev_orV1 e1 q2
          · unfold evb at q
            obtain ⟨y, M, q1, q2⟩ := R.bd_ex' q
            split at q2
            · split at q2
              · exact b2 _ _ _ _ q2
              · cases q2
            · cases q2
          · obtain ⟨d, M', q4, q5⟩ := R.bd_eq q
            obtain ⟨q6, rfl⟩ := R.op_ok q5
            obtain ⟨y, M, t, q1, q2, q3⟩ := key _ _ _ _ q4
            have ht' : (tOk e && tOk.tOks (.cons e2 r2)) = true := ht
            rw [Bool.and_eq_true] at ht'
            have tt := ie.tv ht'.1 δ L t M (by unfold tst; rw [q1]; show R.op (y.truth M) M = _; rw [q2]; rfl)
            rcases q3 with ⟨rfl, q3⟩ | ⟨rfl, rfl, rfl⟩
            · have w2 := b3 ht'.2 δ M b L' (by rw [q3]; show R.op (d.truth L') L' = _; rw [q6]; rfl)
              cases t with
              | true => exact tv_andT tt w2
              | false => exact tv_orF tt w2
            · rw [q2] at q6
              cases q6
              cases j with
              | true => exact tv_andF tt
              | false => exact tv_orT tt
  | .nil, sc, _ :: _, h => by cases h
  | .cons _ _, sc, [], h => by cases h
theorem sndO (G : Good T C) (P : PhiOk T C k Φ) : ∀ (o : Oe) (sc : Scope) (x : Option Expr), chkO C N o sc x = true → ∀ δ L i, evo Φ o δ L = .ok i L → OV T (gc N k sc) x δ L i
  | .none, sc, none, h => fun δ L i q => by
    cases q
    trivial
  | .some e, sc, some x, h => fun δ L i q => by
    have ie := sndE G P e sc x h
    unfold evo at q
    obtain ⟨d, M, q1, q⟩ := R.bd_eq q
    split at q
    · cases q
      exact ie.ok _ _ _ _ q1
    · cases q
  | .none, sc, some _, h => by cases h
  | .some _, sc, none, h => by cases h
theorem sndI (G : Good T C) (P : PhiOk T C k Φ) : ∀ (it : It) (sc : Scope) (x : Expr), chkI C N it sc x = true → SndI T (gc N k sc) Φ x it
  | .val e, sc, x, h => ⟨fun tg ht δ L its L' q => by
    have ie := sndE G P e sc x h
    unfold evi at q
    obtain ⟨d, M, q1, q⟩ := R.bd_eq q
    obtain ⟨q2, rfl⟩ := R.op_ok q
    exact items_iv (ie.ok _ _ _ _ q1) q2⟩
  | .rng e, sc, x, h => ⟨fun tg ht δ L its L' q => by
    unfold chkI at h
    split at h
    · simp only [Bool.and_eq_true, beq_iff_eq] at h
      obtain ⟨⟨⟨⟨h1, h2⟩, h3⟩, h4⟩, h5⟩ := h
      subst h1
      have ie := sndE G P e sc _ h5
      unfold evi at q
      obtain ⟨d, M, q1, q⟩ := R.bd_eq q
      split at q
      · obtain ⟨q2, rfl⟩ := R.op_ok q
        unfold rngI at q2
        split at q2
        · rename_i hz
          cases q2
          rw [Int.sub_zero]
          exact iv_range1 (ie.ok _ _ _ _ q1) (G.free _ h2) hz.2.2.1 hz.2.2.2 (glob_of h3).1 (fun _ => star_one h4)
        · cases q2
      · cases q
    · cases h⟩
  | .rng2 a b, sc, x, h => ⟨fun tg ht δ L its L' q => by
    unfold chkI at h
    split at h
    · simp only [Bool.and_eq_true, beq_iff_eq] at h
      obtain ⟨⟨⟨⟨⟨⟨h1, h2⟩, h3⟩, h4⟩, h5⟩, h6⟩, h7⟩ := h
      subst h1
      have ia := sndE G P a sc _ h6
      have ib := sndE G P b sc _ h7
      unfold evi at q
      obtain ⟨d, M, q1, q⟩ := R.bd_eq q
      obtain ⟨d2, M2, q2, q⟩ := R.bd_eq q
      split at q
      · obtain ⟨q3, rfl⟩ := R.op_ok q
        unfold rngI at q3
        split at q3
        · rename_i hz
          cases q3
          exact iv_range2 (ia.ok _ _ _ _ q1) (ib.ok _ _ _ _ q2) (G.free _ h2) hz (glob_of h3).1 (fun _ => by rw [star_cons h4, star_one h5]) (fun _ => star_one h5)
        · cases q3
      · cases q
    · cases h⟩
  | .enum e, sc, x, h => ⟨fun tg ht δ L its L' q => by
    unfold chkI at h
    split at h
    · simp only [Bool.and_eq_true, beq_iff_eq] at h
      obtain ⟨⟨⟨⟨h1, h2⟩, h3⟩, h4⟩, h5⟩ := h
      subst h1
      obtain ⟨es, j, p, rfl⟩ := ht rfl
      have ie := sndE G P e sc _ h5
      unfold evi at q
      obtain ⟨d, M, q1, q⟩ := R.bd_eq q
      obtain ⟨q2, rfl⟩ := R.op_ok q
      unfold enumI at q2
      split at q2
      · cases q2
        exact iv_enumT (ie.ok _ _ _ _ q1) (G.free _ h2) (glob_of h3).1 (fun _ => star_one h4)
      · cases q2
        exact iv_enumL (ie.ok _ _ _ _ q1) (G.free _ h2) (glob_of h3).1 (fun _ => star_one h4)
      · split at q2
        · rename_i hk
          cases q2
          exact iv_enumC (ie.ok _ _ _ _ q1) hk (G.free _ h2) (glob_of h3).1 (fun _ => star_one h4)
        · cases q2
      · cases q2
    · cases h⟩
end
end
end I
set_option Elab.async false
set_option linter.all false
set_option maxRecDepth 100000
set_option maxHeartbeats 4000000
/-! I8: soundness of statements. -/
namespace I
open PySem PySem.Spec PyProof.Rows L2 G
open scoped Classical
/-- how a statement of the small language ends, as an end of the layer -/
def O.oc : O → Option (Oc × Store)
  | .nx δ L => some (.nx δ, L)
  | .rt d L => some (.rt d, L)
  | .ct δ L => some (.ct δ, L)
  | .ex C δ L => some (.ex C δ, L)
  | .no => none
def ExOk (C : Cfg) : Oc → Prop
  | .ex X _ => C.excs.contains X = true
  | _ => True
section
variable {T : Sta} {C : Cfg} {k : Nat} {Φ : Calls} {N : List Str}
structure Snd1 (T : Sta) (C : Cfg) (Γ : GC) (Φ : Calls) (x : Stmt) (s : S) : Prop where
  ok : ∀ δ L o L', (run Φ s δ L).oc = some (o, L') → ExOk C o ∧ S1 T Γ x δ L o L'
structure SndS (T : Sta) (C : Cfg) (Γ : GC) (Φ : Calls) (xs : List Stmt) (s : Ss) : Prop where
  ok : ∀ δ L o L', (runs Φ s δ L).oc = some (o, L') → ExOk C o ∧ SV T Γ xs δ L o L'
theorem st_eq {α : Type} {r : R α} {δ : Env'} {f : α → Store → O} {o : Oc} {L : Store} (h : (r.st δ f).oc = some (o, L)) : (∃ a M, r = .ok a M ∧ (f a M).oc = some (o, L)) ∨ ∃ X, r = .ex X L ∧ o = .ex X δ := by
  cases r with
  | ok a M => exact .inl ⟨a, M, rfl, h⟩
  | ex X M =>
    cases h
    exact .inr ⟨X, rfl, rfl⟩
  | no => cases h
theorem sn_eq {α : Type} {r : R α} {f : α → Store → O} {o : Oc} {L : Store} (h : (r.sn f).oc = some (o, L)) : ∃ a M, r = .ok a M ∧ (f a M).oc = some (o, L) := by
  cases r with
  | ok a M => exact ⟨a, M, rfl, h⟩
  | ex X M => cases h
  | no => cases h
/-! ### for -/
theorem for_fv {Γ : GC} {body : List Stmt} {t : List Nat} {tup : Bool} {run : Env' → Store → O} {P : Store → Prop} (hb : ∀ δ L o L', (run δ L).oc = some (o, L') → ExOk C o ∧ SV T Γ body δ L o L') :
    ∀ (ds : List D) (δ : Env') (L : Store) (o : Oc) (L' : Store), (forR (bindT t tup) run P ds δ L).oc = some (o, L') → ExOk C o ∧ FV T Γ (tgOf T t tup) body P ds δ L o L' := by
  intro ds
  induction ds with
  | nil =>
    intro δ L o L' h
    cases h
    exact ⟨trivial, .nil⟩
  | cons d ds ih =>
    intro δ L o L' h
    unfold forR at h
    split at h
    · cases h
    · rename_i δ1 hb1
      have gb := gb_ok (T := T) hb1
      split at h
      · rename_i δ2 L2 q
        split at h
        · rename_i p
          obtain ⟨h1, h2⟩ := ih _ _ _ _ h
          exact ⟨h1, .step gb (hb δ1 L (.nx δ2) L2 (by rw [q]; rfl)).2 p h2⟩
        · cases h
      · rename_i δ2 L2 q
        split at h
        · rename_i p
          obtain ⟨h1, h2⟩ := ih _ _ _ _ h
          exact ⟨h1, .cont gb (hb δ1 L (.ct δ2) L2 (by rw [q]; rfl)).2 p h2⟩
        · cases h
      · obtain ⟨h1, h2⟩ := hb _ _ _ _ h
        refine ⟨h1, ?_⟩
        cases o with
        | rt d => exact .ret gb h2
        | ex X δ2 => exact .exc gb h2
        | nx δ2 =>
          rename_i n1 n2
          cases q : run δ1 L with
          | nx δ3 L3 => exact absurd q (n1 _ _)
          | _ => rw [q] at h; cases h
        | ct δ2 =>
          rename_i n1 n2
          cases q : run δ1 L with
          | ct δ3 L3 => exact absurd q (n2 _ _)
          | _ => rw [q] at h; cases h
        | bk δ2 =>
          cases q : run δ1 L <;> rw [q] at h <;> cases h
/-! ### while -/
theorem wh_wv {Γ : GC} {c : Expr} {body : List Stmt} {cond : Env' → Store → R Bool} {run : Env' → Store → O} (hc : ∀ δ L b L', cond δ L = .ok b L' → TV T Γ c δ L b L') (hb : ∀ δ L o L', (run δ L).oc = some (o, L') → ExOk C o ∧ SV T Γ body δ L o L') :
    ∀ (n : Nat) (δ : Env') (L : Store) (o : Oc) (L' : Store), (whN cond run n δ L).oc = some (o, L') → ExOk C o ∧ ∃ m, WhV T Γ c body δ L o L' m := by
  intro n
  induction n with
  | zero =>
    intro δ L o L' h
    cases h
  | succ n ih =>
    intro δ L o L' h
    unfold whN at h
    obtain ⟨b, M, h1, h2⟩ := sn_eq h
    have t1 := hc _ _ _ _ h1
    split at h2
    · rename_i e
      subst e
      split at h2
      · rename_i δ2 L2 q
        obtain ⟨x1, m, x2⟩ := ih _ _ _ _ h2
        exact ⟨x1, m + 1, .step t1 (hb δ M (.nx δ2) L2 (by rw [q]; rfl)).2 x2⟩
      · rename_i d L2 q
        cases h2
        exact ⟨trivial, 0, .ret t1 (hb δ M (.rt d) L' (by rw [q]; rfl)).2⟩
      · rename_i X δ2 L2 q
        cases h2
        obtain ⟨y1, y2⟩ := hb δ M (.ex X δ2) L' (by rw [q]; rfl)
        exact ⟨y1, 0, .exc t1 y2⟩
      · cases h2
    · rename_i e
      have e' : b = false := by simpa using e
      subst e'
      cases h2
      exact ⟨trivial, 0, .stop t1⟩
/-! ### handlers -/
theorem hb_sv {Γ : GC} (hN : Γ.N = N) {h : Hb} {x : List Stmt} {δ : Env'} {L : Store} {o : Oc} {L' : Store} (hx : hbB C N Γ.sc h x = true) (e : (hbR h δ L).oc = some (o, L')) : SV T Γ.off x δ L o L' ∧ ∀ X a, o ≠ .ex X a := by
  have ge : ∀ {Γ : GC} {v : E} {xe : Expr} {sc : Scope}, chkE C N v sc xe = true → ((∃ i, v = .int i) → ∃ i j p, v = .int i ∧ xe = .Constant (.int i) j p) ∧ ((∃ i, v = .bl i) → ∃ i j p, v = .bl i ∧ xe = .Constant (.bool i) j p) ∧ ((∃ i, v = .str i) → ∃ i j p, v = .str i ∧ xe = .Constant (.str i) j p) ∧ (v = .non → ∃ j p, xe = .Constant .none j p) := fun {Γ v xe sc} h => by
    refine ⟨?_, ?_, ?_, ?_⟩
    · rintro ⟨i, rfl⟩
      unfold chkE at h
      split at h
      · cases beq_iff_eq.mp h
        exact ⟨_, _, _, rfl, rfl⟩
      · cases h
    · rintro ⟨i, rfl⟩
      unfold chkE at h
      split at h
      · cases beq_iff_eq.mp h
        exact ⟨_, _, _, rfl, rfl⟩
      · cases h
    · rintro ⟨i, rfl⟩
      unfold chkE at h
      split at h
      · cases beq_iff_eq.mp h
        exact ⟨_, _, _, rfl, rfl⟩
      · cases h
    · rintro rfl
      unfold chkE at h
      split at h
      · exact ⟨_, _, rfl⟩
      · cases h
  unfold hbB at hx
  split at hx
  · rename_i i v n p xe q
    rw [Bool.and_eq_true, Bool.and_eq_true, beq_iff_eq] at hx
    obtain ⟨⟨h1, h2⟩, h3⟩ := hx
    have hl : Loc Γ.off.sc n := loc_of h2
    have hn : Γ.off.N[i]? = some n := by
      show Γ.N[i]? = _
      rw [hN]
      exact h1
    split at h3
    · obtain ⟨_, _, _, ev, rfl⟩ := (ge (Γ := Γ) h3).1 ⟨_, rfl⟩
      cases ev
      cases e
      exact ⟨sv_one (s_set i ev_int hn hl (fun _ => rfl)), nofun⟩
    · obtain ⟨_, _, _, ev, rfl⟩ := (ge (Γ := Γ) h3).2.1 ⟨_, rfl⟩
      cases ev
      cases e
      exact ⟨sv_one (s_set i ev_bl hn hl (fun _ => rfl)), nofun⟩
    · obtain ⟨_, _, _, ev, rfl⟩ := (ge (Γ := Γ) h3).2.2.1 ⟨_, rfl⟩
      cases ev
      cases e
      exact ⟨sv_one (s_set i ev_str hn hl (fun _ => rfl)), nofun⟩
    · obtain ⟨_, _, rfl⟩ := (ge (Γ := Γ) h3).2.2.2 rfl
      cases e
      exact ⟨sv_one (s_set i ev_non hn hl (fun _ => rfl)), nofun⟩
    · cases h3
  · rename_i i j n p jj q1 q2 q3
    rw [Bool.and_eq_true, Bool.and_eq_true, beq_iff_eq, beq_iff_eq] at hx
    obtain ⟨⟨h1, h2⟩, h3⟩ := hx
    subst h3
    have e' : (match δ[i]? with
      | some (some (.int j)) => O.nx (δ.set i (some (.int (j + jj)))) L
      | _ => .no).oc = some (o, L') := e
    split at e'
    · rename_i hd
      cases e'
      have hn : Γ.off.N[i]? = some n := by
        show Γ.N[i]? = _
        rw [hN]
        exact h1
      exact ⟨sv_one (s_augI (f := fun a b => a + b) i (fun X => ip_add) hd ev_int hn (loc_of h2)), nofun⟩
    · cases e'
  · rename_i i v n np at_ ap xe pos spos
    simp only [Bool.and_eq_true, beq_iff_eq, Bool.not_eq_true', dunder] at hx
    obtain ⟨⟨⟨⟨⟨⟨⟨h1, h2⟩, h3⟩, h4⟩, h5⟩, h6⟩, h7⟩, h8⟩ := hx
    subst h5
    have hn : Γ.off.N[i]? = some n := by
      show Γ.N[i]? = _
      rw [hN]
      exact h1
    have e' : (match δ[i]? with
      | some (some (.ref k)) => match L[k]? with
        | some (.list ds) => if ds.length < sizeLine then (match v with
          | .int j => O.nx δ (L.set k (.list (ds ++ [D.int j])))
          | .str j => .nx δ (L.set k (.list (ds ++ [D.str j])))
          | _ => .no) else .no
        | _ => .no
      | _ => .no).oc = some (o, L') := e
    split at e'
    · rename_i k hd
      split at e'
      · rename_i ds hk
        split at e'
        · rename_i hz
          have ho : ∀ L, EV T Γ.off (.Name n np) δ L (.ref k) L := fun L => ev_name i hn hd (vis_of h2) h3 h4
          split at h8
          · obtain ⟨_, _, _, ev, rfl⟩ := (ge (Γ := Γ) h8).1 ⟨_, rfl⟩
            cases ev
            cases e'
            exact ⟨sv_one (s_expr (ev_append (ho L) ⟨_, hk⟩ ev_int hk hz rfl h7 (by simp [h6])) (fun _ => rfl)), nofun⟩
          · obtain ⟨_, _, _, ev, rfl⟩ := (ge (Γ := Γ) h8).2.2.1 ⟨_, rfl⟩
            cases ev
            cases e'
            exact ⟨sv_one (s_expr (ev_append (ho L) ⟨_, hk⟩ ev_str hk hz rfl h7 (by simp [h6])) (fun _ => rfl)), nofun⟩
          · cases h8
        · cases e'
      · cases e'
    · cases e'
  · cases hx
theorem hds_hdf {Γ : GC} (G : Good T C) (hN : Γ.N = N) : ∀ {hs : List (Str × Hb)} {xs : List ExceptHandler}, hdsB C N Γ.sc hs xs = true →
    ∃ l, HdF T Γ xs l ∧ ∀ X δ L o L', C.excs.contains X = true → (hdR X hs δ L).oc = some (o, L') → HV T Γ X l δ L o L' ∧ ExOk C o
  | [], [], _ => ⟨_, .nil, fun X δ L o L' hX e => by
    cases e
    exact ⟨.out, hX⟩⟩
  | (X, h) :: r, x :: q, hx => by
    unfold hdsB at hx
    split at hx
    · rename_i e1 e2
      cases e1
    · rename_i X' h' r' n np su p q' e1 e2
      cases e1
      cases e2
      simp only [Bool.and_eq_true, beq_iff_eq] at hx
      obtain ⟨⟨⟨⟨h1, h2⟩, h3⟩, h4⟩, h5⟩ := hx
      subst h1
      obtain ⟨l, hl, hv⟩ := hds_hdf G hN h5
      obtain ⟨g1, g2, _⟩ := glob_of h3
      cases su with
      | nil =>
        unfold hbB at h4
        split at h4
        · rename_i e
          cases e
        · rename_i e
          cases e
        · rename_i e
          cases e
        · cases h4
      | cons b0 su =>
        refine ⟨_, .cons (G.exc _ h2) g1 g2 hl, fun Y δ L o L' hY e => ?_⟩
        unfold hdR at e
        split at e
        · rename_i ht
          obtain ⟨s1, s2⟩ := hb_sv hN h4 e
          refine ⟨.hit ?_ s1 s2, ?_⟩
          · rw [G.exm _ _ hY h2, ht]
          · cases o with
            | ex X a => exact absurd rfl (s2 X a)
            | _ => trivial
        · rename_i ht
          obtain ⟨v1, v2⟩ := hv Y δ L o L' hY e
          refine ⟨.miss ?_ v1, v2⟩
          rw [G.exm _ _ hY h2]
          simp only [Bool.not_eq_true] at ht
          rw [ht]
    · cases hx
  | [], _ :: _, hx => by cases hx
  | _ :: _, [], hx => by cases hx
/-! ### stores -/
theorem augI_ok {i : Nat} {op : Bop} {o : Operator} {y : D} {δ : Env'} {L : Store} {q : Oc} {L' : Store} (hop : bopB op o = true) (h : (match δ[i]?, y, op with
    | some (some (.int a)), .int b, .add => O.nx (δ.set i (some (.int (a + b)))) L
    | some (some (.int a)), .int b, .sub => .nx (δ.set i (some (.int (a - b)))) L
    | _, _, _ => .no).oc = some (q, L')) : L' = L ∧ ∃ a b, δ[i]? = some (some (.int a)) ∧ y = .int b ∧ ((o = .Add ∧ q = .nx (δ.set i (some (.int (a + b))))) ∨ (o = .Sub ∧ q = .nx (δ.set i (some (.int (a - b)))))) := by
  split at h
  · rename_i a b e1
    cases h
    cases o <;> first | (cases hop; done) | exact ⟨rfl, a, b, e1, rfl, .inl ⟨rfl, rfl⟩⟩
  · rename_i a b e1
    cases h
    cases o <;> first | (cases hop; done) | exact ⟨rfl, a, b, e1, rfl, .inr ⟨rfl, rfl⟩⟩
  · cases h
end
end I
set_option Elab.async false
set_option linter.all false
set_option maxRecDepth 100000
set_option maxHeartbeats 4000000
/-! I9: soundness of statements, of defs. -/
namespace I
open PySem PySem.Spec PyProof.Rows L2 G
open scoped Classical
section
variable {T : Sta} {C : Cfg} {k : Nat} {Φ : Calls} {N : List Str}
theorem set_lc (G : Good T C) (P : PhiOk T C k Φ) {e : E} {sc : Scope} {i : Nat} {n : Str} {np sp : Pos} {xe : Expr} {δ : Env'} {L L' : Store} {d : D} (h : chkE C N e sc xe = true) (hn : N[i]? = some n) (hnk : notLk e = true) (hl : lcSet sc n np xe = true) (q : ev Φ e δ L = .ok d L') :
    S1 T (gc N k sc) (.Assign [.Name n np] xe sp) δ L (.nx (δ.set i (some d))) L' := by
  unfold lcSet at hl
  split at hl
  · rename_i xe gens scope p
    simp only [Bool.and_eq_true, decide_eq_true_eq, Bool.not_eq_true'] at hl
    obtain ⟨⟨⟨l1, l2⟩, l3⟩, l4⟩ := hl
    cases e with
    | lc elt t tup it c own =>
      unfold chkE at h
      split at h
      · rename_i xe' tg xi ifs scope' pos eq
        cases eq
        simp only [Bool.and_eq_true] at h
        obtain ⟨⟨⟨⟨⟨⟨⟨h1, h2⟩, h3⟩, h4⟩, h5⟩, h6⟩, h7⟩, h8⟩ := h
        unfold ev at q
        obtain ⟨its, M, q1, q⟩ := R.bd_eq q
        split at q
        · rename_i hz
          obtain ⟨q2, rfl⟩ := R.op_ok q
          cases q3 : lcL (lcStep (fun d => bindT t tup d (wipeE δ own)) (fun δ1 => evc Φ c δ1 L') (fun δ1 => ev Φ elt δ1 L') L') its.ds with
          | none => rw [q3] at q2; cases q2
          | some ys =>
            rw [q3] at q2
            cases q2
            have it_ := sndI G P it sc _ h4
            have ie : Snd T C ((gc N k sc).blk scope) Φ xe elt := sndE G P elt _ _ h6
            have hiv := it_.iv _ (tup_of h1 h2) _ _ _ _ q1
            have hk : (gc N k sc).sc.kind = .function := l1
            split at h8
            · obtain ⟨f, e1, tn⟩ := lc_turn (oc := none) ie (fun δ1 b hb => by cases hb; rfl) q3
              rw [e1]
              exact s_setlc (c := none) i (ownOf N own) f hiv hz.2 (tl_ok (Γ := (gc N k sc).blk _) rfl rfl h1) (by rw [own_snd]; exact own_all h3) tn hz.1 rfl h7 (folded_ok h5) hn (lol_of l2) hk (by simpa using l3) l4
            · rw [Bool.and_eq_true] at h8
              have ic : Snd T C ((gc N k sc).blk scope) Φ _ _ := sndE G P _ _ _ h8.2
              obtain ⟨f, e1, tn⟩ := lc_turn (oc := some _) ie (fun δ1 b hb => evc_tv ic h8.1 hb) q3
              rw [e1]
              exact s_setlc (c := some _) i (ownOf N own) f hiv hz.2 (tl_ok (Γ := (gc N k sc).blk _) rfl rfl h1) (by rw [own_snd]; exact own_all h3) tn hz.1 rfl h7 (folded_ok h5) hn (lol_of l2) hk (by simpa using l3) l4
            · cases h8
        · cases q
      · cases h
    | lk a e => cases hnk
    | _ => cases h
  · cases hl
theorem faug_ok {op : Bop} {o : Operator} {v : Option D} {y : D} {f g : Int → Int → Store} {δ : Env'} {q : Oc} {L' : Store} (hop : bopB op o = true) (h : (match v, y, op with
    | some (.int a), .int b, .add => O.nx δ (f a b)
    | some (.int a), .int b, .sub => O.nx δ (g a b)
    | _, _, _ => .no).oc = some (q, L')) : ∃ a b, v = some (.int a) ∧ y = .int b ∧ ((o = .Add ∧ q = .nx δ ∧ L' = f a b) ∨ (o = .Sub ∧ q = .nx δ ∧ L' = g a b)) := by
  split at h
  · rename_i a b
    cases h
    cases o <;> first | (cases hop; done) | exact ⟨a, b, rfl, rfl, .inl ⟨rfl, rfl, rfl⟩⟩
  · rename_i a b
    cases h
    cases o <;> first | (cases hop; done) | exact ⟨a, b, rfl, rfl, .inr ⟨rfl, rfl, rfl⟩⟩
  · cases h
theorem daug_ok {op : Bop} {o : Operator} {v : Option D} {y : D} {f g : Int → Int → Store} {δ : Env'} {q : Oc} {L' : Store} (hop : bopB op o = true) (h : (match v, y, op with
    | some (.int a), .int b, .add => O.nx δ (f a b)
    | some (.int a), .int b, .sub => O.nx δ (g a b)
    | _, _, _ => .no).oc = some (q, L')) : ∃ a b, v = some (.int a) ∧ y = .int b ∧ ((o = .Add ∧ q = .nx δ ∧ L' = f a b) ∨ (o = .Sub ∧ q = .nx δ ∧ L' = g a b)) := faug_ok hop h
theorem lc_nex {e : E} {sc : Scope} {n : Str} {np : Pos} {xe : Expr} {δ : Env'} {L L' : Store} {X : Str} (h : chkE C N e sc xe = true) (hnk : notLk e = true) (hl : lcSet sc n np xe = true) (q : ev Φ e δ L = .ex X L') : False := by
  unfold lcSet at hl
  split at hl
  · cases e with
    | lc elt t tup it c own =>
      unfold ev at q
      obtain ⟨its, M, q1, q⟩ := R.bd_ex' q
      split at q
      · exact R.op_nex q
      · cases q
    | lk a e => cases hnk
    | _ => cases h
  · cases hl
theorem test_ok {Γ : GC} {x : Expr} {e : E} (s : Snd T C Γ Φ x e) (h : tOk e = true) : ∀ δ L b L', tst Φ e δ L = .ok b L' → TV T Γ x δ L b L' := s.tv h
mutual
theorem sndS (G : Good T C) (P : PhiOk T C k Φ) : ∀ (s : S) (sc : Scope) (x : Stmt), chkS C N s sc x = true → Snd1 T C (gc N k sc) Φ x s
  | .expr e, sc, x, h => by
    unfold chkS at h
    split at h
    · rw [Bool.and_eq_true] at h
      have ie := sndE G P e sc _ h.2
      refine ⟨fun δ L o L' q => ?_⟩
      unfold run at q
      rcases st_eq q with ⟨d, M, q1, q2⟩ | ⟨X, q1, rfl⟩
      · cases q2
        exact ⟨trivial, s_expr (ie.ok _ _ _ _ q1) (fun _ => swaps_ok h.1)⟩
      · obtain ⟨x1, x2⟩ := ie.ex _ _ _ _ q1
        exact ⟨x1, s_exprX x2 (fun _ => swaps_ok h.1)⟩
    · cases h
  | .set t tup e, sc, x, h => by
    unfold chkS at h
    split at h
    · rename_i tg xe pos
      simp only [Bool.and_eq_true] at h
      obtain ⟨⟨h1, h2⟩, h3⟩ := h
      have ie := sndE G P e sc _ h2
      have ht := tg_ok (T := T) (Γ := gc N k sc) rfl rfl h1
      have hpl : plainE tg = true := by
        unfold tgB at h1
        split at h1 <;> first | rfl | cases h1
      have hnl : ∀ a b, tg ≠ .List a b := fun a b e => by
        subst e
        unfold tgB at h1
        split at h1 <;> first | (rename_i e; cases e; done) | cases h1
      refine ⟨fun δ L o L' q => ?_⟩
      unfold run at q
      split at h3
      · rename_i hlc
        rw [Bool.or_eq_true] at h3
        have hsw : noTup xe = true ∨ noTup tg = true ∧ (∀ a b, tg ≠ .List a b) := h3.imp id fun z => ⟨z, hnl⟩
        rcases st_eq q with ⟨d, M, q1, q2⟩ | ⟨X, q1, rfl⟩
        · split at q2
          · rename_i δ1 hb
            cases q2
            exact ⟨trivial, s_asg (ie.ok _ _ _ _ q1) ht (gb_ok hb) (fun _ => swapsS_ok hlc) (fun _ => swapped_ok hsw) (fun _ => assignE_one hpl)⟩
          · cases q2
        · obtain ⟨x1, x2⟩ := ie.ex _ _ _ _ q1
          exact ⟨x1, s_asgX x2 ht (fun _ => swapsS_ok hlc) (fun _ => swapped_ok hsw) (fun _ => assignE_one hpl)⟩
      · split at h3
        · rename_i n np
          rw [Bool.and_eq_true, Bool.and_eq_true] at h3
          have htup : tup = false := by simpa using h3.1
          subst htup
          have hi : ∃ i, t = [i] ∧ N[i]? = some n := by
            unfold tgB at h1
            split at h1
            · rename_i e
              rw [Bool.and_eq_true, beq_iff_eq] at h1
              cases e
              exact ⟨_, rfl, h1.1⟩
            · rename_i e _
              cases e
            · cases h1
          obtain ⟨i, rfl, hn⟩ := hi
          rcases st_eq q with ⟨d, M, q1, q2⟩ | ⟨X, q1, rfl⟩
          · have q3 : (O.nx (δ.set i (some d)) M).oc = some (o, L') := q2
            cases q3
            exact ⟨trivial, set_lc G P h2 hn h3.2.1 h3.2.2 q1⟩
          · exact (lc_nex h2 h3.2.1 h3.2.2 q1).elim
        · cases h3
    · cases h
  | .fset D o f e, sc, x, h => by
    unfold chkS at h
    split at h
    · simp only [Bool.and_eq_true, beq_iff_eq] at h
      obtain ⟨⟨⟨⟨h1, h2⟩, h3⟩, h4⟩, h5⟩ := h
      subst h1
      have io := sndE G P o sc _ h4
      have ie := sndE G P e sc _ h5
      refine ⟨fun δ L r L' q => ?_⟩
      unfold run at q
      rcases st_eq q with ⟨d, M, q1, q2⟩ | ⟨X, q1, rfl⟩
      · obtain ⟨y, M2, q3, q4⟩ := sn_eq q2
        split at q4
        · split at q4
          · rename_i hk
            split at q4
            · rename_i hz
              obtain ⟨e1, e2⟩ := hz
              subst e1
              cases q4
              exact ⟨trivial, s_fld (ie.ok _ _ _ _ q1) (io.ok _ _ _ _ q3) hk (G.fld _ _ h2) e2 (fun _ => swaps_ok h3)⟩
            · cases q4
          · cases q4
        · cases q4
      · obtain ⟨x1, x2⟩ := ie.ex _ _ _ _ q1
        exact ⟨x1, s_fldX x2 (fun _ => swaps_ok h3)⟩
    · cases h
  | .dset o i e, sc, x, h => by
    unfold chkS at h
    split at h
    · simp only [Bool.and_eq_true] at h
      obtain ⟨⟨⟨h1, h2⟩, h3⟩, h4⟩ := h
      have io := sndE G P o sc _ h2
      have ii := sndE G P i sc _ h3
      have ie := sndE G P e sc _ h4
      refine ⟨fun δ L r L' q => ?_⟩
      unfold run at q
      obtain ⟨d, M, q1, qa⟩ := sn_eq q
      obtain ⟨y, M2, q2, qb⟩ := sn_eq qa
      obtain ⟨z, M3, q3, qc⟩ := sn_eq qb
      split at qc
      · rename_i hkey
        split at qc
        · rename_i hk
          split at qc
          · rename_i hz
            cases qc
            have ei := ii.ok _ _ _ _ q3
            rw [key_of hkey] at ei
            exact ⟨trivial, s_dput (ie.ok _ _ _ _ q1) (io.ok _ _ _ _ q2) ei hk hz rfl (fun _ => swaps_ok h1)⟩
          · cases qc
        · cases qc
      · cases qc
    · cases h
  | .aug i op e, sc, x, h => by
    unfold chkS at h
    split at h
    · simp only [Bool.and_eq_true, beq_iff_eq] at h
      obtain ⟨⟨⟨h1, h2⟩, h3⟩, h4⟩ := h
      have ie := sndE G P e sc _ h4
      refine ⟨fun δ L r L' q => ?_⟩
      unfold run at q
      obtain ⟨y, M, q1, qa⟩ := sn_eq q
      obtain ⟨rfl, a, b, e1, rfl, e3⟩ := augI_ok h3 qa
      have ee := ie.ok _ _ _ _ q1
      rcases e3 with ⟨rfl, rfl⟩ | ⟨rfl, rfl⟩
      · exact ⟨trivial, s_augI (f := fun a b => a + b) i (fun X => ip_add) e1 ee h1 (loc_of h2)⟩
      · exact ⟨trivial, s_augI (f := fun a b => a - b) i (fun X => ip_sub) e1 ee h1 (loc_of h2)⟩
    · cases h
  | .faug D o f op e, sc, x, h => by
    unfold chkS at h
    split at h
    · simp only [Bool.and_eq_true, beq_iff_eq] at h
      obtain ⟨⟨⟨⟨h1, h2⟩, h3⟩, h4⟩, h5⟩ := h
      subst h1
      have io := sndE G P o sc _ h4
      have ie := sndE G P e sc _ h5
      refine ⟨fun δ L r L' q => ?_⟩
      unfold run at q
      obtain ⟨y, M, q1, qa⟩ := sn_eq q
      obtain ⟨z, M2, q2, qb⟩ := sn_eq qa
      split at qb
      · split at qb
        · rename_i hk
          split at qb
          · rename_i hz
            obtain ⟨e1, e2', e3⟩ := hz
            subst e1
            subst e3
            have eo := io.ok _ _ _ _ q1
            have ee := ie.ok _ _ _ _ q2
            obtain ⟨a, b, e1, e2, e3⟩ := faug_ok h3 qb
            subst e2
            rcases e3 with ⟨rfl, rfl, rfl⟩ | ⟨rfl, rfl, rfl⟩
            · exact ⟨trivial, s_fldaug (h := fun i j => i + j) (fun X => in_add) eo hk e1 ee (G.fld _ _ h2) e2'⟩
            · exact ⟨trivial, s_fldaug (h := fun i j => i - j) (fun X => in_sub) eo hk e1 ee (G.fld _ _ h2) e2'⟩
          · cases qb
        · cases qb
      · cases qb
    · cases h
  | .daug o i op e, sc, x, h => by
    unfold chkS at h
    split at h
    · simp only [Bool.and_eq_true] at h
      obtain ⟨⟨⟨⟨h1, h2⟩, h3⟩, h4⟩, h5⟩ := h
      have io := sndE G P o sc _ h3
      have ii := sndE G P i sc _ h4
      have ie := sndE G P e sc _ h5
      refine ⟨fun δ L r L' q => ?_⟩
      unfold run at q
      obtain ⟨d, M, q1, qa⟩ := sn_eq q
      obtain ⟨y, M2, q2, qb⟩ := sn_eq qa
      obtain ⟨z, M3, q3, qc⟩ := sn_eq qb
      split at qc
      · rename_i hkey
        split at qc
        · rename_i hk
          split at qc
          · rename_i hz
            obtain ⟨hz1, hz2⟩ := hz
            subst hz2
            have ei := ii.ok _ _ _ _ q2
            rw [key_of hkey] at ei
            have eo := io.ok _ _ _ _ q1
            have ee := ie.ok _ _ _ _ q3
            obtain ⟨a, b, e1, e2, e3⟩ := daug_ok h2 qc
            subst e2
            rcases e3 with ⟨rfl, rfl, rfl⟩ | ⟨rfl, rfl, rfl⟩
            · exact ⟨trivial, s_daug (h := fun i j => i + j) (fun X => in_add) eo ei hk e1 ee hz1 rfl (aug_ok h1)⟩
            · exact ⟨trivial, s_daug (h := fun i j => i - j) (fun X => in_sub) eo ei hk e1 ee hz1 rfl (aug_ok h1)⟩
          · cases qc
        · cases qc
      · cases qc
    · cases h
  | .ret e, sc, x, h => by
    unfold chkS at h
    split at h
    · have ie := sndE G P e sc _ h
      refine ⟨fun δ L o L' q => ?_⟩
      unfold run at q
      rcases st_eq q with ⟨d, M, q1, q2⟩ | ⟨X, q1, rfl⟩
      · cases q2
        exact ⟨trivial, s_ret (ie.ok _ _ _ _ q1)⟩
      · obtain ⟨x1, x2⟩ := ie.ex _ _ _ _ q1
        exact ⟨x1, s_retX x2⟩
    · cases h
  | .retN, sc, x, h => by
    unfold chkS at h
    split at h
    · refine ⟨fun δ L o L' q => ?_⟩
      cases q
      exact ⟨trivial, s_retN⟩
    · cases h
  | .ite c a b, sc, x, h => by
    unfold chkS at h
    split at h
    · simp only [Bool.and_eq_true] at h
      obtain ⟨⟨⟨h1, h2⟩, h3⟩, h4⟩ := h
      have ic := sndE G P c sc _ h2
      have ia := sndSs G P a sc _ h3
      have ib := sndSs G P b sc _ h4
      refine ⟨fun δ L o L' q => ?_⟩
      unfold run at q
      obtain ⟨t, M, q1, qa⟩ := sn_eq q
      have tc := ic.tv h1 _ _ _ _ q1
      split at qa
      · rename_i e
        subst e
        obtain ⟨x1, x2⟩ := ia.ok _ _ _ _ qa
        exact ⟨x1, s_ifT tc x2⟩
      · rename_i e
        have e' : t = false := by simpa using e
        subst e'
        obtain ⟨x1, x2⟩ := ib.ok _ _ _ _ qa
        exact ⟨x1, s_ifF tc x2⟩
    · cases h
  | .for_ t tup it b, sc, x, h => by
    unfold chkS at h
    split at h
    · simp only [Bool.and_eq_true] at h
      obtain ⟨⟨⟨⟨h1, h2⟩, h3⟩, h4⟩, h5⟩ := h
      have it_ := sndI G P it sc _ h3
      have ib := sndSs G P b sc _ h5
      refine ⟨fun δ L o L' q => ?_⟩
      unfold run at q
      obtain ⟨its, M, q1, qa⟩ := sn_eq q
      split at qa
      · rename_i hp
        obtain ⟨x1, x2⟩ := for_fv ib.ok _ _ _ _ _ qa
        exact ⟨x1, s_for (it_.iv _ (tup_of h1 h2) _ _ _ _ q1) hp (tg_ok (Γ := gc N k sc) rfl rfl h1) x2 rfl (folded_ok h4)⟩
      · cases qa
    · cases h
  | .wh c b, sc, x, h => by
    unfold chkS at h
    split at h
    · simp only [Bool.and_eq_true] at h
      obtain ⟨⟨h1, h2⟩, h3⟩ := h
      have ic := sndE G P c sc _ h2
      have ib := sndSs G P b sc _ h3
      refine ⟨fun δ L o L' q => ?_⟩
      unfold run whR at q
      split at q
      · obtain ⟨x1, m, x2⟩ := wh_wv (ic.tv h1) ib.ok _ _ _ _ _ q
        exact ⟨x1, s_while x2⟩
      · cases q
    · cases h
  | .rais X, sc, x, h => by
    unfold chkS at h
    split at h
    · simp only [Bool.and_eq_true, beq_iff_eq] at h
      obtain ⟨⟨h1, h2⟩, h3⟩ := h
      subst h1
      obtain ⟨g1, g2, _⟩ := glob_of h3
      refine ⟨fun δ L o L' q => ?_⟩
      cases q
      exact ⟨h2, s_raise (G.exc _ h2) rfl g1 g2⟩
    · cases h
  | .try_ b hs, sc, x, h => by
    unfold chkS at h
    split at h
    · rename_i xb hds pos
      simp only [Bool.and_eq_true] at h
      obtain ⟨⟨h1, h2⟩, h3⟩ := h
      have ib := sndSs G P b sc _ h2
      obtain ⟨l, hl, hv⟩ := hds_hdf (Γ := gc N k sc) G rfl h3
      refine ⟨fun δ L o L' q => ?_⟩
      cases hs with
      | nil => cases h1
      | cons y ys =>
        cases hds with
        | nil => cases h3
        | cons z zs =>
          unfold run at q
          split at q
          · rename_i X δ1 L1 e
            obtain ⟨x1, x2⟩ := ib.ok δ L (.ex X δ1) L1 (by rw [e]; rfl)
            obtain ⟨v1, v2⟩ := hv X δ1 L1 o L' x1 q
            exact ⟨v2, s_tryX x2 hl v1⟩
          · rename_i hne
            obtain ⟨x1, x2⟩ := ib.ok _ _ _ _ q
            refine ⟨x1, s_try x2 hl fun X a e => ?_⟩
            subst e
            cases q2 : runs Φ b δ L with
            | ex X' δ' L1 => exact hne _ _ _ q2
            | _ => rw [q2] at q; cases q
    · cases h
  | .pass, sc, x, h => by
    unfold chkS at h
    split at h
    · refine ⟨fun δ L o L' q => ?_⟩
      cases q
      exact ⟨trivial, s_pass⟩
    · cases h
  | .cont, sc, x, h => by
    unfold chkS at h
    split at h
    · refine ⟨fun δ L o L' q => ?_⟩
      cases q
      exact ⟨trivial, s_cont⟩
    · cases h
  | .lk a s, sc, x, h => by
    unfold chkS at h
    have ih := sndS G P s sc x h
    refine ⟨fun δ L o L' q => ?_⟩
    unfold run at q
    split at q
    · split at q
      · rename_i hk
        split at q
        · rename_i q2
          split at q
          · rename_i hl
            cases q
            exact ⟨trivial, s_lock hk (ih.ok _ _ _ _ (by rw [q2]; rfl)).2 hl trivial⟩
          · cases q
        · rename_i q2
          split at q
          · rename_i hl
            cases q
            exact ⟨trivial, s_lock hk (ih.ok _ _ _ _ (by rw [q2]; rfl)).2 hl trivial⟩
          · cases q
        · cases q
      · cases q
    · cases q
theorem sndSs (G : Good T C) (P : PhiOk T C k Φ) : ∀ (s : Ss) (sc : Scope) (xs : List Stmt), chkSs C N s sc xs = true → SndS T C (gc N k sc) Φ xs s
  | .nil, sc, [], h => by
    refine ⟨fun δ L o L' q => ?_⟩
    cases q
    exact ⟨trivial, sv_nil⟩
  | .cons s r, sc, x :: xs, h => by
    have h' : (chkS C N s sc x && chkSs C N r sc xs) = true := h
    rw [Bool.and_eq_true] at h'
    have is_ := sndS G P s sc x h'.1
    have ir := sndSs G P r sc xs h'.2
    refine ⟨fun δ L o L' q => ?_⟩
    unfold runs at q
    cases e : run Φ s δ L with
    | nx δ1 L1 =>
      rw [e] at q
      obtain ⟨_, x2⟩ := is_.ok δ L (.nx δ1) L1 (by rw [e]; rfl)
      obtain ⟨y1, y2⟩ := ir.ok _ _ _ _ q
      exact ⟨y1, sv_cons x2 y2⟩
    | rt d L1 =>
      rw [e] at q
      cases q
      obtain ⟨x1, x2⟩ := is_.ok δ L (.rt d) L' (by rw [e]; rfl)
      exact ⟨x1, sv_out x2 trivial⟩
    | ct δ1 L1 =>
      rw [e] at q
      cases q
      obtain ⟨x1, x2⟩ := is_.ok δ L (.ct δ1) L' (by rw [e]; rfl)
      exact ⟨x1, sv_out x2 trivial⟩
    | ex X δ1 L1 =>
      rw [e] at q
      cases q
      obtain ⟨x1, x2⟩ := is_.ok δ L (.ex X δ1) L' (by rw [e]; rfl)
      exact ⟨x1, sv_out x2 trivial⟩
    | no =>
      rw [e] at q
      cases q
  | .nil, sc, _ :: _, h => by cases h
  | .cons _ _, sc, [], h => by cases h
end
end
end I
set_option Elab.async false
set_option linter.all false
set_option maxRecDepth 100000
set_option maxHeartbeats 4000000
/-! I10: soundness of calls. -/
namespace I
open PySem PySem.Spec PyProof.Rows L2 G
open scoped Classical
/-- a def: its text, its code -/
structure DefOk (T : Sta) (C : Cfg) (P : Tab) (f : Nat) (a : Addr) (name qual : Str) (st : Stmt) : Prop where
  df : Df T a name qual st
  ex : ∃ (fd : Fd) (N ps : List Str), P f = some fd ∧ FnScope N ps (defScope st) ∧ ps.length = fd.np ∧ N.length = fd.ns ∧ chkSs C N fd.body (defScope st) (defBody st) = true ∧
    ∀ g, FunD T.K name qual (defArgs st) (defBody st) (defScope st) [] [] a g → Binds T.K g ps []
structure Prg (T : Sta) (C : Cfg) (P : Tab) : Prop where
  fn : ∀ f n, C.here f = true → C.name f = some (none, n) → T.mg n = some (.ref (He.ga T.K n)) ∧ ∃ q st, DefOk T C P f (He.ga T.K n) n q st
  mt : ∀ f X m, C.here f = true → C.name f = some (some X, m) → Cls T.K (He.ga T.K X) ∧ Meth T.K (He.ga T.K X) m (He.ma T.K (He.ga T.K X) m) ∧ ∃ n q st, DefOk T C P f (He.ma T.K (He.ga T.K X) m) n q st
section
variable {T : Sta} {C : Cfg} {P : Tab}
theorem body_ok (G : Good T C) {n f : Nat} {a : Addr} {name qual : Str} {st : Stmt} (H : PhiOk T C n ⟨call P n, call P (n - 1)⟩) (d : DefOk T C P f a name qual st) (ds : List D) (L : Store) : OutOk C (fun o L' => Fn T (n + 1) a ds L o L') (call P (n + 1) f ds L) := by
  obtain ⟨df, fd, N, ps, h1, h2, h3, h4, h5, h6⟩ := d
  rw [call_succ, h1]
  dsimp only
  split
  · rename_i hl
    have sn := sndSs G H fd.body _ _ h5
    have hlen : ds.length = ps.length := hl.trans h3.symm
    have hδ : (ds.map some ++ List.replicate (fd.ns - fd.np) none : Env') = ds.map some ++ List.replicate (N.length - ds.length) none := by rw [hlen, h3, h4]
    have go : ∀ o o' L', (runs ⟨call P n, call P (n - 1)⟩ fd.body (ds.map some ++ List.replicate (fd.ns - fd.np) none) L).oc = some (o', L') → Fin o' o → ExOk C o' ∧ Fn T (n + 1) a ds L o L' := fun o o' L' h hf => by
      obtain ⟨x1, x2⟩ := sn.ok _ _ _ _ h
      exact ⟨x1, fn_body df h2 hlen h6 hδ ⟨o', x2, hf⟩⟩
    cases e : runs ⟨call P n, call P (n - 1)⟩ fd.body (ds.map some ++ List.replicate (fd.ns - fd.np) none) L with
    | nx δ1 L1 => exact (go (.rt .non) (.nx δ1) L1 (by rw [e]; rfl) rfl).2
    | rt d L1 => exact (go (.rt d) (.rt d) L1 (by rw [e]; rfl) rfl).2
    | ex X δ1 L1 =>
      obtain ⟨x1, x2⟩ := go (.ex X) (.ex X δ1) L1 (by rw [e]; rfl) rfl
      exact ⟨x1, x2⟩
    | ct δ1 L1 => trivial
    | no => trivial
  · trivial
theorem OutOk.imp {Q Q' : Out → Store → Prop} {r : R D} (h : OutOk C Q r) (i : ∀ o L, Q o L → Q' o L) : OutOk C Q' r := by
  cases r with
  | ok d L => exact i _ _ h
  | ex X L => exact ⟨h.1, i _ _ h.2⟩
  | no => trivial
theorem phi_ok (G : Good T C) (H : Prg T C P) : ∀ n, PhiOk T C n ⟨call P n, call P (n - 1)⟩ := by
  intro n
  induction n with
  | zero => exact ⟨fun _ _ _ _ _ _ => trivial, fun _ _ _ _ _ _ _ => trivial, fun _ _ _ _ _ _ => trivial⟩
  | succ n ih =>
    refine ⟨fun f x h1 h2 ds L => ?_, fun f X m h1 h2 ds L => ?_, fun f X h1 h2 ds L => ?_⟩
    · obtain ⟨mg, q, st, d⟩ := H.fn f x h1 h2
      exact (body_ok G ih d ds L).imp fun o L' z => ⟨z, mg⟩
    · obtain ⟨cl, me, nm, q, st, d⟩ := H.mt f X m h1 h2
      exact (body_ok G ih d ds L).imp fun o L' z => ⟨z, cl, me⟩
    · exact (ih.mt f X _ h1 h2 ds L).imp fun o L' z => ⟨n, Nat.le_refl _, z⟩
end
end I
set_option Elab.async false
set_option linter.all false
set_option maxRecDepth 100000
set_option maxHeartbeats 4000000
/-! PB: printed by core.py: the program's defs and those that laws share, in the small language. -/
namespace I
open PySem PySem.Spec PyProof.Rows L2 G
def f_is_within : Nat := 0
def f_are_bytes : Nat := 1
def f_is_name : Nat := 2
def f_Disk_init : Nat := 3
def f_Disk_go_on : Nat := 4
def f_Disk_step : Nat := 5
def f_Disk_look : Nat := 6
def f_Disk_make : Nat := 7
def f_Disk_add : Nat := 8
def f_Disk_cut : Nat := 9
def f_Disk_drop : Nat := 10
def f_Disk_names : Nat := 11
def f_Disk_read : Nat := 12
def f_Disk_size : Nat := 13
def f_Disk_steps : Nat := 14
def f_Disk_left : Nat := 15
def f_is_body : Nat := 16
def f_is_row : Nat := 17
def f_checks : Nat := 18
def f_bytes_of : Nat := 19
def f_row_bytes : Nat := 20
def f_row_at : Nat := 21
def f_rows_of : Nat := 22
def f_rows_in : Nat := 23
def f_State_init : Nat := 24
def f_State_put : Nat := 25
def f_State_deal : Nat := 26
def f_State_change : Nat := 27
def f_State_follow : Nat := 28
def f_made : Nat := 29
def f_segment_name : Nat := 30
def f_segments : Nat := 31
def f_look_names : Nat := 32
def f_good_end : Nat := 33
def f_mend_last : Nat := 34
def f_read_all : Nat := 35
def f_look_settings : Nat := 36
def f_look_hand : Nat := 37
def f_Queue_init : Nat := 38
def f_Queue_active : Nat := 39
def f_Queue_write : Nat := 40
def f_Queue_put : Nat := 41
def f_Queue_ready : Nat := 42
def f_Queue_dead : Nat := 43
def f_Queue_take : Nat := 44
def f_Queue_look_held : Nat := 45
def f_Queue_done : Nat := 46
def f_Queue_letters : Nat := 47
def f_Queue_held : Nat := 48
def f_Queue_coming : Nat := 49
def f_Queue_clock : Nat := 50
def f_Queue_sizes : Nat := 51
def f_Queue_living : Nat := 52
def f_Queue_sweep : Nat := 53
def f_Queue_carry : Nat := 54
def f_Queue_put_all : Nat := 55
def f_Queue_give_back : Nat := 56
def f_Queue_wait : Nat := 57
def f_Queue_revive : Nat := 58
def f_is_deed : Nat := 59
def f_one_told : Nat := 60
def f_told_by : Nat := 61
def f_do : Nat := 62
def f_run : Nat := 63
def f_law_cell : Nat := 64
def f_law_mix : Nat := 65
def f_law_seed : Nat := 66
def f_law_pick : Nat := 67
def f_law_bytes : Nat := 68
def f_law_disk_deed : Nat := 69
def f_law_on_disk : Nat := 70
def f_law_disk_steps : Nat := 71
def f_law_with : Nat := 72
def f_law_files : Nat := 73
def f_law_caught : Nat := 74
def f_law_row : Nat := 75
def f_law_coded : Nat := 76
def f_law_row_bytes : Nat := 77
def f_law_rows : Nat := 78
def f_law_row_bytes_k11 : Nat := 79
def f_law_settings : Nat := 80
def f_law_queue : Nat := 81
def f_law_begin : Nat := 82
def f_law_size : Nat := 83
def f_law_write : Nat := 84
def f_law_ready : Nat := 85
def f_law_put : Nat := 86
def f_law_told : Nat := 87
def f_law_given : Nat := 88
def f_law_other : Nat := 89
def f_law_front_goes : Nat := 90
def f_law_deed : Nat := 91
def f_law_letters : Nat := 92
def f_law_done_so : Nat := 93
def f_law_states : Nat := 94
def f_law_stay : Nat := 95
def f_law_opened : Nat := 96
def f_law_told_k15 : Nat := 97
def f_law_other_k15 : Nat := 98
def f_law_queue_k15 : Nat := 99
def f_law_done_so_k15 : Nat := 100
def f_law_copy : Nat := 101
def f_law_copy_k24 : Nat := 102
def f_law_in_order : Nat := 103
def f_law_till_stop : Nat := 104
/-- is_within: 0 thing, 1 low, 2 high -/
def d_is_within : Fd := ⟨3, 3, Ss.cons (S.ret (E.bop true (Es.cons (E.isi (E.var 0) "int") (Es.cons (E.not (E.isi (E.var 0) "bool")) (Es.cons (E.chain .le .le (E.var 1) (E.var 0) (E.var 2)) Es.nil))))) Ss.nil⟩
/-- are_bytes: 0 thing, 1 one -/
def d_are_bytes : Fd := ⟨1, 2, Ss.cons (S.ret (E.bop true (Es.cons (E.isi (E.var 0) "tuple") (Es.cons (E.not (E.lc (E.var 1) [1] false (It.val (E.var 0)) (Oe.some (E.not (E.fn f_is_within (Es.cons (E.var 1) (Es.cons (E.int 0) (Es.cons (E.int 255) Es.nil)))))) [1])) Es.nil)))) Ss.nil⟩
/-- is_name: 0 thing, 1 sign -/
def d_is_name : Fd := ⟨1, 2, Ss.cons (S.ite (E.bop false (Es.cons (E.not (E.isi (E.var 0) "str")) (Es.cons (E.not (E.chain .le .le (E.int 1) (E.bi .len (Es.cons (E.var 0) Es.nil)) (E.int 8))) Es.nil))) (Ss.cons (S.ret (E.bl false)) Ss.nil) (Ss.nil)) (Ss.cons (S.ret (E.not (E.lc (E.var 1) [1] false (It.val (E.var 0)) (Oe.some (E.cmp .nin (E.var 1) (E.gstr "SIGNS" "abcdefghijklmnopqrstuvwxyz0123456789"))) [1]))) Ss.nil)⟩
/-- Disk.__init__: 0 self, 1 steps -/
def d_Disk_init : Fd := ⟨2, 2, Ss.cons (S.fset "Disk" (E.var 0) "files" (E.dict [] (Es.nil))) (Ss.cons (S.fset "Disk" (E.var 0) "room" E.non) (Ss.cons (S.fset "Disk" (E.var 0) "many" (E.int 0)) (Ss.cons (S.expr (E.mth "Disk" "go_on" f_Disk_go_on (E.var 0) (Es.cons (E.var 1) Es.nil))) Ss.nil)))⟩
/-- Disk.go_on: 0 self, 1 steps -/
def d_Disk_go_on : Fd := ⟨2, 2, Ss.cons (S.ite (E.bop true (Es.cons (E.notN (E.var 1)) (Es.cons (E.not (E.fn f_is_within (Es.cons (E.var 1) (Es.cons (E.int 0) (Es.cons (E.gint "MOST_STEPS" 100000) Es.nil))))) Es.nil))) (Ss.cons (S.rais "BadNumber") Ss.nil) (Ss.nil)) (Ss.cons (S.fset "Disk" (E.var 0) "room" (E.var 1)) Ss.nil)⟩
/-- Disk.step: 0 self -/
def d_Disk_step : Fd := ⟨1, 1, Ss.cons (S.ite (E.cmp .eq (E.fld "Disk" (E.var 0) "room") (E.int 0)) (Ss.cons (S.rais "Stopped") Ss.nil) (Ss.nil)) (Ss.cons (S.ite (E.notN (E.fld "Disk" (E.var 0) "room")) (Ss.cons (S.faug "Disk" (E.var 0) "room" .sub (E.int 1)) Ss.nil) (Ss.nil)) (Ss.cons (S.faug "Disk" (E.var 0) "many" .add (E.int 1)) Ss.nil))⟩
/-- Disk.look: 0 self, 1 name -/
def d_Disk_look : Fd := ⟨2, 2, Ss.cons (S.ite (E.not (E.fn f_is_name (Es.cons (E.var 1) Es.nil))) (Ss.cons (S.rais "BadName") Ss.nil) (Ss.nil)) (Ss.cons (S.ite (E.cmp .nin (E.var 1) (E.fld "Disk" (E.var 0) "files")) (Ss.cons (S.rais "Missing") Ss.nil) (Ss.nil)) Ss.nil)⟩
/-- Disk.make: 0 self, 1 name -/
def d_Disk_make : Fd := ⟨2, 2, Ss.cons (S.ite (E.not (E.fn f_is_name (Es.cons (E.var 1) Es.nil))) (Ss.cons (S.rais "BadName") Ss.nil) (Ss.nil)) (Ss.cons (S.ite (E.cmp .mem (E.var 1) (E.fld "Disk" (E.var 0) "files")) (Ss.cons (S.rais "There") Ss.nil) (Ss.nil)) (Ss.cons (S.expr (E.mth "Disk" "step" f_Disk_step (E.var 0) (Es.nil))) (Ss.cons (S.dset (E.fld "Disk" (E.var 0) "files") (E.var 1) (E.nlst (Es.nil))) Ss.nil)))⟩
/-- Disk.add: 0 self, 1 name, 2 some, 3 one -/
def d_Disk_add : Fd := ⟨3, 4, Ss.cons (S.expr (E.mth "Disk" "look" f_Disk_look (E.var 0) (Es.cons (E.var 1) Es.nil))) (Ss.cons (S.ite (E.not (E.fn f_are_bytes (Es.cons (E.var 2) Es.nil))) (Ss.cons (S.rais "BadRow") Ss.nil) (Ss.nil)) (Ss.cons (S.for_ [3] false (It.val (E.var 2)) (Ss.cons (S.expr (E.mth "Disk" "step" f_Disk_step (E.var 0) (Es.nil))) (Ss.cons (S.expr (E.bm .append (E.ix (E.fld "Disk" (E.var 0) "files") (E.var 1)) (Es.cons (E.var 3) Es.nil))) Ss.nil))) Ss.nil))⟩
/-- Disk.cut: 0 self, 1 name, 2 size -/
def d_Disk_cut : Fd := ⟨3, 3, Ss.cons (S.expr (E.mth "Disk" "look" f_Disk_look (E.var 0) (Es.cons (E.var 1) Es.nil))) (Ss.cons (S.ite (E.not (E.fn f_is_within (Es.cons (E.var 2) (Es.cons (E.int 0) (Es.cons (E.bi .len (Es.cons (E.ix (E.fld "Disk" (E.var 0) "files") (E.var 1)) Es.nil)) Es.nil))))) (Ss.cons (S.rais "BadNumber") Ss.nil) (Ss.nil)) (Ss.cons (S.expr (E.mth "Disk" "step" f_Disk_step (E.var 0) (Es.nil))) (Ss.cons (S.dset (E.fld "Disk" (E.var 0) "files") (E.var 1) (E.nsl (E.ix (E.fld "Disk" (E.var 0) "files") (E.var 1)) Oe.none (Oe.some (E.var 2)))) Ss.nil)))⟩
/-- Disk.drop: 0 self, 1 name -/
def d_Disk_drop : Fd := ⟨2, 2, Ss.cons (S.expr (E.mth "Disk" "look" f_Disk_look (E.var 0) (Es.cons (E.var 1) Es.nil))) (Ss.cons (S.expr (E.mth "Disk" "step" f_Disk_step (E.var 0) (Es.nil))) (Ss.cons (S.expr (E.bm .pop (E.fld "Disk" (E.var 0) "files") (Es.cons (E.var 1) Es.nil))) Ss.nil))⟩
/-- Disk.names: 0 self -/
def d_Disk_names : Fd := ⟨1, 1, Ss.cons (S.ret (E.bi .sorted (Es.cons (E.fld "Disk" (E.var 0) "files") Es.nil))) Ss.nil⟩
/-- Disk.read: 0 self, 1 name -/
def d_Disk_read : Fd := ⟨2, 2, Ss.cons (S.expr (E.mth "Disk" "look" f_Disk_look (E.var 0) (Es.cons (E.var 1) Es.nil))) (Ss.cons (S.ret (E.bi .tuple (Es.cons (E.ix (E.fld "Disk" (E.var 0) "files") (E.var 1)) Es.nil))) Ss.nil)⟩
/-- Disk.size: 0 self, 1 name -/
def d_Disk_size : Fd := ⟨2, 2, Ss.cons (S.expr (E.mth "Disk" "look" f_Disk_look (E.var 0) (Es.cons (E.var 1) Es.nil))) (Ss.cons (S.ret (E.bi .len (Es.cons (E.ix (E.fld "Disk" (E.var 0) "files") (E.var 1)) Es.nil))) Ss.nil)⟩
/-- Disk.steps: 0 self -/
def d_Disk_steps : Fd := ⟨1, 1, Ss.cons (S.ret (E.fld "Disk" (E.var 0) "many")) Ss.nil⟩
/-- Disk.left: 0 self -/
def d_Disk_left : Fd := ⟨1, 1, Ss.cons (S.ret (E.fld "Disk" (E.var 0) "room")) Ss.nil⟩
/-- is_body: 0 thing -/
def d_is_body : Fd := ⟨1, 1, Ss.cons (S.ret (E.bop true (Es.cons (E.fn f_are_bytes (Es.cons (E.var 0) Es.nil)) (Es.cons (E.cmp .le (E.bi .len (Es.cons (E.var 0) Es.nil)) (E.gint "MOST_BODY" 60)) Es.nil)))) Ss.nil⟩
/-- is_row: 0 thing -/
def d_is_row : Fd := ⟨1, 1, Ss.cons (S.ite (E.bop false (Es.cons (E.not (E.isi (E.var 0) "tuple")) (Es.cons (E.cmp .ne (E.bi .len (Es.cons (E.var 0) Es.nil)) (E.int 3)) (Es.cons (E.not (E.isi (E.ix (E.var 0) (E.int 0)) "str")) (Es.cons (E.cmp .nin (E.ix (E.var 0) (E.int 0)) (E.gtup "KINDS" ["put", "out", "done", "from", "part", "deal", "carried", "new"])) Es.nil))))) (Ss.cons (S.ret (E.bl false)) Ss.nil) (Ss.nil)) (Ss.cons (S.ite (E.bop false (Es.cons (E.not (E.fn f_is_within (Es.cons (E.ix (E.var 0) (E.int 1)) (Es.cons (E.int 0) (Es.cons (E.gint "MOST_NUMBER" 999999) Es.nil))))) (Es.cons (E.not (E.fn f_are_bytes (Es.cons (E.ix (E.var 0) (E.int 2)) Es.nil))) Es.nil))) (Ss.cons (S.ret (E.bl false)) Ss.nil) (Ss.nil)) (Ss.cons (S.ite (E.cmp .mem (E.ix (E.var 0) (E.int 0)) (E.tup (Es.cons (E.str "put") (Es.cons (E.str "part") Es.nil)))) (Ss.cons (S.ret (E.fn f_is_body (Es.cons (E.ix (E.var 0) (E.int 2)) Es.nil))) Ss.nil) (Ss.nil)) (Ss.cons (S.ite (E.cmp .eq (E.ix (E.var 0) (E.int 0)) (E.str "carried")) (Ss.cons (S.ret (E.bop true (Es.cons (E.cmp .gt (E.bi .len (Es.cons (E.ix (E.var 0) (E.int 2)) Es.nil)) (E.int 0)) (Es.cons (E.cmp .le (E.ix (E.ix (E.var 0) (E.int 2)) (E.int 0)) (E.gint "MOST_TRIES" 9)) (Es.cons (E.fn f_is_body (Es.cons (E.sl (E.ix (E.var 0) (E.int 2)) (Oe.some (E.int 1)) Oe.none) Es.nil)) Es.nil))))) Ss.nil) (Ss.nil)) (Ss.cons (S.ite (E.cmp .eq (E.ix (E.var 0) (E.int 0)) (E.str "deal")) (Ss.cons (S.ret (E.bop true (Es.cons (E.cmp .eq (E.bi .len (Es.cons (E.ix (E.var 0) (E.int 2)) Es.nil)) (E.int 1)) (Es.cons (E.fn f_is_within (Es.cons (E.ix (E.ix (E.var 0) (E.int 2)) (E.int 0)) (Es.cons (E.int 1) (Es.cons (E.gint "MOST_DEAL" 9) Es.nil)))) Es.nil)))) Ss.nil) (Ss.nil)) (Ss.cons (S.ret (E.cmp .eq (E.ix (E.var 0) (E.int 2)) (E.tup (Es.nil)))) Ss.nil)))))⟩
/-- checks: 0 some, 1 at, 2 one -/
def d_checks : Fd := ⟨1, 3, Ss.cons (S.ret (E.tup (Es.cons (E.bin .mod (E.bi .sum (Es.cons (E.var 0) Es.nil)) (E.int 256)) (Es.cons (E.bin .mod (E.bi .sum (Es.cons (E.lc (E.bin .mul (E.bin .add (E.var 1) (E.int 1)) (E.var 2)) [1, 2] true (It.enum (E.var 0)) Oe.none [1, 2]) Es.nil)) (E.int 256)) Es.nil)))) Ss.nil⟩
/-- bytes_of: 0 row, 1 number, 2 some -/
def d_bytes_of : Fd := ⟨1, 3, Ss.cons (S.set [1] false (E.ix (E.var 0) (E.int 1))) (Ss.cons (S.set [2] false (E.bin .add (E.tup (Es.cons (E.bin .add (E.gidx "KINDS" ["put", "out", "done", "from", "part", "deal", "carried", "new"] (E.ix (E.var 0) (E.int 0))) (E.int 1)) (Es.cons (E.bin .div (E.var 1) (E.int 65536)) (Es.cons (E.bin .mod (E.bin .div (E.var 1) (E.int 256)) (E.int 256)) (Es.cons (E.bin .mod (E.var 1) (E.int 256)) (Es.cons (E.bi .len (Es.cons (E.ix (E.var 0) (E.int 2)) Es.nil)) Es.nil)))))) (E.ix (E.var 0) (E.int 2)))) (Ss.cons (S.ret (E.bin .add (E.fn f_checks (Es.cons (E.var 2) Es.nil)) (E.var 2))) Ss.nil))⟩
/-- row_bytes: 0 row -/
def d_row_bytes : Fd := ⟨1, 1, Ss.cons (S.ite (E.not (E.fn f_is_row (Es.cons (E.var 0) Es.nil))) (Ss.cons (S.rais "BadRow") Ss.nil) (Ss.nil)) (Ss.cons (S.ret (E.fn f_bytes_of (Es.cons (E.var 0) Es.nil))) Ss.nil)⟩
/-- row_at: 0 some, 1 at, 2 end, 3 number, 4 row -/
def d_row_at : Fd := ⟨2, 5, Ss.cons (S.ite (E.bop false (Es.cons (E.cmp .lt (E.bi .len (Es.cons (E.var 0) Es.nil)) (E.bin .add (E.var 1) (E.gint "HEAD" 7))) (Es.cons (E.cmp .lt (E.bi .len (Es.cons (E.var 0) Es.nil)) (E.bin .add (E.bin .add (E.var 1) (E.gint "HEAD" 7)) (E.ix (E.var 0) (E.bin .sub (E.bin .add (E.var 1) (E.gint "HEAD" 7)) (E.int 1))))) Es.nil))) (Ss.cons (S.ret E.non) Ss.nil) (Ss.nil)) (Ss.cons (S.set [2] false (E.bin .add (E.bin .add (E.var 1) (E.gint "HEAD" 7)) (E.ix (E.var 0) (E.bin .sub (E.bin .add (E.var 1) (E.gint "HEAD" 7)) (E.int 1))))) (Ss.cons (S.ite (E.bop false (Es.cons (E.cmp .ne (E.fn f_checks (Es.cons (E.sl (E.var 0) (Oe.some (E.bin .add (E.var 1) (E.int 2))) (Oe.some (E.var 2))) Es.nil)) (E.sl (E.var 0) (Oe.some (E.var 1)) (Oe.some (E.bin .add (E.var 1) (E.int 2))))) (Es.cons (E.not (E.chain .le .le (E.int 1) (E.ix (E.var 0) (E.bin .add (E.var 1) (E.int 2))) (E.bi .len (Es.cons (E.gtup "KINDS" ["put", "out", "done", "from", "part", "deal", "carried", "new"]) Es.nil)))) Es.nil))) (Ss.cons (S.rais "Broken") Ss.nil) (Ss.nil)) (Ss.cons (S.set [3] false (E.bin .add (E.bin .add (E.bin .mul (E.ix (E.var 0) (E.bin .add (E.var 1) (E.int 3))) (E.int 65536)) (E.bin .mul (E.ix (E.var 0) (E.bin .add (E.var 1) (E.int 4))) (E.int 256))) (E.ix (E.var 0) (E.bin .add (E.var 1) (E.int 5))))) (Ss.cons (S.set [4] false (E.tup (Es.cons (E.ix (E.gtup "KINDS" ["put", "out", "done", "from", "part", "deal", "carried", "new"]) (E.bin .sub (E.ix (E.var 0) (E.bin .add (E.var 1) (E.int 2))) (E.int 1))) (Es.cons (E.var 3) (Es.cons (E.sl (E.var 0) (Oe.some (E.bin .add (E.var 1) (E.gint "HEAD" 7))) (Oe.some (E.var 2))) Es.nil))))) (Ss.cons (S.ite (E.not (E.fn f_is_row (Es.cons (E.var 4) Es.nil))) (Ss.cons (S.rais "Broken") Ss.nil) (Ss.nil)) (Ss.cons (S.ret (E.tup (Es.cons (E.var 4) (Es.cons (E.var 2) Es.nil)))) Ss.nil))))))⟩
/-- rows_of: 0 some, 1 found, 2 at, 3 here -/
def d_rows_of : Fd := ⟨1, 4, Ss.cons (S.set [1] false (E.nlst (Es.nil))) (Ss.cons (S.set [2] false (E.int 0)) (Ss.cons (S.set [3] false (E.fn f_row_at (Es.cons (E.var 0) (Es.cons (E.var 2) Es.nil)))) (Ss.cons (S.wh (E.notN (E.var 3)) (Ss.cons (S.expr (E.bm .append (E.var 1) (Es.cons (E.tup (Es.cons (E.ix (E.var 3) (E.int 0)) (Es.cons (E.var 2) Es.nil))) Es.nil))) (Ss.cons (S.set [2] false (E.ix (E.var 3) (E.int 1))) (Ss.cons (S.set [3] false (E.fn f_row_at (Es.cons (E.var 0) (Es.cons (E.var 2) Es.nil)))) Ss.nil)))) (Ss.cons (S.ret (E.tup (Es.cons (E.var 1) (Es.cons (E.var 2) Es.nil)))) Ss.nil))))⟩
/-- rows_in: 0 some, 1 found, 2 end, 3 row, 4 at -/
def d_rows_in : Fd := ⟨1, 5, Ss.cons (S.ite (E.not (E.fn f_are_bytes (Es.cons (E.var 0) Es.nil))) (Ss.cons (S.rais "BadRow") Ss.nil) (Ss.nil)) (Ss.cons (S.set [1, 2] true (E.fn f_rows_of (Es.cons (E.var 0) Es.nil))) (Ss.cons (S.ret (E.tup (Es.cons (E.lc (E.var 3) [3, 4] true (It.val (E.var 1)) Oe.none [3, 4]) (Es.cons (E.bin .sub (E.bi .len (Es.cons (E.var 0) Es.nil)) (E.var 2)) Es.nil)))) Ss.nil))⟩
/-- State.__init__: 0 self -/
def d_State_init : Fd := ⟨1, 1, Ss.cons (S.fset "State" (E.var 0) "mail" (E.dict [] (Es.nil))) (Ss.cons (S.fset "State" (E.var 0) "after" (E.int 0)) (Ss.cons (S.fset "State" (E.var 0) "parts" (E.nlst (Es.nil))) Ss.nil))⟩
/-- State.put: 0 self, 1 number, 2 body -/
def d_State_put : Fd := ⟨3, 3, Ss.cons (S.ite (E.cmp .lt (E.var 1) (E.fld "State" (E.var 0) "after")) (Ss.cons (S.rais "Broken") Ss.nil) (Ss.nil)) (Ss.cons (S.dset (E.fld "State" (E.var 0) "mail") (E.var 1) (E.tup (Es.cons (E.var 2) (Es.cons (E.int 0) Es.nil)))) (Ss.cons (S.fset "State" (E.var 0) "after" (E.bin .add (E.var 1) (E.int 1))) Ss.nil))⟩
/-- State.deal: 0 self, 1 first, 2 many, 3 number, 4 body -/
def d_State_deal : Fd := ⟨3, 5, Ss.cons (S.ite (E.cmp .ne (E.lc (E.var 3) [3, 4] true (It.val (E.fld "State" (E.var 0) "parts")) Oe.none [3, 4]) (E.lrng (E.var 1) (E.bin .add (E.var 1) (E.var 2)))) (Ss.cons (S.rais "Broken") Ss.nil) (Ss.nil)) (Ss.cons (S.for_ [3, 4] true (It.val (E.fld "State" (E.var 0) "parts")) (Ss.cons (S.expr (E.mth "State" "put" f_State_put (E.var 0) (Es.cons (E.var 3) (Es.cons (E.var 4) Es.nil)))) Ss.nil)) (Ss.cons (S.fset "State" (E.var 0) "parts" (E.nlst (Es.nil))) Ss.nil))⟩
/-- State.change: 0 self, 1 kind, 2 number, 3 body, 4 old, 5 times -/
def d_State_change : Fd := ⟨4, 6, Ss.cons (S.ite (E.cmp .eq (E.var 1) (E.str "carried")) (Ss.cons (S.dset (E.fld "State" (E.var 0) "mail") (E.var 2) (E.tup (Es.cons (E.sl (E.var 3) (Oe.some (E.int 1)) Oe.none) (Es.cons (E.ix (E.var 3) (E.int 0)) Es.nil)))) (Ss.cons (S.fset "State" (E.var 0) "after" (E.bi .max (Es.cons (E.fld "State" (E.var 0) "after") (Es.cons (E.bin .add (E.var 2) (E.int 1)) Es.nil)))) Ss.nil)) (Ss.nil)) (Ss.cons (S.ite (E.cmp .mem (E.var 2) (E.fld "State" (E.var 0) "mail")) (Ss.cons (S.set [4, 5] true (E.ix (E.fld "State" (E.var 0) "mail") (E.var 2))) (Ss.cons (S.ite (E.cmp .eq (E.var 1) (E.str "out")) (Ss.cons (S.dset (E.fld "State" (E.var 0) "mail") (E.var 2) (E.tup (Es.cons (E.var 4) (Es.cons (E.bin .add (E.var 5) (E.int 1)) Es.nil)))) Ss.nil) (Ss.nil)) (Ss.cons (S.ite (E.cmp .eq (E.var 1) (E.str "new")) (Ss.cons (S.dset (E.fld "State" (E.var 0) "mail") (E.var 2) (E.tup (Es.cons (E.var 4) (Es.cons (E.int 0) Es.nil)))) Ss.nil) (Ss.nil)) (Ss.cons (S.ite (E.cmp .eq (E.var 1) (E.str "done")) (Ss.cons (S.expr (E.bm .pop (E.fld "State" (E.var 0) "mail") (Es.cons (E.var 2) Es.nil))) Ss.nil) (Ss.nil)) Ss.nil)))) (Ss.nil)) Ss.nil)⟩
/-- State.follow: 0 self, 1 row, 2 kind, 3 number, 4 body -/
def d_State_follow : Fd := ⟨2, 5, Ss.cons (S.set [2, 3, 4] true (E.var 1)) (Ss.cons (S.ite (E.cmp .eq (E.var 2) (E.str "part")) (Ss.cons (S.expr (E.bm .append (E.fld "State" (E.var 0) "parts") (Es.cons (E.tup (Es.cons (E.var 3) (Es.cons (E.var 4) Es.nil))) Es.nil))) Ss.nil) (Ss.cons (S.ite (E.cmp .eq (E.var 2) (E.str "deal")) (Ss.cons (S.expr (E.mth "State" "deal" f_State_deal (E.var 0) (Es.cons (E.var 3) (Es.cons (E.ix (E.var 4) (E.int 0)) Es.nil)))) Ss.nil) (Ss.cons (S.ite (E.fld "State" (E.var 0) "parts") (Ss.cons (S.rais "Broken") Ss.nil) (Ss.cons (S.ite (E.cmp .eq (E.var 2) (E.str "put")) (Ss.cons (S.expr (E.mth "State" "put" f_State_put (E.var 0) (Es.cons (E.var 3) (Es.cons (E.var 4) Es.nil)))) Ss.nil) (Ss.cons (S.ite (E.cmp .eq (E.var 2) (E.str "from")) (Ss.cons (S.fset "State" (E.var 0) "after" (E.bi .max (Es.cons (E.fld "State" (E.var 0) "after") (Es.cons (E.var 3) Es.nil)))) Ss.nil) (Ss.cons (S.expr (E.mth "State" "change" f_State_change (E.var 0) (Es.cons (E.var 2) (Es.cons (E.var 3) (Es.cons (E.var 4) Es.nil))))) Ss.nil)) Ss.nil)) Ss.nil)) Ss.nil)) Ss.nil)) Ss.nil)⟩
/-- made: 0 rows, 1 row, 2 state, 3 number -/
def d_made : Fd := ⟨1, 4, Ss.cons (S.ite (E.bop false (Es.cons (E.not (E.isi (E.var 0) "list")) (Es.cons (E.lc (E.var 1) [1] false (It.val (E.var 0)) (Oe.some (E.not (E.fn f_is_row (Es.cons (E.var 1) Es.nil)))) [1]) Es.nil))) (Ss.cons (S.rais "BadRow") Ss.nil) (Ss.nil)) (Ss.cons (S.set [2] false (E.mk "State" f_State_init (Es.nil))) (Ss.cons (S.for_ [1] false (It.val (E.var 0)) (Ss.cons (S.expr (E.mth "State" "follow" f_State_follow (E.var 2) (Es.cons (E.var 1) Es.nil))) Ss.nil)) (Ss.cons (S.ite (E.fld "State" (E.var 2) "parts") (Ss.cons (S.rais "Broken") Ss.nil) (Ss.nil)) (Ss.cons (S.ret (E.tup (Es.cons (E.lc (E.bin .add (E.tup (Es.cons (E.var 3) Es.nil)) (E.ix (E.fld "State" (E.var 2) "mail") (E.var 3))) [3] false (It.val (E.bi .sorted (Es.cons (E.fld "State" (E.var 2) "mail") Es.nil))) Oe.none [3]) (Es.cons (E.fld "State" (E.var 2) "after") Es.nil)))) Ss.nil))))⟩
/-- segment_name: 0 number -/
def d_segment_name : Fd := ⟨1, 1, Ss.cons (S.ret (E.bin .add (E.str "s") (E.bi .str (Es.cons (E.var 0) Es.nil)))) Ss.nil⟩
/-- segments: 0 disk, 1 name -/
def d_segments : Fd := ⟨1, 2, Ss.cons (S.ret (E.bi .sorted (Es.cons (E.lc (E.bi .int (Es.cons (E.sl (E.var 1) (Oe.some (E.int 1)) Oe.none) Es.nil)) [1] false (It.val (E.mth "Disk" "names" f_Disk_names (E.var 0) (Es.nil))) Oe.none [1]) Es.nil))) Ss.nil⟩
/-- look_names: 0 disk, 1 name, 2 some, 3 sign -/
def d_look_names : Fd := ⟨1, 4, Ss.cons (S.for_ [1] false (It.val (E.mth "Disk" "names" f_Disk_names (E.var 0) (Es.nil))) (Ss.cons (S.ite (E.bop false (Es.cons (E.cmp .ne (E.sl (E.var 1) Oe.none (Oe.some (E.int 1))) (E.str "s")) (Es.cons (E.cmp .lt (E.bi .len (Es.cons (E.var 1) Es.nil)) (E.int 2)) (Es.cons (E.lc (E.var 3) [3] false (It.val (E.sl (E.var 1) (Oe.some (E.int 1)) Oe.none)) (Oe.some (E.cmp .nin (E.var 3) (E.gstr "FIGURES" "0123456789"))) [3]) Es.nil)))) (Ss.cons (S.rais "Broken") Ss.nil) (Ss.nil)) (Ss.cons (S.ite (E.cmp .ne (E.fn f_segment_name (Es.cons (E.bi .int (Es.cons (E.sl (E.var 1) (Oe.some (E.int 1)) Oe.none) Es.nil)) Es.nil)) (E.var 1)) (Ss.cons (S.rais "Broken") Ss.nil) (Ss.nil)) Ss.nil))) (Ss.cons (S.set [2] false (E.fn f_segments (Es.cons (E.var 0) Es.nil))) (Ss.cons (S.ite (E.bop true (Es.cons (E.var 2) (Es.cons (E.cmp .ne (E.var 2) (E.lrng (E.ix (E.var 2) (E.int 0)) (E.bin .add (E.ix (E.var 2) (E.int 0)) (E.bi .len (Es.cons (E.var 2) Es.nil))))) Es.nil))) (Ss.cons (S.rais "Broken") Ss.nil) (Ss.nil)) Ss.nil))⟩
/-- good_end: 0 rows, 1 end, 2 row, 3 at -/
def d_good_end : Fd := ⟨2, 4, Ss.cons (S.for_ [2, 3] true (It.val (E.rev (E.var 0))) (Ss.cons (S.ite (E.cmp .ne (E.ix (E.var 2) (E.int 0)) (E.str "part")) (Ss.cons (S.ret (E.var 1)) Ss.nil) (Ss.nil)) (Ss.cons (S.set [1] false (E.var 3)) Ss.nil))) (Ss.cons (S.ret (E.var 1)) Ss.nil)⟩
/-- mend_last: 0 disk, 1 some, 2 name, 3 rows, 4 end -/
def d_mend_last : Fd := ⟨1, 5, Ss.cons (S.set [1] false (E.fn f_segments (Es.cons (E.var 0) Es.nil))) (Ss.cons (S.ite (E.not (E.var 1)) (Ss.cons (S.expr (E.mth "Disk" "make" f_Disk_make (E.var 0) (Es.cons (E.fn f_segment_name (Es.cons (E.int 0) Es.nil)) Es.nil))) (Ss.cons (S.set [1] false (E.lst (Es.cons (E.int 0) Es.nil))) Ss.nil)) (Ss.nil)) (Ss.cons (S.set [2] false (E.fn f_segment_name (Es.cons (E.ix (E.var 1) (E.neg (E.int 1))) Es.nil))) (Ss.cons (S.set [3, 4] true (E.fn f_rows_of (Es.cons (E.mth "Disk" "read" f_Disk_read (E.var 0) (Es.cons (E.var 2) Es.nil)) Es.nil))) (Ss.cons (S.set [4] false (E.fn f_good_end (Es.cons (E.var 3) (Es.cons (E.var 4) Es.nil)))) (Ss.cons (S.ite (E.cmp .lt (E.var 4) (E.mth "Disk" "size" f_Disk_size (E.var 0) (Es.cons (E.var 2) Es.nil))) (Ss.cons (S.expr (E.mth "Disk" "cut" f_Disk_cut (E.var 0) (Es.cons (E.var 2) (Es.cons (E.var 4) Es.nil)))) Ss.nil) (Ss.nil)) (Ss.cons (S.ite (E.bop true (Es.cons (E.cmp .eq (E.var 4) (E.int 0)) (Es.cons (E.cmp .gt (E.bi .len (Es.cons (E.var 1) Es.nil)) (E.int 1)) Es.nil))) (Ss.cons (S.expr (E.mth "Disk" "drop" f_Disk_drop (E.var 0) (Es.cons (E.var 2) Es.nil))) Ss.nil) (Ss.cons (S.ite (E.cmp .eq (E.var 4) (E.int 0)) (Ss.cons (S.expr (E.mth "Disk" "add" f_Disk_add (E.var 0) (Es.cons (E.var 2) (Es.cons (E.fn f_bytes_of (Es.cons (E.tup (Es.cons (E.str "from") (Es.cons (E.int 0) (Es.cons (E.tup (Es.nil)) Es.nil)))) Es.nil)) Es.nil)))) Ss.nil) (Ss.nil)) Ss.nil)) Ss.nil))))))⟩
/-- read_all: 0 disk, 1 state, 2 places, 3 number, 4 rows, 5 end, 6 row, 7 at, 8 living -/
def d_read_all : Fd := ⟨1, 9, Ss.cons (S.set [1] false (E.mk "State" f_State_init (Es.nil))) (Ss.cons (S.set [2] false (E.dict [] (Es.nil))) (Ss.cons (S.for_ [3] false (It.val (E.fn f_segments (Es.cons (E.var 0) Es.nil))) (Ss.cons (S.set [4, 5] true (E.fn f_rows_of (Es.cons (E.mth "Disk" "read" f_Disk_read (E.var 0) (Es.cons (E.fn f_segment_name (Es.cons (E.var 3) Es.nil)) Es.nil)) Es.nil))) (Ss.cons (S.ite (E.bop false (Es.cons (E.cmp .lt (E.var 5) (E.mth "Disk" "size" f_Disk_size (E.var 0) (Es.cons (E.fn f_segment_name (Es.cons (E.var 3) Es.nil)) Es.nil))) (Es.cons (E.not (E.var 4)) (Es.cons (E.cmp .ne (E.ix (E.ix (E.ix (E.var 4) (E.int 0)) (E.int 0)) (E.int 0)) (E.str "from")) Es.nil)))) (Ss.cons (S.rais "Broken") Ss.nil) (Ss.nil)) (Ss.cons (S.for_ [6, 7] true (It.val (E.var 4)) (Ss.cons (S.expr (E.mth "State" "follow" f_State_follow (E.var 1) (Es.cons (E.var 6) Es.nil))) (Ss.cons (S.ite (E.cmp .mem (E.ix (E.var 6) (E.int 0)) (E.tup (Es.cons (E.str "put") (Es.cons (E.str "part") (Es.cons (E.str "carried") Es.nil))))) (Ss.cons (S.dset (E.var 2) (E.ix (E.var 6) (E.int 1)) (E.var 3)) Ss.nil) (Ss.nil)) Ss.nil))) (Ss.cons (S.ite (E.fld "State" (E.var 1) "parts") (Ss.cons (S.rais "Broken") Ss.nil) (Ss.nil)) Ss.nil))))) (Ss.cons (S.set [8] false (E.dict [] (Es.nil))) (Ss.cons (S.lk (E.fld "State" (E.var 1) "mail") (S.for_ [3] false (It.val (E.fld "State" (E.var 1) "mail")) (Ss.cons (S.dset (E.var 8) (E.var 3) (E.ix (E.var 2) (E.var 3))) Ss.nil))) (Ss.cons (S.ret (E.tup (Es.cons (E.var 1) (Es.cons (E.var 8) Es.nil)))) Ss.nil)))))⟩
/-- look_settings: 0 disk, 1 most, 2 hold, 3 tries -/
def d_look_settings : Fd := ⟨4, 4, Ss.cons (S.ite (E.bop false (Es.cons (E.not (E.isc (E.var 0) "Disk")) (Es.cons (E.not (E.fn f_is_within (Es.cons (E.var 1) (Es.cons (E.int 1) (Es.cons (E.gint "MOST_ROOM" 2000) Es.nil))))) (Es.cons (E.not (E.fn f_is_within (Es.cons (E.var 2) (Es.cons (E.int 0) (Es.cons (E.gint "MOST_HOLD" 99) Es.nil))))) Es.nil)))) (Ss.cons (S.rais "BadSettings") Ss.nil) (Ss.nil)) (Ss.cons (S.ite (E.not (E.fn f_is_within (Es.cons (E.var 3) (Es.cons (E.int 1) (Es.cons (E.gint "MOST_TRIES" 9) Es.nil))))) (Ss.cons (S.rais "BadSettings") Ss.nil) (Ss.nil)) Ss.nil)⟩
/-- look_hand: 0 hand, 1 sign -/
def d_look_hand : Fd := ⟨1, 2, Ss.cons (S.ite (E.bop false (Es.cons (E.not (E.isi (E.var 0) "str")) (Es.cons (E.not (E.chain .le .le (E.int 1) (E.bi .len (Es.cons (E.var 0) Es.nil)) (E.int 6))) (Es.cons (E.lc (E.var 1) [1] false (It.val (E.var 0)) (Oe.some (E.cmp .nin (E.var 1) (E.gstr "SMALL" "abcdefghijklmnopqrstuvwxyz"))) [1]) Es.nil)))) (Ss.cons (S.rais "BadHand") Ss.nil) (Ss.nil)) Ss.nil⟩
/-- Queue.__init__: 0 self, 1 disk, 2 most, 3 hold, 4 tries, 5 found -/
def d_Queue_init : Fd := ⟨5, 6, Ss.cons (S.expr (E.fn f_look_settings (Es.cons (E.var 1) (Es.cons (E.var 2) (Es.cons (E.var 3) (Es.cons (E.var 4) Es.nil)))))) (Ss.cons (S.fset "Queue" (E.var 0) "disk" (E.var 1)) (Ss.cons (S.fset "Queue" (E.var 0) "most" (E.var 2)) (Ss.cons (S.fset "Queue" (E.var 0) "hold" (E.var 3)) (Ss.cons (S.fset "Queue" (E.var 0) "tries" (E.var 4)) (Ss.cons (S.fset "Queue" (E.var 0) "hands" (E.dict [] (Es.nil))) (Ss.cons (S.fset "Queue" (E.var 0) "time" (E.int 0)) (Ss.cons (S.expr (E.fn f_look_names (Es.cons (E.var 1) Es.nil))) (Ss.cons (S.expr (E.fn f_mend_last (Es.cons (E.var 1) Es.nil))) (Ss.cons (S.set [5] false (E.fn f_read_all (Es.cons (E.var 1) Es.nil))) (Ss.cons (S.fset "Queue" (E.var 0) "state" (E.ix (E.var 5) (E.int 0))) (Ss.cons (S.fset "Queue" (E.var 0) "places" (E.ix (E.var 5) (E.int 1))) Ss.nil)))))))))))⟩
/-- Queue.active: 0 self -/
def d_Queue_active : Fd := ⟨1, 1, Ss.cons (S.ret (E.ix (E.fn f_segments (Es.cons (E.fld "Queue" (E.var 0) "disk") Es.nil)) (E.neg (E.int 1)))) Ss.nil⟩
/-- Queue.write: 0 self, 1 rows, 2 number, 3 row -/
def d_Queue_write : Fd := ⟨2, 4, Ss.cons (S.ite (E.cmp .ge (E.mth "Disk" "size" f_Disk_size (E.fld "Queue" (E.var 0) "disk") (Es.cons (E.fn f_segment_name (Es.cons (E.mth "Queue" "active" f_Queue_active (E.var 0) (Es.nil)) Es.nil)) Es.nil)) (E.fld "Queue" (E.var 0) "most")) (Ss.cons (S.set [2] false (E.bin .add (E.mth "Queue" "active" f_Queue_active (E.var 0) (Es.nil)) (E.int 1))) (Ss.cons (S.expr (E.mth "Disk" "make" f_Disk_make (E.fld "Queue" (E.var 0) "disk") (Es.cons (E.fn f_segment_name (Es.cons (E.var 2) Es.nil)) Es.nil))) (Ss.cons (S.expr (E.mth "Disk" "add" f_Disk_add (E.fld "Queue" (E.var 0) "disk") (Es.cons (E.fn f_segment_name (Es.cons (E.var 2) Es.nil)) (Es.cons (E.fn f_bytes_of (Es.cons (E.tup (Es.cons (E.str "from") (Es.cons (E.fld "State" (E.fld "Queue" (E.var 0) "state") "after") (Es.cons (E.tup (Es.nil)) Es.nil)))) Es.nil)) Es.nil)))) Ss.nil))) (Ss.nil)) (Ss.cons (S.for_ [3] false (It.val (E.var 1)) (Ss.cons (S.expr (E.mth "Disk" "add" f_Disk_add (E.fld "Queue" (E.var 0) "disk") (Es.cons (E.fn f_segment_name (Es.cons (E.mth "Queue" "active" f_Queue_active (E.var 0) (Es.nil)) Es.nil)) (Es.cons (E.fn f_bytes_of (Es.cons (E.var 3) Es.nil)) Es.nil)))) Ss.nil)) (Ss.cons (S.for_ [3] false (It.val (E.var 1)) (Ss.cons (S.expr (E.mth "State" "follow" f_State_follow (E.fld "Queue" (E.var 0) "state") (Es.cons (E.var 3) Es.nil))) (Ss.cons (S.ite (E.cmp .mem (E.ix (E.var 3) (E.int 0)) (E.tup (Es.cons (E.str "put") (Es.cons (E.str "part") (Es.cons (E.str "carried") Es.nil))))) (Ss.cons (S.dset (E.fld "Queue" (E.var 0) "places") (E.ix (E.var 3) (E.int 1)) (E.mth "Queue" "active" f_Queue_active (E.var 0) (Es.nil))) Ss.nil) (Ss.nil)) Ss.nil))) Ss.nil))⟩
/-- Queue.put: 0 self, 1 body, 2 number -/
def d_Queue_put : Fd := ⟨2, 3, Ss.cons (S.ite (E.not (E.fn f_is_body (Es.cons (E.var 1) Es.nil))) (Ss.cons (S.rais "BadBody") Ss.nil) (Ss.nil)) (Ss.cons (S.set [2] false (E.fld "State" (E.fld "Queue" (E.var 0) "state") "after")) (Ss.cons (S.expr (E.mth "Queue" "write" f_Queue_write (E.var 0) (Es.cons (E.lst (Es.cons (E.tup (Es.cons (E.str "put") (Es.cons (E.var 2) (Es.cons (E.var 1) Es.nil)))) Es.nil)) Es.nil))) (Ss.cons (S.ret (E.var 2)) Ss.nil)))⟩
/-- Queue.ready: 0 self, 1 some, 2 number -/
def d_Queue_ready : Fd := ⟨1, 3, Ss.cons (S.set [1] false (E.lc (E.var 2) [2] false (It.val (E.bi .sorted (Es.cons (E.fld "State" (E.fld "Queue" (E.var 0) "state") "mail") Es.nil))) (Oe.some (E.cmp .nin (E.var 2) (E.fld "Queue" (E.var 0) "hands"))) [2])) (Ss.cons (S.ret (E.lc (E.var 2) [2] false (It.val (E.var 1)) (Oe.some (E.cmp .lt (E.ix (E.ix (E.fld "State" (E.fld "Queue" (E.var 0) "state") "mail") (E.var 2)) (E.int 1)) (E.fld "Queue" (E.var 0) "tries"))) [2])) Ss.nil)⟩
/-- Queue.dead: 0 self, 1 some, 2 number -/
def d_Queue_dead : Fd := ⟨1, 3, Ss.cons (S.set [1] false (E.lc (E.var 2) [2] false (It.val (E.bi .sorted (Es.cons (E.fld "State" (E.fld "Queue" (E.var 0) "state") "mail") Es.nil))) (Oe.some (E.cmp .nin (E.var 2) (E.fld "Queue" (E.var 0) "hands"))) [2])) (Ss.cons (S.ret (E.lc (E.var 2) [2] false (It.val (E.var 1)) (Oe.some (E.cmp .ge (E.ix (E.ix (E.fld "State" (E.fld "Queue" (E.var 0) "state") "mail") (E.var 2)) (E.int 1)) (E.fld "Queue" (E.var 0) "tries"))) [2])) Ss.nil)⟩
/-- Queue.take: 0 self, 1 hand, 2 some -/
def d_Queue_take : Fd := ⟨2, 3, Ss.cons (S.expr (E.fn f_look_hand (Es.cons (E.var 1) Es.nil))) (Ss.cons (S.set [2] false (E.mth "Queue" "ready" f_Queue_ready (E.var 0) (Es.nil))) (Ss.cons (S.ite (E.not (E.var 2)) (Ss.cons (S.ret E.non) Ss.nil) (Ss.nil)) (Ss.cons (S.expr (E.mth "Queue" "write" f_Queue_write (E.var 0) (Es.cons (E.lst (Es.cons (E.tup (Es.cons (E.str "out") (Es.cons (E.ix (E.var 2) (E.int 0)) (Es.cons (E.tup (Es.nil)) Es.nil)))) Es.nil)) Es.nil))) (Ss.cons (S.dset (E.fld "Queue" (E.var 0) "hands") (E.ix (E.var 2) (E.int 0)) (E.tup (Es.cons (E.var 1) (Es.cons (E.fld "Queue" (E.var 0) "time") Es.nil)))) (Ss.cons (S.ret (E.bin .add (E.tup (Es.cons (E.ix (E.var 2) (E.int 0)) Es.nil)) (E.ix (E.fld "State" (E.fld "Queue" (E.var 0) "state") "mail") (E.ix (E.var 2) (E.int 0))))) Ss.nil)))))⟩
/-- Queue.look_held: 0 self, 1 hand, 2 number -/
def d_Queue_look_held : Fd := ⟨3, 3, Ss.cons (S.expr (E.fn f_look_hand (Es.cons (E.var 1) Es.nil))) (Ss.cons (S.ite (E.bop false (Es.cons (E.not (E.fn f_is_within (Es.cons (E.var 2) (Es.cons (E.int 0) (Es.cons (E.fld "State" (E.fld "Queue" (E.var 0) "state") "after") Es.nil))))) (Es.cons (E.cmp .nin (E.var 2) (E.fld "Queue" (E.var 0) "hands")) (Es.cons (E.cmp .ne (E.ix (E.ix (E.fld "Queue" (E.var 0) "hands") (E.var 2)) (E.int 0)) (E.var 1)) Es.nil)))) (Ss.cons (S.rais "NotHeld") Ss.nil) (Ss.nil)) Ss.nil)⟩
/-- Queue.done: 0 self, 1 hand, 2 number -/
def d_Queue_done : Fd := ⟨3, 3, Ss.cons (S.expr (E.mth "Queue" "look_held" f_Queue_look_held (E.var 0) (Es.cons (E.var 1) (Es.cons (E.var 2) Es.nil)))) (Ss.cons (S.expr (E.mth "Queue" "write" f_Queue_write (E.var 0) (Es.cons (E.lst (Es.cons (E.tup (Es.cons (E.str "done") (Es.cons (E.var 2) (Es.cons (E.tup (Es.nil)) Es.nil)))) Es.nil)) Es.nil))) (Ss.cons (S.expr (E.bm .pop (E.fld "Queue" (E.var 0) "hands") (Es.cons (E.var 2) Es.nil))) (Ss.cons (S.expr (E.bm .pop (E.fld "Queue" (E.var 0) "places") (Es.cons (E.var 2) Es.nil))) Ss.nil)))⟩
/-- Queue.letters: 0 self, 1 number -/
def d_Queue_letters : Fd := ⟨1, 2, Ss.cons (S.ret (E.lc (E.bin .add (E.tup (Es.cons (E.var 1) Es.nil)) (E.ix (E.fld "State" (E.fld "Queue" (E.var 0) "state") "mail") (E.var 1))) [1] false (It.val (E.bi .sorted (Es.cons (E.fld "State" (E.fld "Queue" (E.var 0) "state") "mail") Es.nil))) Oe.none [1])) Ss.nil⟩
/-- Queue.held: 0 self, 1 number -/
def d_Queue_held : Fd := ⟨1, 2, Ss.cons (S.ret (E.lc (E.tup (Es.cons (E.var 1) (Es.cons (E.ix (E.ix (E.fld "Queue" (E.var 0) "hands") (E.var 1)) (E.int 0)) Es.nil))) [1] false (It.val (E.bi .sorted (Es.cons (E.fld "Queue" (E.var 0) "hands") Es.nil))) Oe.none [1])) Ss.nil⟩
/-- Queue.coming: 0 self -/
def d_Queue_coming : Fd := ⟨1, 1, Ss.cons (S.ret (E.fld "State" (E.fld "Queue" (E.var 0) "state") "after")) Ss.nil⟩
/-- Queue.clock: 0 self -/
def d_Queue_clock : Fd := ⟨1, 1, Ss.cons (S.ret (E.fld "Queue" (E.var 0) "time")) Ss.nil⟩
/-- Queue.sizes: 0 self, 1 number -/
def d_Queue_sizes : Fd := ⟨1, 2, Ss.cons (S.ret (E.lc (E.mth "Disk" "size" f_Disk_size (E.fld "Queue" (E.var 0) "disk") (Es.cons (E.fn f_segment_name (Es.cons (E.var 1) Es.nil)) Es.nil)) [1] false (It.val (E.fn f_segments (Es.cons (E.fld "Queue" (E.var 0) "disk") Es.nil))) Oe.none [1])) Ss.nil⟩
/-- Queue.living: 0 self, 1 segment, 2 number -/
def d_Queue_living : Fd := ⟨2, 3, Ss.cons (S.ret (E.lc (E.var 2) [2] false (It.val (E.bi .sorted (Es.cons (E.fld "Queue" (E.var 0) "places") Es.nil))) (Oe.some (E.cmp .eq (E.ix (E.fld "Queue" (E.var 0) "places") (E.var 2)) (E.var 1))) [2])) Ss.nil⟩
/-- Queue.sweep: 0 self, 1 found, 2 some, 3 number -/
def d_Queue_sweep : Fd := ⟨1, 4, Ss.cons (S.set [1] false (E.int 0)) (Ss.cons (S.set [2] false (E.fn f_segments (Es.cons (E.fld "Queue" (E.var 0) "disk") Es.nil))) (Ss.cons (S.for_ [3] false (It.val (E.sl (E.var 2) Oe.none (Oe.some (E.neg (E.int 1))))) (Ss.cons (S.ite (E.mth "Queue" "living" f_Queue_living (E.var 0) (Es.cons (E.var 3) Es.nil)) (Ss.cons (S.ret (E.var 1)) Ss.nil) (Ss.nil)) (Ss.cons (S.expr (E.mth "Disk" "drop" f_Disk_drop (E.fld "Queue" (E.var 0) "disk") (Es.cons (E.fn f_segment_name (Es.cons (E.var 3) Es.nil)) Es.nil))) (Ss.cons (S.aug 1 .add (E.int 1)) Ss.nil)))) (Ss.cons (S.ret (E.var 1)) Ss.nil)))⟩
/-- Queue.carry: 0 self, 1 some, 2 moved, 3 number, 4 body, 5 times -/
def d_Queue_carry : Fd := ⟨1, 6, Ss.cons (S.set [1] false (E.fn f_segments (Es.cons (E.fld "Queue" (E.var 0) "disk") Es.nil))) (Ss.cons (S.ite (E.cmp .eq (E.bi .len (Es.cons (E.var 1) Es.nil)) (E.int 1)) (Ss.cons (S.ret E.non) Ss.nil) (Ss.nil)) (Ss.cons (S.set [2] false (E.mth "Queue" "living" f_Queue_living (E.var 0) (Es.cons (E.ix (E.var 1) (E.int 0)) Es.nil))) (Ss.cons (S.for_ [3] false (It.val (E.var 2)) (Ss.cons (S.set [4, 5] true (E.ix (E.fld "State" (E.fld "Queue" (E.var 0) "state") "mail") (E.var 3))) (Ss.cons (S.expr (E.mth "Queue" "write" f_Queue_write (E.var 0) (Es.cons (E.lst (Es.cons (E.tup (Es.cons (E.str "carried") (Es.cons (E.var 3) (Es.cons (E.bin .add (E.tup (Es.cons (E.var 5) Es.nil)) (E.var 4)) Es.nil)))) Es.nil)) Es.nil))) Ss.nil))) (Ss.cons (S.expr (E.mth "Disk" "drop" f_Disk_drop (E.fld "Queue" (E.var 0) "disk") (Es.cons (E.fn f_segment_name (Es.cons (E.ix (E.var 1) (E.int 0)) Es.nil)) Es.nil))) (Ss.cons (S.ret (E.bi .len (Es.cons (E.var 2) Es.nil))) Ss.nil)))))⟩
/-- Queue.put_all: 0 self, 1 bodies, 2 first, 3 rows, 4 body, 5 at -/
def d_Queue_put_all : Fd := ⟨2, 6, Ss.cons (S.ite (E.bop false (Es.cons (E.not (E.isi (E.var 1) "tuple")) (Es.cons (E.not (E.chain .le .le (E.int 1) (E.bi .len (Es.cons (E.var 1) Es.nil)) (E.gint "MOST_DEAL" 9))) Es.nil))) (Ss.cons (S.rais "BadBody") Ss.nil) (Ss.nil)) (Ss.cons (S.ite (E.lc (E.var 4) [4] false (It.val (E.var 1)) (Oe.some (E.not (E.fn f_is_body (Es.cons (E.var 4) Es.nil)))) [4]) (Ss.cons (S.rais "BadBody") Ss.nil) (Ss.nil)) (Ss.cons (S.set [2] false (E.fld "State" (E.fld "Queue" (E.var 0) "state") "after")) (Ss.cons (S.set [3] false (E.lc (E.tup (Es.cons (E.str "part") (Es.cons (E.bin .add (E.var 2) (E.var 5)) (Es.cons (E.var 4) Es.nil)))) [5, 4] true (It.enum (E.var 1)) Oe.none [5, 4])) (Ss.cons (S.expr (E.mth "Queue" "write" f_Queue_write (E.var 0) (Es.cons (E.bin .add (E.var 3) (E.lst (Es.cons (E.tup (Es.cons (E.str "deal") (Es.cons (E.var 2) (Es.cons (E.tup (Es.cons (E.bi .len (Es.cons (E.var 1) Es.nil)) Es.nil)) Es.nil)))) Es.nil))) Es.nil))) (Ss.cons (S.ret (E.lrng (E.var 2) (E.bin .add (E.var 2) (E.bi .len (Es.cons (E.var 1) Es.nil))))) Ss.nil)))))⟩
/-- Queue.give_back: 0 self, 1 hand, 2 number -/
def d_Queue_give_back : Fd := ⟨3, 3, Ss.cons (S.expr (E.mth "Queue" "look_held" f_Queue_look_held (E.var 0) (Es.cons (E.var 1) (Es.cons (E.var 2) Es.nil)))) (Ss.cons (S.expr (E.bm .pop (E.fld "Queue" (E.var 0) "hands") (Es.cons (E.var 2) Es.nil))) Ss.nil)⟩
/-- Queue.wait: 0 self, 1 many, 2 number, 3 late -/
def d_Queue_wait : Fd := ⟨2, 4, Ss.cons (S.ite (E.not (E.fn f_is_within (Es.cons (E.var 1) (Es.cons (E.int 1) (Es.cons (E.int 99) Es.nil))))) (Ss.cons (S.rais "BadNumber") Ss.nil) (Ss.nil)) (Ss.cons (S.faug "Queue" (E.var 0) "time" .add (E.var 1)) (Ss.cons (S.set [3] false (E.lc (E.var 2) [2] false (It.val (E.bi .sorted (Es.cons (E.fld "Queue" (E.var 0) "hands") Es.nil))) (Oe.some (E.cmp .gt (E.bin .sub (E.fld "Queue" (E.var 0) "time") (E.ix (E.ix (E.fld "Queue" (E.var 0) "hands") (E.var 2)) (E.int 1))) (E.fld "Queue" (E.var 0) "hold"))) [2])) (Ss.cons (S.for_ [2] false (It.val (E.var 3)) (Ss.cons (S.expr (E.bm .pop (E.fld "Queue" (E.var 0) "hands") (Es.cons (E.var 2) Es.nil))) Ss.nil)) (Ss.cons (S.ret (E.var 3)) Ss.nil))))⟩
/-- Queue.revive: 0 self, 1 number -/
def d_Queue_revive : Fd := ⟨2, 2, Ss.cons (S.ite (E.bop false (Es.cons (E.not (E.fn f_is_within (Es.cons (E.var 1) (Es.cons (E.int 0) (Es.cons (E.fld "State" (E.fld "Queue" (E.var 0) "state") "after") Es.nil))))) (Es.cons (E.cmp .nin (E.var 1) (E.mth "Queue" "dead" f_Queue_dead (E.var 0) (Es.nil))) Es.nil))) (Ss.cons (S.rais "BadNumber") Ss.nil) (Ss.nil)) (Ss.cons (S.expr (E.mth "Queue" "write" f_Queue_write (E.var 0) (Es.cons (E.lst (Es.cons (E.tup (Es.cons (E.str "new") (Es.cons (E.var 1) (Es.cons (E.tup (Es.nil)) Es.nil)))) Es.nil)) Es.nil))) Ss.nil)⟩
/-- is_deed: 0 thing -/
def d_is_deed : Fd := ⟨1, 1, Ss.cons (S.ite (E.bop false (Es.cons (E.not (E.isi (E.var 0) "tuple")) (Es.cons (E.not (E.var 0)) (Es.cons (E.not (E.isi (E.ix (E.var 0) (E.int 0)) "str")) Es.nil)))) (Ss.cons (S.ret (E.bl false)) Ss.nil) (Ss.nil)) (Ss.cons (S.ret (E.bop true (Es.cons (E.gin "SIZES" [("put", 1), ("all", 1), ("take", 1), ("done", 2), ("back", 2), ("wait", 1), ("new", 1), ("sweep", 0), ("carry", 0)] (E.ix (E.var 0) (E.int 0))) (Es.cons (E.cmp .eq (E.bi .len (Es.cons (E.var 0) Es.nil)) (E.bin .add (E.gget "SIZES" [("put", 1), ("all", 1), ("take", 1), ("done", 2), ("back", 2), ("wait", 1), ("new", 1), ("sweep", 0), ("carry", 0)] (E.ix (E.var 0) (E.int 0))) (E.int 1))) Es.nil)))) Ss.nil)⟩
/-- one_told: 0 queue, 1 deed, 2 word -/
def d_one_told : Fd := ⟨2, 3, Ss.cons (S.set [2] false (E.ix (E.var 1) (E.int 0))) (Ss.cons (S.ite (E.cmp .eq (E.var 2) (E.str "put")) (Ss.cons (S.ret (E.mth "Queue" "put" f_Queue_put (E.var 0) (Es.cons (E.ix (E.var 1) (E.int 1)) Es.nil))) Ss.nil) (Ss.nil)) (Ss.cons (S.ite (E.cmp .eq (E.var 2) (E.str "all")) (Ss.cons (S.ret (E.mth "Queue" "put_all" f_Queue_put_all (E.var 0) (Es.cons (E.ix (E.var 1) (E.int 1)) Es.nil))) Ss.nil) (Ss.nil)) (Ss.cons (S.ite (E.cmp .eq (E.var 2) (E.str "take")) (Ss.cons (S.ret (E.mth "Queue" "take" f_Queue_take (E.var 0) (Es.cons (E.ix (E.var 1) (E.int 1)) Es.nil))) Ss.nil) (Ss.nil)) (Ss.cons (S.ite (E.cmp .eq (E.var 2) (E.str "done")) (Ss.cons (S.ret (E.mth "Queue" "done" f_Queue_done (E.var 0) (Es.cons (E.ix (E.var 1) (E.int 1)) (Es.cons (E.ix (E.var 1) (E.int 2)) Es.nil)))) Ss.nil) (Ss.nil)) (Ss.cons (S.ret (E.mth "Queue" "give_back" f_Queue_give_back (E.var 0) (Es.cons (E.ix (E.var 1) (E.int 1)) (Es.cons (E.ix (E.var 1) (E.int 2)) Es.nil)))) Ss.nil)))))⟩
/-- told_by: 0 queue, 1 deed, 2 word -/
def d_told_by : Fd := ⟨2, 3, Ss.cons (S.set [2] false (E.ix (E.var 1) (E.int 0))) (Ss.cons (S.ite (E.cmp .eq (E.var 2) (E.str "wait")) (Ss.cons (S.ret (E.mth "Queue" "wait" f_Queue_wait (E.var 0) (Es.cons (E.ix (E.var 1) (E.int 1)) Es.nil))) Ss.nil) (Ss.nil)) (Ss.cons (S.ite (E.cmp .eq (E.var 2) (E.str "new")) (Ss.cons (S.ret (E.mth "Queue" "revive" f_Queue_revive (E.var 0) (Es.cons (E.ix (E.var 1) (E.int 1)) Es.nil))) Ss.nil) (Ss.nil)) (Ss.cons (S.ite (E.cmp .eq (E.var 2) (E.str "sweep")) (Ss.cons (S.ret (E.mth "Queue" "sweep" f_Queue_sweep (E.var 0) (Es.nil))) Ss.nil) (Ss.nil)) (Ss.cons (S.ret (E.ite (E.cmp .eq (E.var 2) (E.str "carry")) (E.mth "Queue" "carry" f_Queue_carry (E.var 0) (Es.nil)) (E.fn f_one_told (Es.cons (E.var 0) (Es.cons (E.var 1) Es.nil))))) Ss.nil))))⟩
/-- do: 0 queue, 1 deed, 2 told -/
def d_do : Fd := ⟨2, 3, Ss.cons (S.ite (E.not (E.fn f_is_deed (Es.cons (E.var 1) Es.nil))) (Ss.cons (S.rais "BadDeed") Ss.nil) (Ss.nil)) (Ss.cons (S.set [2] false (E.str "refused")) (Ss.cons (S.try_ (Ss.cons (S.set [2] false (E.fn f_told_by (Es.cons (E.var 0) (Es.cons (E.var 1) Es.nil)))) Ss.nil) [("Stopped", Hb.set 2 (E.str "stopped")), ("QueueError", Hb.set 2 (E.str "refused"))]) (Ss.cons (S.ret (E.var 2)) Ss.nil)))⟩
/-- run: 0 queue, 1 deeds, 2 deed, 3 found, 4 told -/
def d_run : Fd := ⟨2, 5, Ss.cons (S.ite (E.bop false (Es.cons (E.not (E.isi (E.var 1) "list")) (Es.cons (E.lc (E.var 2) [2] false (It.val (E.var 1)) (Oe.some (E.not (E.fn f_is_deed (Es.cons (E.var 2) Es.nil)))) [2]) Es.nil))) (Ss.cons (S.rais "BadDeed") Ss.nil) (Ss.nil)) (Ss.cons (S.set [3] false (E.nlst (Es.nil))) (Ss.cons (S.for_ [2] false (It.val (E.var 1)) (Ss.cons (S.set [4] false (E.fn f_do (Es.cons (E.var 0) (Es.cons (E.var 2) Es.nil)))) (Ss.cons (S.ite (E.cmp .eq (E.var 4) (E.str "stopped")) (Ss.cons (S.ret (E.var 3)) Ss.nil) (Ss.nil)) (Ss.cons (S.expr (E.bm .append (E.var 3) (Es.cons (E.var 4) Es.nil))) Ss.nil)))) (Ss.cons (S.ret (E.var 3)) Ss.nil)))⟩
/-- _law_cell: 0 _law_script, 1 _law_k -/
def d_law_cell : Fd := ⟨2, 2, Ss.cons (S.ite (E.cmp .lt (E.var 1) (E.bi .len (Es.cons (E.var 0) Es.nil))) (Ss.cons (S.ret (E.ix (E.var 0) (E.var 1))) Ss.nil) (Ss.nil)) (Ss.cons (S.ret (E.int 0)) Ss.nil)⟩
/-- _law_mix: 0 _law_cell_here, 1 _law_prime, 2 _law_many -/
def d_law_mix : Fd := ⟨3, 3, Ss.cons (S.ret (E.bin .mod (E.bin .mod (E.bin .pow (E.bin .mod (E.bin .mul (E.var 0) (E.int 48271)) (E.var 1)) (E.int 3)) (E.var 1)) (E.var 2))) Ss.nil⟩
/-- _law_seed: 0 _law_seed_here, 1 _law_k -/
def d_law_seed : Fd := ⟨2, 2, Ss.cons (S.ret (E.bin .mod (E.bin .pow (E.bin .mod (E.bin .add (E.bin .add (E.bin .mul (E.var 0) (E.int 1103515245)) (E.bin .mul (E.int 7919) (E.var 1))) (E.int 12345)) (E.int 2147483647)) (E.int 5)) (E.int 2147483647))) Ss.nil⟩
/-- _law_pick: 0 _law_seed_here, 1 _law_many -/
def d_law_pick : Fd := ⟨2, 2, Ss.cons (S.ret (E.bin .mod (E.bin .div (E.var 0) (E.int 97)) (E.var 1))) Ss.nil⟩
/-- _law_bytes: 0 _law_seed_here, 1 _law_most, 2 _law_many, 3 _law_k -/
def d_law_bytes : Fd := ⟨2, 4, Ss.cons (S.set [2] false (E.ix (E.lst (Es.cons (E.bin .mod (E.bin .div (E.var 0) (E.int 7)) (E.bin .add (E.var 1) (E.int 1))) (Es.cons (E.bin .mod (E.bin .div (E.var 0) (E.int 7)) (E.int 4)) Es.nil))) (E.bin .mod (E.bin .div (E.var 0) (E.int 5)) (E.int 2)))) (Ss.cons (S.ret (E.bi .tuple (Es.cons (E.lc (E.ix (E.lst (Es.cons (E.fn f_law_pick (Es.cons (E.fn f_law_seed (Es.cons (E.var 0) (Es.cons (E.var 3) Es.nil))) (Es.cons (E.int 256) Es.nil))) (Es.cons (E.bin .mul (E.bin .mod (E.bin .div (E.var 0) (E.int 11)) (E.int 3)) (E.int 100)) Es.nil))) (E.bin .mod (E.var 3) (E.int 2))) [3] false (It.rng (E.var 2)) Oe.none [3]) Es.nil))) Ss.nil)⟩
/-- _law_disk_deed: 0 _law_seed_here, 1 _law_names, 2 _law_name, 3 _law_pick_here -/
def d_law_disk_deed : Fd := ⟨2, 4, Ss.cons (S.set [2] false (E.ix (E.var 1) (E.fn f_law_pick (Es.cons (E.var 0) (Es.cons (E.bi .len (Es.cons (E.var 1) Es.nil)) Es.nil))))) (Ss.cons (S.set [3] false (E.fn f_law_pick (Es.cons (E.fn f_law_seed (Es.cons (E.var 0) (Es.cons (E.int 1) Es.nil))) (Es.cons (E.int 8) Es.nil)))) (Ss.cons (S.ite (E.cmp .lt (E.var 3) (E.int 2)) (Ss.cons (S.ret (E.tup (Es.cons (E.str "make") (Es.cons (E.var 2) (Es.cons E.non Es.nil))))) Ss.nil) (Ss.nil)) (Ss.cons (S.ite (E.cmp .lt (E.var 3) (E.int 6)) (Ss.cons (S.ret (E.tup (Es.cons (E.str "add") (Es.cons (E.var 2) (Es.cons (E.fn f_law_bytes (Es.cons (E.fn f_law_seed (Es.cons (E.var 0) (Es.cons (E.int 2) Es.nil))) (Es.cons (E.int 9) Es.nil))) Es.nil))))) Ss.nil) (Ss.nil)) (Ss.cons (S.ret (E.ix (E.lst (Es.cons (E.tup (Es.cons (E.str "cut") (Es.cons (E.var 2) (Es.cons (E.bin .mod (E.bin .div (E.var 0) (E.int 13)) (E.int 7)) Es.nil)))) (Es.cons (E.tup (Es.cons (E.str "drop") (Es.cons (E.var 2) (Es.cons E.non Es.nil)))) Es.nil))) (E.bin .sub (E.var 3) (E.int 6)))) Ss.nil))))⟩
/-- _law_on_disk: 0 _law_disk, 1 _law_deed, 2 _law_word, 3 _law_name, 4 _law_more -/
def d_law_on_disk : Fd := ⟨2, 5, Ss.cons (S.set [2, 3, 4] true (E.var 1)) (Ss.cons (S.ite (E.cmp .eq (E.var 2) (E.str "make")) (Ss.cons (S.ret (E.mth "Disk" "make" f_Disk_make (E.var 0) (Es.cons (E.var 3) Es.nil))) Ss.nil) (Ss.nil)) (Ss.cons (S.ite (E.cmp .eq (E.var 2) (E.str "add")) (Ss.cons (S.ret (E.mth "Disk" "add" f_Disk_add (E.var 0) (Es.cons (E.var 3) (Es.cons (E.var 4) Es.nil)))) Ss.nil) (Ss.nil)) (Ss.cons (S.ret (E.ite (E.cmp .eq (E.var 2) (E.str "cut")) (E.mth "Disk" "cut" f_Disk_cut (E.var 0) (Es.cons (E.var 3) (Es.cons (E.var 4) Es.nil))) (E.mth "Disk" "drop" f_Disk_drop (E.var 0) (Es.cons (E.var 3) Es.nil)))) Ss.nil)))⟩
/-- _law_disk_steps: 0 _law_files_here, 1 _law_deed, 2 _law_word, 3 _law_name, 4 _law_more, 5 _law_some, 6 _law_k -/
def d_law_disk_steps : Fd := ⟨2, 7, Ss.cons (S.set [2, 3, 4] true (E.var 1)) (Ss.cons (S.ite (E.cmp .eq (E.var 2) (E.str "make")) (Ss.cons (S.ret (E.ite (E.cmp .mem (E.var 3) (E.var 0)) (E.str "there") (E.lst (Es.cons (E.fn f_law_with (Es.cons (E.var 0) (Es.cons (E.var 3) (Es.cons (E.tup (Es.nil)) Es.nil)))) Es.nil)))) Ss.nil) (Ss.nil)) (Ss.cons (S.ite (E.cmp .nin (E.var 3) (E.var 0)) (Ss.cons (S.ret (E.str "missing")) Ss.nil) (Ss.nil)) (Ss.cons (S.set [5] false (E.ix (E.var 0) (E.var 3))) (Ss.cons (S.ite (E.cmp .eq (E.var 2) (E.str "drop")) (Ss.cons (S.ret (E.lst (Es.cons (E.fn f_law_with (Es.cons (E.var 0) (Es.cons (E.var 3) (Es.cons E.non Es.nil)))) Es.nil))) Ss.nil) (Ss.nil)) (Ss.cons (S.ite (E.bop true (Es.cons (E.cmp .eq (E.var 2) (E.str "cut")) (Es.cons (E.cmp .gt (E.var 4) (E.bi .len (Es.cons (E.var 5) Es.nil))) Es.nil))) (Ss.cons (S.ret (E.str "number")) Ss.nil) (Ss.nil)) (Ss.cons (S.ite (E.cmp .eq (E.var 2) (E.str "cut")) (Ss.cons (S.ret (E.lst (Es.cons (E.fn f_law_with (Es.cons (E.var 0) (Es.cons (E.var 3) (Es.cons (E.sl (E.var 5) Oe.none (Oe.some (E.var 4))) Es.nil)))) Es.nil))) Ss.nil) (Ss.nil)) (Ss.cons (S.ret (E.lc (E.fn f_law_with (Es.cons (E.var 0) (Es.cons (E.var 3) (Es.cons (E.bin .add (E.var 5) (E.sl (E.var 4) Oe.none (Oe.some (E.bin .add (E.var 6) (E.int 1))))) Es.nil)))) [6] false (It.rng (E.bi .len (Es.cons (E.var 4) Es.nil))) Oe.none [6])) Ss.nil)))))))⟩
/-- _law_with: 0 _law_files_here, 1 _law_name, 2 _law_some, 3 _law_found -/
def d_law_with : Fd := ⟨3, 4, Ss.cons (S.set [3] false (E.bi .dict (Es.cons (E.var 0) Es.nil))) (Ss.cons (S.expr (E.bm .pop2 (E.var 3) (Es.cons (E.var 1) (Es.cons E.non Es.nil)))) (Ss.cons (S.ite (E.notN (E.var 2)) (Ss.cons (S.dset (E.var 3) (E.var 1) (E.var 2)) Ss.nil) (Ss.nil)) (Ss.cons (S.ret (E.var 3)) Ss.nil)))⟩
/-- _law_files: 0 _law_disk, 1 _law_found, 2 _law_name -/
def d_law_files : Fd := ⟨1, 3, Ss.cons (S.set [1] false (E.dict [] (Es.nil))) (Ss.cons (S.for_ [2] false (It.val (E.mth "Disk" "names" f_Disk_names (E.var 0) (Es.nil))) (Ss.cons (S.dset (E.var 1) (E.var 2) (E.mth "Disk" "read" f_Disk_read (E.var 0) (Es.cons (E.var 2) Es.nil))) Ss.nil)) (Ss.cons (S.ret (E.var 1)) Ss.nil))⟩
/-- _law_caught: 0 _law_disk, 1 _law_deed, 2 _law_caught_here -/
def d_law_caught : Fd := ⟨2, 3, Ss.cons (S.set [2] false (E.str "")) (Ss.cons (S.try_ (Ss.cons (S.expr (E.fn f_law_on_disk (Es.cons (E.var 0) (Es.cons (E.var 1) Es.nil)))) Ss.nil) [("BadName", Hb.set 2 (E.str "name")), ("Missing", Hb.set 2 (E.str "missing")), ("There", Hb.set 2 (E.str "there")), ("BadNumber", Hb.set 2 (E.str "number")), ("BadRow", Hb.set 2 (E.str "row")), ("Stopped", Hb.set 2 (E.str "stopped"))]) (Ss.cons (S.ret (E.var 2)) Ss.nil))⟩
/-- _law_row: 0 _law_seed_here, 1 _law_kind, 2 _law_number, 3 _law_body -/
def d_law_row : Fd := ⟨1, 4, Ss.cons (S.set [1] false (E.ix (E.tup (Es.cons (E.str "put") (Es.cons (E.str "out") (Es.cons (E.str "done") (Es.cons (E.str "from") (Es.cons (E.str "part") (Es.cons (E.str "deal") (Es.cons (E.str "carried") (Es.cons (E.str "new") Es.nil))))))))) (E.fn f_law_pick (Es.cons (E.var 0) (Es.cons (E.int 8) Es.nil))))) (Ss.cons (S.set [2] false (E.ix (E.lst (Es.cons (E.bin .mod (E.bin .div (E.var 0) (E.int 7)) (E.int 1000000)) (Es.cons (E.bin .mod (E.bin .div (E.var 0) (E.int 7)) (E.int 20)) (Es.cons (E.int 999999) Es.nil)))) (E.bin .mod (E.bin .div (E.var 0) (E.int 11)) (E.int 3)))) (Ss.cons (S.set [3] false (E.tup (Es.nil))) (Ss.cons (S.ite (E.cmp .mem (E.var 1) (E.tup (Es.cons (E.str "put") (Es.cons (E.str "part") Es.nil)))) (Ss.cons (S.set [3] false (E.fn f_law_bytes (Es.cons (E.fn f_law_seed (Es.cons (E.var 0) (Es.cons (E.int 1) Es.nil))) (Es.cons (E.int 60) Es.nil)))) Ss.nil) (Ss.nil)) (Ss.cons (S.ite (E.cmp .eq (E.var 1) (E.str "carried")) (Ss.cons (S.set [3] false (E.bin .add (E.tup (Es.cons (E.bin .mod (E.bin .div (E.var 0) (E.int 13)) (E.int 10)) Es.nil)) (E.fn f_law_bytes (Es.cons (E.fn f_law_seed (Es.cons (E.var 0) (Es.cons (E.int 1) Es.nil))) (Es.cons (E.int 60) Es.nil))))) Ss.nil) (Ss.nil)) (Ss.cons (S.ite (E.cmp .eq (E.var 1) (E.str "deal")) (Ss.cons (S.set [3] false (E.tup (Es.cons (E.bin .add (E.int 1) (E.bin .mod (E.bin .div (E.var 0) (E.int 13)) (E.int 9))) Es.nil))) Ss.nil) (Ss.nil)) (Ss.cons (S.ret (E.tup (Es.cons (E.var 1) (Es.cons (E.var 2) (Es.cons (E.var 3) Es.nil))))) Ss.nil))))))⟩
/-- _law_coded: 0 _law_kind, 1 _law_number, 2 _law_body, 3 _law_some, 4 _law_second, 5 _law_at, 6 _law_one -/
def d_law_coded : Fd := ⟨3, 7, Ss.cons (S.set [3] false (E.bin .add (E.tup (Es.cons (E.var 0) (Es.cons (E.bin .mod (E.bin .div (E.var 1) (E.int 65536)) (E.int 256)) (Es.cons (E.bin .mod (E.bin .div (E.var 1) (E.int 256)) (E.int 256)) (Es.cons (E.bin .mod (E.var 1) (E.int 256)) (Es.cons (E.bi .len (Es.cons (E.var 2) Es.nil)) Es.nil)))))) (E.var 2))) (Ss.cons (S.set [4] false (E.int 0)) (Ss.cons (S.for_ [5, 6] true (It.enum (E.var 3)) (Ss.cons (S.set [4] false (E.bin .add (E.var 4) (E.bin .mul (E.bin .add (E.var 5) (E.int 1)) (E.var 6)))) Ss.nil)) (Ss.cons (S.ret (E.bin .add (E.tup (Es.cons (E.bin .mod (E.bi .sum (Es.cons (E.var 3) Es.nil)) (E.int 256)) (Es.cons (E.bin .mod (E.var 4) (E.int 256)) Es.nil))) (E.var 3))) Ss.nil)))⟩
/-- _law_row_bytes: 0 _law_row_here, 1 _law_kinds -/
def d_law_row_bytes : Fd := ⟨1, 2, Ss.cons (S.set [1] false (E.xtup ["put", "out", "done", "from", "part", "deal", "carried", "new"])) (Ss.cons (S.ret (E.fn f_law_coded (Es.cons (E.bin .add (E.int 1) (E.bm .index (E.var 1) (Es.cons (E.ix (E.var 0) (E.int 0)) Es.nil))) (Es.cons (E.ix (E.var 0) (E.int 1)) (Es.cons (E.ix (E.var 0) (E.int 2)) Es.nil))))) Ss.nil)⟩
/-- _law_rows: 0 _law_seed_here, 1 _law_many, 2 _law_spoil, 3 _law_found, 4 _law_after, 5 _law_k, 6 _law_one, 7 _law_pick_here, 8 _law_number, 9 _law_size, 10 _law_j, 11 _law_carried, 12 _law_odd, 13 _law_at -/
def d_law_rows : Fd := ⟨3, 14, Ss.cons (S.set [3] false (E.nlst (Es.nil))) (Ss.cons (S.set [4] false (E.int 0)) (Ss.cons (S.for_ [5] false (It.rng (E.bin .mod (E.bin .div (E.var 0) (E.int 7)) (E.bin .add (E.var 1) (E.int 1)))) (Ss.cons (S.set [6] false (E.fn f_law_seed (Es.cons (E.var 0) (Es.cons (E.var 5) Es.nil)))) (Ss.cons (S.set [7] false (E.fn f_law_pick (Es.cons (E.var 6) (Es.cons (E.int 10) Es.nil)))) (Ss.cons (S.set [8] false (E.bin .mod (E.bin .div (E.var 6) (E.int 7)) (E.bin .add (E.var 4) (E.int 2)))) (Ss.cons (S.ite (E.cmp .lt (E.var 7) (E.int 3)) (Ss.cons (S.set [4] false (E.bin .add (E.var 4) (E.ix (E.lst (Es.cons (E.int 0) (Es.cons (E.int 0) (Es.cons (E.int 2) Es.nil)))) (E.bin .mod (E.bin .div (E.var 6) (E.int 11)) (E.int 3))))) (Ss.cons (S.expr (E.bm .append (E.var 3) (Es.cons (E.tup (Es.cons (E.str "put") (Es.cons (E.var 4) (Es.cons (E.fn f_law_bytes (Es.cons (E.var 6) (Es.cons (E.int 9) Es.nil))) Es.nil)))) Es.nil))) (Ss.cons (S.set [4] false (E.bin .add (E.var 4) (E.int 1))) Ss.nil))) (Ss.cons (S.ite (E.cmp .lt (E.var 7) (E.int 4)) (Ss.cons (S.set [9] false (E.bin .add (E.int 1) (E.bin .mod (E.bin .div (E.var 6) (E.int 11)) (E.int 4)))) (Ss.cons (S.for_ [10] false (It.rng (E.var 9)) (Ss.cons (S.expr (E.bm .append (E.var 3) (Es.cons (E.tup (Es.cons (E.str "part") (Es.cons (E.bin .add (E.var 4) (E.var 10)) (Es.cons (E.fn f_law_bytes (Es.cons (E.fn f_law_seed (Es.cons (E.var 6) (Es.cons (E.var 10) Es.nil))) (Es.cons (E.int 6) Es.nil))) Es.nil)))) Es.nil))) Ss.nil)) (Ss.cons (S.expr (E.bm .append (E.var 3) (Es.cons (E.tup (Es.cons (E.str "deal") (Es.cons (E.var 4) (Es.cons (E.tup (Es.cons (E.var 9) Es.nil)) Es.nil)))) Es.nil))) (Ss.cons (S.set [4] false (E.bin .add (E.var 4) (E.var 9))) Ss.nil)))) (Ss.cons (S.ite (E.cmp .eq (E.var 7) (E.int 9)) (Ss.cons (S.set [11] false (E.tup (Es.cons (E.str "carried") (Es.cons (E.var 8) (Es.cons (E.bin .add (E.tup (Es.cons (E.bin .mod (E.bin .div (E.var 6) (E.int 13)) (E.int 10)) Es.nil)) (E.fn f_law_bytes (Es.cons (E.var 6) (Es.cons (E.int 6) Es.nil)))) Es.nil))))) (Ss.cons (S.expr (E.bm .append (E.var 3) (Es.cons (E.ix (E.lst (Es.cons (E.tup (Es.cons (E.str "from") (Es.cons (E.var 8) (Es.cons (E.tup (Es.nil)) Es.nil)))) (Es.cons (E.var 11) Es.nil))) (E.bin .mod (E.bin .div (E.var 6) (E.int 17)) (E.int 2))) Es.nil))) (Ss.cons (S.set [4] false (E.bi .max (Es.cons (E.var 4) (Es.cons (E.bin .add (E.var 8) (E.bin .mod (E.bin .div (E.var 6) (E.int 17)) (E.int 2))) Es.nil)))) Ss.nil))) (Ss.cons (S.expr (E.bm .append (E.var 3) (Es.cons (E.tup (Es.cons (E.ix (E.tup (Es.cons (E.str "out") (Es.cons (E.str "done") (Es.cons (E.str "new") (Es.cons (E.str "out") (Es.cons (E.str "done") Es.nil)))))) (E.bin .sub (E.var 7) (E.int 4))) (Es.cons (E.var 8) (Es.cons (E.tup (Es.nil)) Es.nil)))) Es.nil))) Ss.nil)) Ss.nil)) Ss.nil)) Ss.nil))))) (Ss.cons (S.ite (E.cmp .gt (E.var 2) (E.int 0)) (Ss.cons (S.set [12] false (E.lst (Es.cons (E.tup (Es.cons (E.str "put") (Es.cons (E.bin .mod (E.bin .div (E.var 0) (E.int 13)) (E.bin .add (E.var 4) (E.int 1))) (Es.cons (E.tup (Es.nil)) Es.nil)))) (Es.cons (E.tup (Es.cons (E.str "deal") (Es.cons (E.int 0) (Es.cons (E.tup (Es.cons (E.int 1) Es.nil)) Es.nil)))) (Es.cons (E.tup (Es.cons (E.str "part") (Es.cons (E.var 4) (Es.cons (E.tup (Es.nil)) Es.nil)))) (Es.cons (E.tup (Es.cons (E.str "from") (Es.cons (E.int 3) (Es.cons (E.tup (Es.nil)) Es.nil)))) Es.nil)))))) (Ss.cons (S.set [13] false (E.bin .mod (E.bin .div (E.var 0) (E.int 19)) (E.bin .add (E.bi .len (Es.cons (E.var 3) Es.nil)) (E.int 1)))) (Ss.cons (S.set [3] false (E.bin .add (E.bin .add (E.sl (E.var 3) Oe.none (Oe.some (E.var 13))) (E.lst (Es.cons (E.ix (E.var 12) (E.bin .mod (E.var 2) (E.int 4))) Es.nil))) (E.sl (E.var 3) (Oe.some (E.var 13)) Oe.none))) Ss.nil))) (Ss.nil)) (Ss.cons (S.ret (E.var 3)) Ss.nil))))⟩
/-- _law_row_bytes: 0 _law_row, 1 _law_kinds -/
def d_law_row_bytes_k11 : Fd := ⟨1, 2, Ss.cons (S.set [1] false (E.xtup ["put", "out", "done", "from", "part", "deal", "carried", "new"])) (Ss.cons (S.ret (E.fn f_law_coded (Es.cons (E.bin .add (E.int 1) (E.bm .index (E.var 1) (Es.cons (E.ix (E.var 0) (E.int 0)) Es.nil))) (Es.cons (E.ix (E.var 0) (E.int 1)) (Es.cons (E.ix (E.var 0) (E.int 2)) Es.nil))))) Ss.nil)⟩
/-- _law_settings: 0 _law_cell_here, 1 _law_seed_here, 2 _law_most -/
def d_law_settings : Fd := ⟨1, 3, Ss.cons (S.set [1] false (E.fn f_law_seed (Es.cons (E.var 0) (Es.cons (E.int 0) Es.nil)))) (Ss.cons (S.set [2] false (E.ix (E.lst (Es.cons (E.bin .add (E.int 1) (E.bin .mod (E.bin .div (E.var 1) (E.int 3)) (E.int 60))) (Es.cons (E.bin .add (E.int 1) (E.bin .mod (E.bin .div (E.var 1) (E.int 3)) (E.int 200))) (Es.cons (E.int 2000) Es.nil)))) (E.bin .mod (E.bin .div (E.var 1) (E.int 7)) (E.int 3)))) (Ss.cons (S.ret (E.tup (Es.cons (E.var 2) (Es.cons (E.bin .mod (E.bin .div (E.var 1) (E.int 11)) (E.ix (E.lst (Es.cons (E.int 8) (Es.cons (E.int 100) Es.nil))) (E.bi .int (Es.cons (E.cmp .eq (E.bin .mod (E.bin .div (E.var 1) (E.int 19)) (E.int 4)) (E.int 0)) Es.nil)))) (Es.cons (E.bin .add (E.int 1) (E.bin .mod (E.bin .div (E.var 1) (E.int 13)) (E.ix (E.lst (Es.cons (E.int 9) (Es.cons (E.int 3) Es.nil))) (E.bin .mod (E.bin .div (E.var 1) (E.int 17)) (E.int 2))))) Es.nil))))) Ss.nil))⟩
/-- _law_queue: 0 _law_disk, 1 _law_settings_here -/
def d_law_queue : Fd := ⟨2, 2, Ss.cons (S.ret (E.mk "Queue" f_Queue_init (Es.cons (E.var 0) (Es.cons (E.ix (E.var 1) (E.int 0)) (Es.cons (E.ix (E.var 1) (E.int 1)) (Es.cons (E.ix (E.var 1) (E.int 2)) Es.nil)))))) Ss.nil⟩
/-- _law_begin:  -/
def d_law_begin : Fd := ⟨0, 0, Ss.cons (S.ret (E.dict ["letters", "after", "hands", "time", "rows", "first", "where"] (Es.cons (E.dict [] (Es.nil)) (Es.cons (E.int 0) (Es.cons (E.dict [] (Es.nil)) (Es.cons (E.int 0) (Es.cons (E.nlst (Es.cons (E.nlst (Es.cons (E.tup (Es.cons (E.str "from") (Es.cons (E.int 0) (Es.cons (E.tup (Es.nil)) Es.nil)))) Es.nil)) Es.nil)) (Es.cons (E.int 0) (Es.cons (E.dict [] (Es.nil)) Es.nil))))))))) Ss.nil⟩
/-- _law_size: 0 _law_rows, 1 _law_row -/
def d_law_size : Fd := ⟨1, 2, Ss.cons (S.ret (E.bi .sum (Es.cons (E.lc (E.bin .add (E.int 7) (E.bi .len (Es.cons (E.ix (E.var 1) (E.int 2)) Es.nil))) [1] false (It.val (E.var 0)) Oe.none [1]) Es.nil))) Ss.nil⟩
/-- _law_write: 0 _law_state, 1 _law_rows, 2 _law_most, 3 _law_row -/
def d_law_write : Fd := ⟨3, 4, Ss.cons (S.ite (E.cmp .ge (E.fn f_law_size (Es.cons (E.ix (E.ix (E.var 0) (E.str "rows")) (E.neg (E.int 1))) Es.nil)) (E.var 2)) (Ss.cons (S.expr (E.bm .append (E.ix (E.var 0) (E.str "rows")) (Es.cons (E.nlst (Es.cons (E.tup (Es.cons (E.str "from") (Es.cons (E.ix (E.var 0) (E.str "after")) (Es.cons (E.tup (Es.nil)) Es.nil)))) Es.nil)) Es.nil))) Ss.nil) (Ss.nil)) (Ss.cons (S.for_ [3] false (It.val (E.var 1)) (Ss.cons (S.expr (E.bm .append (E.ix (E.ix (E.var 0) (E.str "rows")) (E.neg (E.int 1))) (Es.cons (E.var 3) Es.nil))) (Ss.cons (S.ite (E.cmp .mem (E.ix (E.var 3) (E.int 0)) (E.tup (Es.cons (E.str "put") (Es.cons (E.str "part") (Es.cons (E.str "carried") Es.nil))))) (Ss.cons (S.dset (E.ix (E.var 0) (E.str "where")) (E.ix (E.var 3) (E.int 1)) (E.bin .sub (E.bin .add (E.ix (E.var 0) (E.str "first")) (E.bi .len (Es.cons (E.ix (E.var 0) (E.str "rows")) Es.nil))) (E.int 1))) Ss.nil) (Ss.nil)) Ss.nil))) Ss.nil)⟩
/-- _law_ready: 0 _law_state, 1 _law_tries, 2 _law_some, 3 _law_ready_here, 4 _law_number -/
def d_law_ready : Fd := ⟨2, 5, Ss.cons (S.set [2] false (E.lc (E.var 4) [4] false (It.val (E.bi .sorted (Es.cons (E.ix (E.var 0) (E.str "letters")) Es.nil))) (Oe.some (E.cmp .nin (E.var 4) (E.ix (E.var 0) (E.str "hands")))) [4])) (Ss.cons (S.set [3] false (E.lc (E.var 4) [4] false (It.val (E.var 2)) (Oe.some (E.cmp .lt (E.ix (E.ix (E.ix (E.var 0) (E.str "letters")) (E.var 4)) (E.int 1)) (E.var 1))) [4])) (Ss.cons (S.ret (E.tup (Es.cons (E.var 3) (Es.cons (E.lc (E.var 4) [4] false (It.val (E.var 2)) (Oe.some (E.cmp .nin (E.var 4) (E.var 3))) [4]) Es.nil)))) Ss.nil))⟩
/-- _law_put: 0 _law_state, 1 _law_bodies, 2 _law_most, 3 _law_rows, 4 _law_body -/
def d_law_put : Fd := ⟨4, 5, Ss.cons (S.expr (E.fn f_law_write (Es.cons (E.var 0) (Es.cons (E.var 3) (Es.cons (E.var 2) Es.nil))))) (Ss.cons (S.for_ [4] false (It.val (E.var 1)) (Ss.cons (S.dset (E.ix (E.var 0) (E.str "letters")) (E.ix (E.var 0) (E.str "after")) (E.tup (Es.cons (E.var 4) (Es.cons (E.int 0) Es.nil)))) (Ss.cons (S.daug (E.var 0) (E.str "after") .add (E.int 1)) Ss.nil))) Ss.nil)⟩
/-- _law_told: 0 _law_state, 1 _law_deed_here, 2 _law_settings_here, 3 _law_most, 4 _law_hold, 5 _law_tries, 6 _law_word, 7 _law_first, 8 _law_body, 9 _law_rows, 10 _law_ready_here, 11 _law_times, 12 _law_k -/
def d_law_told : Fd := ⟨3, 13, Ss.cons (S.set [3, 4, 5] true (E.var 2)) (Ss.cons (S.set [6] false (E.ix (E.var 1) (E.int 0))) (Ss.cons (S.set [7] false (E.ix (E.var 0) (E.str "after"))) (Ss.cons (S.ite (E.cmp .eq (E.var 6) (E.str "put")) (Ss.cons (S.expr (E.fn f_law_put (Es.cons (E.var 0) (Es.cons (E.lst (Es.cons (E.ix (E.var 1) (E.int 1)) Es.nil)) (Es.cons (E.var 3) (Es.cons (E.lst (Es.cons (E.tup (Es.cons (E.str "put") (Es.cons (E.var 7) (Es.cons (E.ix (E.var 1) (E.int 1)) Es.nil)))) Es.nil)) Es.nil)))))) (Ss.cons (S.ret (E.var 7)) Ss.nil)) (Ss.nil)) (Ss.cons (S.ite (E.cmp .eq (E.var 6) (E.str "all")) (Ss.cons (S.set [9] false (E.lc (E.tup (Es.cons (E.str "part") (Es.cons (E.bin .add (E.var 7) (E.var 12)) (Es.cons (E.var 8) Es.nil)))) [12, 8] true (It.enum (E.ix (E.var 1) (E.int 1))) Oe.none [12, 8])) (Ss.cons (S.expr (E.fn f_law_put (Es.cons (E.var 0) (Es.cons (E.ix (E.var 1) (E.int 1)) (Es.cons (E.var 3) (Es.cons (E.bin .add (E.var 9) (E.lst (Es.cons (E.tup (Es.cons (E.str "deal") (Es.cons (E.var 7) (Es.cons (E.tup (Es.cons (E.bi .len (Es.cons (E.ix (E.var 1) (E.int 1)) Es.nil)) Es.nil)) Es.nil)))) Es.nil))) Es.nil)))))) (Ss.cons (S.ret (E.lrng (E.var 7) (E.ix (E.var 0) (E.str "after")))) Ss.nil))) (Ss.nil)) (Ss.cons (S.ite (E.cmp .eq (E.var 6) (E.str "take")) (Ss.cons (S.set [10] false (E.ix (E.fn f_law_ready (Es.cons (E.var 0) (Es.cons (E.var 5) Es.nil))) (E.int 0))) (Ss.cons (S.ite (E.cmp .eq (E.var 10) (E.lst (Es.nil))) (Ss.cons (S.ret E.non) Ss.nil) (Ss.nil)) (Ss.cons (S.expr (E.fn f_law_write (Es.cons (E.var 0) (Es.cons (E.lst (Es.cons (E.tup (Es.cons (E.str "out") (Es.cons (E.ix (E.var 10) (E.int 0)) (Es.cons (E.tup (Es.nil)) Es.nil)))) Es.nil)) (Es.cons (E.var 3) Es.nil))))) (Ss.cons (S.set [8, 11] true (E.ix (E.ix (E.var 0) (E.str "letters")) (E.ix (E.var 10) (E.int 0)))) (Ss.cons (S.dset (E.ix (E.var 0) (E.str "letters")) (E.ix (E.var 10) (E.int 0)) (E.tup (Es.cons (E.var 8) (Es.cons (E.bin .add (E.var 11) (E.int 1)) Es.nil)))) (Ss.cons (S.dset (E.ix (E.var 0) (E.str "hands")) (E.ix (E.var 10) (E.int 0)) (E.tup (Es.cons (E.ix (E.var 1) (E.int 1)) (Es.cons (E.ix (E.var 0) (E.str "time")) Es.nil)))) (Ss.cons (S.ret (E.tup (Es.cons (E.ix (E.var 10) (E.int 0)) (Es.cons (E.var 8) (Es.cons (E.bin .add (E.var 11) (E.int 1)) Es.nil))))) Ss.nil))))))) (Ss.nil)) (Ss.cons (S.ite (E.cmp .mem (E.var 6) (E.tup (Es.cons (E.str "done") (Es.cons (E.str "back") Es.nil)))) (Ss.cons (S.ret (E.fn f_law_given (Es.cons (E.var 0) (Es.cons (E.var 1) (Es.cons (E.var 3) Es.nil))))) Ss.nil) (Ss.nil)) (Ss.cons (S.ret (E.fn f_law_other (Es.cons (E.var 0) (Es.cons (E.var 1) (Es.cons (E.var 2) Es.nil))))) Ss.nil)))))))⟩
/-- _law_given: 0 _law_state, 1 _law_deed_here, 2 _law_most, 3 _law_word, 4 _law_hand, 5 _law_number -/
def d_law_given : Fd := ⟨3, 6, Ss.cons (S.set [3, 4, 5] true (E.var 1)) (Ss.cons (S.ite (E.cmp .ne (E.ix (E.bm .get (E.ix (E.var 0) (E.str "hands")) (Es.cons (E.var 5) (Es.cons (E.tup (Es.cons (E.str "") (Es.cons (E.int 0) Es.nil))) Es.nil))) (E.int 0)) (E.var 4)) (Ss.cons (S.ret (E.str "refused")) Ss.nil) (Ss.nil)) (Ss.cons (S.ite (E.cmp .eq (E.var 3) (E.str "done")) (Ss.cons (S.expr (E.fn f_law_write (Es.cons (E.var 0) (Es.cons (E.lst (Es.cons (E.tup (Es.cons (E.str "done") (Es.cons (E.var 5) (Es.cons (E.tup (Es.nil)) Es.nil)))) Es.nil)) (Es.cons (E.var 2) Es.nil))))) (Ss.cons (S.expr (E.bm .pop (E.ix (E.var 0) (E.str "letters")) (Es.cons (E.var 5) Es.nil))) (Ss.cons (S.expr (E.bm .pop (E.ix (E.var 0) (E.str "where")) (Es.cons (E.var 5) Es.nil))) Ss.nil))) (Ss.nil)) (Ss.cons (S.expr (E.bm .pop (E.ix (E.var 0) (E.str "hands")) (Es.cons (E.var 5) Es.nil))) (Ss.cons (S.ret E.non) Ss.nil))))⟩
/-- _law_other: 0 _law_state, 1 _law_deed_here, 2 _law_settings_here, 3 _law_most, 4 _law_hold, 5 _law_tries, 6 _law_word, 7 _law_number, 8 _law_late, 9 _law_moved, 10 _law_body, 11 _law_times, 12 _law_many -/
def d_law_other : Fd := ⟨3, 13, Ss.cons (S.set [3, 4, 5] true (E.var 2)) (Ss.cons (S.set [6] false (E.ix (E.var 1) (E.int 0))) (Ss.cons (S.ite (E.cmp .eq (E.var 6) (E.str "wait")) (Ss.cons (S.daug (E.var 0) (E.str "time") .add (E.ix (E.var 1) (E.int 1))) (Ss.cons (S.set [8] false (E.lc (E.var 7) [7] false (It.val (E.bi .sorted (Es.cons (E.ix (E.var 0) (E.str "hands")) Es.nil))) (Oe.some (E.cmp .gt (E.bin .sub (E.ix (E.var 0) (E.str "time")) (E.ix (E.ix (E.ix (E.var 0) (E.str "hands")) (E.var 7)) (E.int 1))) (E.var 4))) [7])) (Ss.cons (S.for_ [7] false (It.val (E.var 8)) (Ss.cons (S.expr (E.bm .pop (E.ix (E.var 0) (E.str "hands")) (Es.cons (E.var 7) Es.nil))) Ss.nil)) (Ss.cons (S.ret (E.var 8)) Ss.nil)))) (Ss.nil)) (Ss.cons (S.ite (E.cmp .eq (E.var 6) (E.str "new")) (Ss.cons (S.ite (E.cmp .nin (E.ix (E.var 1) (E.int 1)) (E.ix (E.fn f_law_ready (Es.cons (E.var 0) (Es.cons (E.var 5) Es.nil))) (E.int 1))) (Ss.cons (S.ret (E.str "refused")) Ss.nil) (Ss.nil)) (Ss.cons (S.expr (E.fn f_law_write (Es.cons (E.var 0) (Es.cons (E.lst (Es.cons (E.tup (Es.cons (E.str "new") (Es.cons (E.ix (E.var 1) (E.int 1)) (Es.cons (E.tup (Es.nil)) Es.nil)))) Es.nil)) (Es.cons (E.var 3) Es.nil))))) (Ss.cons (S.dset (E.ix (E.var 0) (E.str "letters")) (E.ix (E.var 1) (E.int 1)) (E.tup (Es.cons (E.ix (E.ix (E.ix (E.var 0) (E.str "letters")) (E.ix (E.var 1) (E.int 1))) (E.int 0)) (Es.cons (E.int 0) Es.nil)))) (Ss.cons (S.ret E.non) Ss.nil)))) (Ss.nil)) (Ss.cons (S.ite (E.cmp .eq (E.var 6) (E.str "carry")) (Ss.cons (S.ite (E.cmp .eq (E.bi .len (Es.cons (E.ix (E.var 0) (E.str "rows")) Es.nil)) (E.int 1)) (Ss.cons (S.ret E.non) Ss.nil) (Ss.nil)) (Ss.cons (S.set [9] false (E.lc (E.var 7) [7] false (It.val (E.bi .sorted (Es.cons (E.ix (E.var 0) (E.str "where")) Es.nil))) (Oe.some (E.cmp .eq (E.ix (E.ix (E.var 0) (E.str "where")) (E.var 7)) (E.ix (E.var 0) (E.str "first")))) [7])) (Ss.cons (S.for_ [7] false (It.val (E.var 9)) (Ss.cons (S.set [10, 11] true (E.ix (E.ix (E.var 0) (E.str "letters")) (E.var 7))) (Ss.cons (S.expr (E.fn f_law_write (Es.cons (E.var 0) (Es.cons (E.lst (Es.cons (E.tup (Es.cons (E.str "carried") (Es.cons (E.var 7) (Es.cons (E.bin .add (E.tup (Es.cons (E.var 11) Es.nil)) (E.var 10)) Es.nil)))) Es.nil)) (Es.cons (E.var 3) Es.nil))))) Ss.nil))) (Ss.cons (S.expr (E.fn f_law_front_goes (Es.cons (E.var 0) Es.nil))) (Ss.cons (S.ret (E.bi .len (Es.cons (E.var 9) Es.nil))) Ss.nil))))) (Ss.nil)) (Ss.cons (S.set [12] false (E.int 0)) (Ss.cons (S.wh (E.bop true (Es.cons (E.cmp .gt (E.bi .len (Es.cons (E.ix (E.var 0) (E.str "rows")) Es.nil)) (E.int 1)) (Es.cons (E.cmp .nin (E.ix (E.var 0) (E.str "first")) (E.lk (E.ix (E.var 0) (E.str "where")) (E.lc (E.ix (E.ix (E.var 0) (E.str "where")) (E.var 7)) [7] false (It.val (E.ix (E.var 0) (E.str "where"))) Oe.none [7]))) Es.nil))) (Ss.cons (S.expr (E.fn f_law_front_goes (Es.cons (E.var 0) Es.nil))) (Ss.cons (S.aug 12 .add (E.int 1)) Ss.nil))) (Ss.cons (S.ret (E.var 12)) Ss.nil)))))))⟩
/-- _law_front_goes: 0 _law_state -/
def d_law_front_goes : Fd := ⟨1, 1, Ss.cons (S.dset (E.var 0) (E.str "rows") (E.nsl (E.ix (E.var 0) (E.str "rows")) (Oe.some (E.int 1)) Oe.none)) (Ss.cons (S.daug (E.var 0) (E.str "first") .add (E.int 1)) Ss.nil)⟩
/-- _law_deed: 0 _law_state, 1 _law_seed_here, 2 _law_tries, 3 _law_pick_here, 4 _law_some, 5 _law_dead, 6 _law_number, 7 _law_hand, 8 _law_many, 9 _law_k -/
def d_law_deed : Fd := ⟨3, 10, Ss.cons (S.set [3] false (E.fn f_law_pick (Es.cons (E.var 1) (Es.cons (E.int 16) Es.nil)))) (Ss.cons (S.set [4] false (E.bi .sorted (Es.cons (E.ix (E.var 0) (E.str "hands")) Es.nil))) (Ss.cons (S.set [5] false (E.ix (E.fn f_law_ready (Es.cons (E.var 0) (Es.cons (E.var 2) Es.nil))) (E.int 1))) (Ss.cons (S.set [6] false (E.bin .mod (E.bin .div (E.var 1) (E.int 7)) (E.bin .add (E.ix (E.var 0) (E.str "after")) (E.int 1)))) (Ss.cons (S.set [7] false (E.ix (E.lst (Es.cons (E.str "a") (Es.cons (E.str "b") (Es.cons (E.str "hhhhhz") Es.nil)))) (E.bin .mod (E.bin .div (E.var 1) (E.int 11)) (E.int 3)))) (Ss.cons (S.ite (E.cmp .lt (E.var 3) (E.int 3)) (Ss.cons (S.ret (E.tup (Es.cons (E.str "put") (Es.cons (E.fn f_law_bytes (Es.cons (E.fn f_law_seed (Es.cons (E.var 1) (Es.cons (E.int 1) Es.nil))) (Es.cons (E.ix (E.lst (Es.cons (E.int 20) (Es.cons (E.int 60) Es.nil))) (E.bin .mod (E.bin .div (E.var 1) (E.int 17)) (E.int 2))) Es.nil))) Es.nil)))) Ss.nil) (Ss.nil)) (Ss.cons (S.ite (E.cmp .eq (E.var 3) (E.int 3)) (Ss.cons (S.set [8] false (E.bin .add (E.int 1) (E.bin .mod (E.bin .div (E.var 1) (E.int 7)) (E.ix (E.lst (Es.cons (E.int 4) (Es.cons (E.int 9) Es.nil))) (E.bin .mod (E.bin .div (E.var 1) (E.int 17)) (E.int 2)))))) (Ss.cons (S.ret (E.tup (Es.cons (E.str "all") (Es.cons (E.bi .tuple (Es.cons (E.lc (E.fn f_law_bytes (Es.cons (E.fn f_law_seed (Es.cons (E.var 1) (Es.cons (E.var 9) Es.nil))) (Es.cons (E.int 8) Es.nil))) [9] false (It.rng (E.var 8)) Oe.none [9]) Es.nil)) Es.nil)))) Ss.nil)) (Ss.nil)) (Ss.cons (S.ite (E.cmp .lt (E.var 3) (E.int 8)) (Ss.cons (S.ret (E.tup (Es.cons (E.str "take") (Es.cons (E.var 7) Es.nil)))) Ss.nil) (Ss.nil)) (Ss.cons (S.ite (E.cmp .lt (E.var 3) (E.int 12)) (Ss.cons (S.ite (E.bop true (Es.cons (E.cmp .ne (E.var 4) (E.lst (Es.nil))) (Es.cons (E.cmp .gt (E.bin .mod (E.bin .div (E.var 1) (E.int 13)) (E.int 5)) (E.int 0)) Es.nil))) (Ss.cons (S.set [6] false (E.ix (E.var 4) (E.bin .mod (E.bin .div (E.var 1) (E.int 7)) (E.bi .len (Es.cons (E.var 4) Es.nil))))) (Ss.cons (S.set [7] false (E.ix (E.ix (E.ix (E.var 0) (E.str "hands")) (E.var 6)) (E.int 0))) Ss.nil)) (Ss.nil)) (Ss.cons (S.ret (E.tup (Es.cons (E.ix (E.lst (Es.cons (E.str "done") (Es.cons (E.str "done") (Es.cons (E.str "back") (Es.cons (E.str "done") Es.nil))))) (E.bin .sub (E.var 3) (E.int 8))) (Es.cons (E.var 7) (Es.cons (E.var 6) Es.nil))))) Ss.nil)) (Ss.nil)) (Ss.cons (S.ite (E.cmp .eq (E.var 3) (E.int 12)) (Ss.cons (S.ret (E.tup (Es.cons (E.str "new") (Es.cons (E.ite (E.bop true (Es.cons (E.cmp .ne (E.var 5) (E.lst (Es.nil))) (Es.cons (E.cmp .gt (E.bin .mod (E.bin .div (E.var 1) (E.int 13)) (E.int 4)) (E.int 0)) Es.nil))) (E.ix (E.var 5) (E.bin .mod (E.bin .div (E.var 1) (E.int 7)) (E.bi .len (Es.cons (E.var 5) Es.nil)))) (E.var 6)) Es.nil)))) Ss.nil) (Ss.nil)) (Ss.cons (S.ret (E.ix (E.lst (Es.cons (E.tup (Es.cons (E.str "wait") (Es.cons (E.bin .add (E.int 1) (E.bin .mod (E.bin .div (E.var 1) (E.int 7)) (E.ix (E.lst (Es.cons (E.int 6) (Es.cons (E.int 99) Es.nil))) (E.bi .int (Es.cons (E.cmp .eq (E.bin .mod (E.bin .div (E.var 1) (E.int 17)) (E.int 5)) (E.int 0)) Es.nil))))) Es.nil))) (Es.cons (E.tup (Es.cons (E.str "sweep") Es.nil)) (Es.cons (E.tup (Es.cons (E.str "carry") Es.nil)) Es.nil)))) (E.bin .sub (E.var 3) (E.int 13)))) Ss.nil))))))))))⟩
/-- _law_letters: 0 _law_state, 1 _law_number -/
def d_law_letters : Fd := ⟨1, 2, Ss.cons (S.ret (E.lc (E.bin .add (E.tup (Es.cons (E.var 1) Es.nil)) (E.ix (E.ix (E.var 0) (E.str "letters")) (E.var 1))) [1] false (It.val (E.bi .sorted (Es.cons (E.ix (E.var 0) (E.str "letters")) Es.nil))) Oe.none [1])) Ss.nil⟩
/-- _law_done_so: 0 _law_script, 1 _law_at, 2 _law_many, 3 _law_disk, 4 _law_settings_here, 5 _law_state, 6 _law_queue_here, 7 _law_k, 8 _law_deed_here -/
def d_law_done_so : Fd := ⟨5, 9, Ss.cons (S.set [5] false (E.fn f_law_begin (Es.nil))) (Ss.cons (S.set [6] false (E.fn f_law_queue (Es.cons (E.var 3) (Es.cons (E.var 4) Es.nil)))) (Ss.cons (S.for_ [7] false (It.rng (E.fn f_law_mix (Es.cons (E.fn f_law_cell (Es.cons (E.var 0) (Es.cons (E.var 1) Es.nil))) (Es.cons (E.int 9949) (Es.cons (E.bin .add (E.var 2) (E.int 1)) Es.nil))))) (Ss.cons (S.set [8] false (E.fn f_law_deed (Es.cons (E.var 5) (Es.cons (E.fn f_law_seed (Es.cons (E.bin .add (E.fn f_law_cell (Es.cons (E.var 0) (Es.cons (E.bin .add (E.bin .add (E.var 1) (E.int 1)) (E.bin .mod (E.var 7) (E.int 6))) Es.nil))) (E.bin .mul (E.int 47) (E.var 7))) (Es.cons (E.var 7) Es.nil))) (Es.cons (E.ix (E.var 4) (E.int 2)) Es.nil))))) (Ss.cons (S.expr (E.fn f_do (Es.cons (E.var 6) (Es.cons (E.var 8) Es.nil)))) (Ss.cons (S.expr (E.fn f_law_told (Es.cons (E.var 5) (Es.cons (E.var 8) (Es.cons (E.var 4) Es.nil))))) Ss.nil)))) (Ss.cons (S.ret (E.tup (Es.cons (E.var 6) (Es.cons (E.var 5) Es.nil)))) Ss.nil)))⟩
/-- _law_states: 0 _law_state -/
def d_law_states : Fd := ⟨1, 1, Ss.cons (S.ret (E.tup (Es.cons (E.fn f_law_letters (Es.cons (E.var 0) Es.nil)) (Es.cons (E.ix (E.var 0) (E.str "after")) Es.nil)))) Ss.nil⟩
/-- _law_stay: 0 _law_queue_here -/
def d_law_stay : Fd := ⟨1, 1, Ss.cons (S.ite (E.isN (E.var 0)) (Ss.cons (S.ret E.non) Ss.nil) (Ss.nil)) (Ss.cons (S.ret (E.tup (Es.cons (E.mth "Queue" "letters" f_Queue_letters (E.var 0) (Es.nil)) (Es.cons (E.mth "Queue" "coming" f_Queue_coming (E.var 0) (Es.nil)) Es.nil)))) Ss.nil)⟩
/-- _law_opened: 0 _law_disk, 1 _law_settings_here, 2 _law_found -/
def d_law_opened : Fd := ⟨2, 3, Ss.cons (S.set [2] false E.non) (Ss.cons (S.try_ (Ss.cons (S.set [2] false (E.fn f_law_queue (Es.cons (E.var 0) (Es.cons (E.var 1) Es.nil)))) Ss.nil) [("Broken", Hb.set 2 (E.non))]) (Ss.cons (S.ret (E.var 2)) Ss.nil))⟩
/-- _law_told: 0 _law_state, 1 _law_deed_here, 2 _law_settings, 3 _law_most, 4 _law_hold, 5 _law_tries, 6 _law_word, 7 _law_first, 8 _law_body, 9 _law_rows, 10 _law_ready_here, 11 _law_times, 12 _law_k -/
def d_law_told_k15 : Fd := ⟨3, 13, Ss.cons (S.set [3, 4, 5] true (E.var 2)) (Ss.cons (S.set [6] false (E.ix (E.var 1) (E.int 0))) (Ss.cons (S.set [7] false (E.ix (E.var 0) (E.str "after"))) (Ss.cons (S.ite (E.cmp .eq (E.var 6) (E.str "put")) (Ss.cons (S.expr (E.fn f_law_put (Es.cons (E.var 0) (Es.cons (E.lst (Es.cons (E.ix (E.var 1) (E.int 1)) Es.nil)) (Es.cons (E.var 3) (Es.cons (E.lst (Es.cons (E.tup (Es.cons (E.str "put") (Es.cons (E.var 7) (Es.cons (E.ix (E.var 1) (E.int 1)) Es.nil)))) Es.nil)) Es.nil)))))) (Ss.cons (S.ret (E.var 7)) Ss.nil)) (Ss.nil)) (Ss.cons (S.ite (E.cmp .eq (E.var 6) (E.str "all")) (Ss.cons (S.set [9] false (E.lc (E.tup (Es.cons (E.str "part") (Es.cons (E.bin .add (E.var 7) (E.var 12)) (Es.cons (E.var 8) Es.nil)))) [12, 8] true (It.enum (E.ix (E.var 1) (E.int 1))) Oe.none [12, 8])) (Ss.cons (S.expr (E.fn f_law_put (Es.cons (E.var 0) (Es.cons (E.ix (E.var 1) (E.int 1)) (Es.cons (E.var 3) (Es.cons (E.bin .add (E.var 9) (E.lst (Es.cons (E.tup (Es.cons (E.str "deal") (Es.cons (E.var 7) (Es.cons (E.tup (Es.cons (E.bi .len (Es.cons (E.ix (E.var 1) (E.int 1)) Es.nil)) Es.nil)) Es.nil)))) Es.nil))) Es.nil)))))) (Ss.cons (S.ret (E.lrng (E.var 7) (E.ix (E.var 0) (E.str "after")))) Ss.nil))) (Ss.nil)) (Ss.cons (S.ite (E.cmp .eq (E.var 6) (E.str "take")) (Ss.cons (S.set [10] false (E.ix (E.fn f_law_ready (Es.cons (E.var 0) (Es.cons (E.var 5) Es.nil))) (E.int 0))) (Ss.cons (S.ite (E.cmp .eq (E.var 10) (E.lst (Es.nil))) (Ss.cons (S.ret E.non) Ss.nil) (Ss.nil)) (Ss.cons (S.expr (E.fn f_law_write (Es.cons (E.var 0) (Es.cons (E.lst (Es.cons (E.tup (Es.cons (E.str "out") (Es.cons (E.ix (E.var 10) (E.int 0)) (Es.cons (E.tup (Es.nil)) Es.nil)))) Es.nil)) (Es.cons (E.var 3) Es.nil))))) (Ss.cons (S.set [8, 11] true (E.ix (E.ix (E.var 0) (E.str "letters")) (E.ix (E.var 10) (E.int 0)))) (Ss.cons (S.dset (E.ix (E.var 0) (E.str "letters")) (E.ix (E.var 10) (E.int 0)) (E.tup (Es.cons (E.var 8) (Es.cons (E.bin .add (E.var 11) (E.int 1)) Es.nil)))) (Ss.cons (S.dset (E.ix (E.var 0) (E.str "hands")) (E.ix (E.var 10) (E.int 0)) (E.tup (Es.cons (E.ix (E.var 1) (E.int 1)) (Es.cons (E.ix (E.var 0) (E.str "time")) Es.nil)))) (Ss.cons (S.ret (E.tup (Es.cons (E.ix (E.var 10) (E.int 0)) (Es.cons (E.var 8) (Es.cons (E.bin .add (E.var 11) (E.int 1)) Es.nil))))) Ss.nil))))))) (Ss.nil)) (Ss.cons (S.ite (E.cmp .mem (E.var 6) (E.tup (Es.cons (E.str "done") (Es.cons (E.str "back") Es.nil)))) (Ss.cons (S.ret (E.fn f_law_given (Es.cons (E.var 0) (Es.cons (E.var 1) (Es.cons (E.var 3) Es.nil))))) Ss.nil) (Ss.nil)) (Ss.cons (S.ret (E.fn f_law_other_k15 (Es.cons (E.var 0) (Es.cons (E.var 1) (Es.cons (E.var 2) Es.nil))))) Ss.nil)))))))⟩
/-- _law_other: 0 _law_state, 1 _law_deed_here, 2 _law_settings, 3 _law_most, 4 _law_hold, 5 _law_tries, 6 _law_word, 7 _law_number, 8 _law_late, 9 _law_moved, 10 _law_body, 11 _law_times, 12 _law_many -/
def d_law_other_k15 : Fd := ⟨3, 13, Ss.cons (S.set [3, 4, 5] true (E.var 2)) (Ss.cons (S.set [6] false (E.ix (E.var 1) (E.int 0))) (Ss.cons (S.ite (E.cmp .eq (E.var 6) (E.str "wait")) (Ss.cons (S.daug (E.var 0) (E.str "time") .add (E.ix (E.var 1) (E.int 1))) (Ss.cons (S.set [8] false (E.lc (E.var 7) [7] false (It.val (E.bi .sorted (Es.cons (E.ix (E.var 0) (E.str "hands")) Es.nil))) (Oe.some (E.cmp .gt (E.bin .sub (E.ix (E.var 0) (E.str "time")) (E.ix (E.ix (E.ix (E.var 0) (E.str "hands")) (E.var 7)) (E.int 1))) (E.var 4))) [7])) (Ss.cons (S.for_ [7] false (It.val (E.var 8)) (Ss.cons (S.expr (E.bm .pop (E.ix (E.var 0) (E.str "hands")) (Es.cons (E.var 7) Es.nil))) Ss.nil)) (Ss.cons (S.ret (E.var 8)) Ss.nil)))) (Ss.nil)) (Ss.cons (S.ite (E.cmp .eq (E.var 6) (E.str "new")) (Ss.cons (S.ite (E.cmp .nin (E.ix (E.var 1) (E.int 1)) (E.ix (E.fn f_law_ready (Es.cons (E.var 0) (Es.cons (E.var 5) Es.nil))) (E.int 1))) (Ss.cons (S.ret (E.str "refused")) Ss.nil) (Ss.nil)) (Ss.cons (S.expr (E.fn f_law_write (Es.cons (E.var 0) (Es.cons (E.lst (Es.cons (E.tup (Es.cons (E.str "new") (Es.cons (E.ix (E.var 1) (E.int 1)) (Es.cons (E.tup (Es.nil)) Es.nil)))) Es.nil)) (Es.cons (E.var 3) Es.nil))))) (Ss.cons (S.dset (E.ix (E.var 0) (E.str "letters")) (E.ix (E.var 1) (E.int 1)) (E.tup (Es.cons (E.ix (E.ix (E.ix (E.var 0) (E.str "letters")) (E.ix (E.var 1) (E.int 1))) (E.int 0)) (Es.cons (E.int 0) Es.nil)))) (Ss.cons (S.ret E.non) Ss.nil)))) (Ss.nil)) (Ss.cons (S.ite (E.cmp .eq (E.var 6) (E.str "carry")) (Ss.cons (S.ite (E.cmp .eq (E.bi .len (Es.cons (E.ix (E.var 0) (E.str "rows")) Es.nil)) (E.int 1)) (Ss.cons (S.ret E.non) Ss.nil) (Ss.nil)) (Ss.cons (S.set [9] false (E.lc (E.var 7) [7] false (It.val (E.bi .sorted (Es.cons (E.ix (E.var 0) (E.str "where")) Es.nil))) (Oe.some (E.cmp .eq (E.ix (E.ix (E.var 0) (E.str "where")) (E.var 7)) (E.ix (E.var 0) (E.str "first")))) [7])) (Ss.cons (S.for_ [7] false (It.val (E.var 9)) (Ss.cons (S.set [10, 11] true (E.ix (E.ix (E.var 0) (E.str "letters")) (E.var 7))) (Ss.cons (S.expr (E.fn f_law_write (Es.cons (E.var 0) (Es.cons (E.lst (Es.cons (E.tup (Es.cons (E.str "carried") (Es.cons (E.var 7) (Es.cons (E.bin .add (E.tup (Es.cons (E.var 11) Es.nil)) (E.var 10)) Es.nil)))) Es.nil)) (Es.cons (E.var 3) Es.nil))))) Ss.nil))) (Ss.cons (S.expr (E.fn f_law_front_goes (Es.cons (E.var 0) Es.nil))) (Ss.cons (S.ret (E.bi .len (Es.cons (E.var 9) Es.nil))) Ss.nil))))) (Ss.nil)) (Ss.cons (S.set [12] false (E.int 0)) (Ss.cons (S.wh (E.bop true (Es.cons (E.cmp .gt (E.bi .len (Es.cons (E.ix (E.var 0) (E.str "rows")) Es.nil)) (E.int 1)) (Es.cons (E.cmp .nin (E.ix (E.var 0) (E.str "first")) (E.lk (E.ix (E.var 0) (E.str "where")) (E.lc (E.ix (E.ix (E.var 0) (E.str "where")) (E.var 7)) [7] false (It.val (E.ix (E.var 0) (E.str "where"))) Oe.none [7]))) Es.nil))) (Ss.cons (S.expr (E.fn f_law_front_goes (Es.cons (E.var 0) Es.nil))) (Ss.cons (S.aug 12 .add (E.int 1)) Ss.nil))) (Ss.cons (S.ret (E.var 12)) Ss.nil)))))))⟩
/-- _law_queue: 0 _law_disk, 1 _law_settings -/
def d_law_queue_k15 : Fd := ⟨2, 2, Ss.cons (S.ret (E.mk "Queue" f_Queue_init (Es.cons (E.var 0) (Es.cons (E.ix (E.var 1) (E.int 0)) (Es.cons (E.ix (E.var 1) (E.int 1)) (Es.cons (E.ix (E.var 1) (E.int 2)) Es.nil)))))) Ss.nil⟩
/-- _law_done_so: 0 _law_script, 1 _law_at, 2 _law_many, 3 _law_disk, 4 _law_settings, 5 _law_state, 6 _law_queue_here, 7 _law_k, 8 _law_deed_here -/
def d_law_done_so_k15 : Fd := ⟨5, 9, Ss.cons (S.set [5] false (E.fn f_law_begin (Es.nil))) (Ss.cons (S.set [6] false (E.fn f_law_queue_k15 (Es.cons (E.var 3) (Es.cons (E.var 4) Es.nil)))) (Ss.cons (S.for_ [7] false (It.rng (E.fn f_law_mix (Es.cons (E.fn f_law_cell (Es.cons (E.var 0) (Es.cons (E.var 1) Es.nil))) (Es.cons (E.int 9949) (Es.cons (E.bin .add (E.var 2) (E.int 1)) Es.nil))))) (Ss.cons (S.set [8] false (E.fn f_law_deed (Es.cons (E.var 5) (Es.cons (E.fn f_law_seed (Es.cons (E.bin .add (E.fn f_law_cell (Es.cons (E.var 0) (Es.cons (E.bin .add (E.bin .add (E.var 1) (E.int 1)) (E.bin .mod (E.var 7) (E.int 6))) Es.nil))) (E.bin .mul (E.int 47) (E.var 7))) (Es.cons (E.var 7) Es.nil))) (Es.cons (E.ix (E.var 4) (E.int 2)) Es.nil))))) (Ss.cons (S.expr (E.fn f_do (Es.cons (E.var 6) (Es.cons (E.var 8) Es.nil)))) (Ss.cons (S.expr (E.fn f_law_told_k15 (Es.cons (E.var 5) (Es.cons (E.var 8) (Es.cons (E.var 4) Es.nil))))) Ss.nil)))) (Ss.cons (S.ret (E.tup (Es.cons (E.var 6) (Es.cons (E.var 5) Es.nil)))) Ss.nil)))⟩
/-- _law_copy: 0 _law_disk, 1 _law_other, 2 _law_name -/
def d_law_copy : Fd := ⟨1, 3, Ss.cons (S.set [1] false (E.mk "Disk" f_Disk_init (Es.cons E.non Es.nil))) (Ss.cons (S.for_ [2] false (It.val (E.mth "Disk" "names" f_Disk_names (E.var 0) (Es.nil))) (Ss.cons (S.expr (E.mth "Disk" "make" f_Disk_make (E.var 1) (Es.cons (E.var 2) Es.nil))) (Ss.cons (S.expr (E.mth "Disk" "add" f_Disk_add (E.var 1) (Es.cons (E.var 2) (Es.cons (E.mth "Disk" "read" f_Disk_read (E.var 0) (Es.cons (E.var 2) Es.nil)) Es.nil)))) Ss.nil))) (Ss.cons (S.ret (E.var 1)) Ss.nil))⟩
/-- _law_copy: 0 _law_disk, 1 _law_other_here, 2 _law_name -/
def d_law_copy_k24 : Fd := ⟨1, 3, Ss.cons (S.set [1] false (E.mk "Disk" f_Disk_init (Es.cons E.non Es.nil))) (Ss.cons (S.for_ [2] false (It.val (E.mth "Disk" "names" f_Disk_names (E.var 0) (Es.nil))) (Ss.cons (S.expr (E.mth "Disk" "make" f_Disk_make (E.var 1) (Es.cons (E.var 2) Es.nil))) (Ss.cons (S.expr (E.mth "Disk" "add" f_Disk_add (E.var 1) (Es.cons (E.var 2) (Es.cons (E.mth "Disk" "read" f_Disk_read (E.var 0) (Es.cons (E.var 2) Es.nil)) Es.nil)))) Ss.nil))) (Ss.cons (S.ret (E.var 1)) Ss.nil))⟩
/-- _law_in_order: 0 _law_disk, 1 _law_number, 2 _law_name -/
def d_law_in_order : Fd := ⟨1, 3, Ss.cons (S.ret (E.lc (E.bin .add (E.str "s") (E.bi .str (Es.cons (E.var 1) Es.nil))) [1] false (It.val (E.bi .sorted (Es.cons (E.lc (E.bi .int (Es.cons (E.sl (E.var 2) (Oe.some (E.int 1)) Oe.none) Es.nil)) [2] false (It.val (E.mth "Disk" "names" f_Disk_names (E.var 0) (Es.nil))) Oe.none [2]) Es.nil))) Oe.none [1])) Ss.nil⟩
/-- _law_till_stop: 0 _law_script, 1 _law_at, 2 _law_many, 3 _law_disk, 4 _law_settings_here, 5 _law_state, 6 _law_queue_here, 7 _law_k, 8 _law_deed_here, 9 _law_before, 10 _law_told_here, 11 _law_due -/
def d_law_till_stop : Fd := ⟨6, 12, Ss.cons (S.set [6] false E.non) (Ss.cons (S.try_ (Ss.cons (S.set [6] false (E.fn f_law_opened (Es.cons (E.var 3) (Es.cons (E.var 4) Es.nil)))) (Ss.cons (S.ite (E.isN (E.var 6)) (Ss.cons (S.ret (E.lst (Es.nil))) Ss.nil) (Ss.nil)) Ss.nil)) [("Stopped", Hb.set 6 (E.non))]) (Ss.cons (S.ite (E.isN (E.var 6)) (Ss.cons (S.ret (E.lst (Es.cons (E.fn f_law_states (Es.cons (E.var 5) Es.nil)) Es.nil))) Ss.nil) (Ss.nil)) (Ss.cons (S.for_ [7] false (It.rng (E.var 2)) (Ss.cons (S.set [8] false (E.fn f_law_deed (Es.cons (E.var 5) (Es.cons (E.fn f_law_seed (Es.cons (E.bin .add (E.fn f_law_cell (Es.cons (E.var 0) (Es.cons (E.bin .add (E.var 1) (E.bin .mod (E.var 7) (E.int 7))) Es.nil))) (E.bin .mul (E.int 59) (E.var 7))) (Es.cons (E.var 7) Es.nil))) (Es.cons (E.ix (E.var 4) (E.int 2)) Es.nil))))) (Ss.cons (S.set [9] false (E.fn f_law_states (Es.cons (E.var 5) Es.nil))) (Ss.cons (S.set [10] false (E.fn f_do (Es.cons (E.var 6) (Es.cons (E.var 8) Es.nil)))) (Ss.cons (S.set [11] false (E.fn f_law_told (Es.cons (E.var 5) (Es.cons (E.var 8) (Es.cons (E.var 4) Es.nil))))) (Ss.cons (S.ite (E.cmp .eq (E.var 10) (E.str "stopped")) (Ss.cons (S.ret (E.lst (Es.cons (E.var 9) (Es.cons (E.fn f_law_states (Es.cons (E.var 5) Es.nil)) Es.nil)))) Ss.nil) (Ss.nil)) (Ss.cons (S.ite (E.cmp .ne (E.var 10) (E.var 11)) (Ss.cons (S.ret (E.lst (Es.nil))) Ss.nil) (Ss.nil)) Ss.nil))))))) (Ss.cons (S.ret (E.lst (Es.cons (E.fn f_law_states (Es.cons (E.var 5) Es.nil)) Es.nil))) Ss.nil))))⟩
def base : List Fd := [d_is_within, d_are_bytes, d_is_name, d_Disk_init, d_Disk_go_on, d_Disk_step, d_Disk_look, d_Disk_make, d_Disk_add, d_Disk_cut, d_Disk_drop, d_Disk_names, d_Disk_read, d_Disk_size, d_Disk_steps, d_Disk_left, d_is_body, d_is_row, d_checks, d_bytes_of, d_row_bytes, d_row_at, d_rows_of, d_rows_in, d_State_init, d_State_put, d_State_deal, d_State_change, d_State_follow, d_made, d_segment_name, d_segments, d_look_names, d_good_end, d_mend_last, d_read_all, d_look_settings, d_look_hand, d_Queue_init, d_Queue_active, d_Queue_write, d_Queue_put, d_Queue_ready, d_Queue_dead, d_Queue_take, d_Queue_look_held, d_Queue_done, d_Queue_letters, d_Queue_held, d_Queue_coming, d_Queue_clock, d_Queue_sizes, d_Queue_living, d_Queue_sweep, d_Queue_carry, d_Queue_put_all, d_Queue_give_back, d_Queue_wait, d_Queue_revive, d_is_deed, d_one_told, d_told_by, d_do, d_run, d_law_cell, d_law_mix, d_law_seed, d_law_pick, d_law_bytes, d_law_disk_deed, d_law_on_disk, d_law_disk_steps, d_law_with, d_law_files, d_law_caught, d_law_row, d_law_coded, d_law_row_bytes, d_law_rows, d_law_row_bytes_k11, d_law_settings, d_law_queue, d_law_begin, d_law_size, d_law_write, d_law_ready, d_law_put, d_law_told, d_law_given, d_law_other, d_law_front_goes, d_law_deed, d_law_letters, d_law_done_so, d_law_states, d_law_stay, d_law_opened, d_law_told_k15, d_law_other_k15, d_law_queue_k15, d_law_done_so_k15, d_law_copy, d_law_copy_k24, d_law_in_order, d_law_till_stop]
def baseN : List (Option Str × Str) := [((none, ("is_within" : Str)) : Option Str × Str), ((none, ("are_bytes" : Str)) : Option Str × Str), ((none, ("is_name" : Str)) : Option Str × Str), ((some ("Disk" : Str), ("__init__" : Str)) : Option Str × Str), ((some ("Disk" : Str), ("go_on" : Str)) : Option Str × Str), ((some ("Disk" : Str), ("step" : Str)) : Option Str × Str), ((some ("Disk" : Str), ("look" : Str)) : Option Str × Str), ((some ("Disk" : Str), ("make" : Str)) : Option Str × Str), ((some ("Disk" : Str), ("add" : Str)) : Option Str × Str), ((some ("Disk" : Str), ("cut" : Str)) : Option Str × Str), ((some ("Disk" : Str), ("drop" : Str)) : Option Str × Str), ((some ("Disk" : Str), ("names" : Str)) : Option Str × Str), ((some ("Disk" : Str), ("read" : Str)) : Option Str × Str), ((some ("Disk" : Str), ("size" : Str)) : Option Str × Str), ((some ("Disk" : Str), ("steps" : Str)) : Option Str × Str), ((some ("Disk" : Str), ("left" : Str)) : Option Str × Str), ((none, ("is_body" : Str)) : Option Str × Str), ((none, ("is_row" : Str)) : Option Str × Str), ((none, ("checks" : Str)) : Option Str × Str), ((none, ("bytes_of" : Str)) : Option Str × Str), ((none, ("row_bytes" : Str)) : Option Str × Str), ((none, ("row_at" : Str)) : Option Str × Str), ((none, ("rows_of" : Str)) : Option Str × Str), ((none, ("rows_in" : Str)) : Option Str × Str), ((some ("State" : Str), ("__init__" : Str)) : Option Str × Str), ((some ("State" : Str), ("put" : Str)) : Option Str × Str), ((some ("State" : Str), ("deal" : Str)) : Option Str × Str), ((some ("State" : Str), ("change" : Str)) : Option Str × Str), ((some ("State" : Str), ("follow" : Str)) : Option Str × Str), ((none, ("made" : Str)) : Option Str × Str), ((none, ("segment_name" : Str)) : Option Str × Str), ((none, ("segments" : Str)) : Option Str × Str), ((none, ("look_names" : Str)) : Option Str × Str), ((none, ("good_end" : Str)) : Option Str × Str), ((none, ("mend_last" : Str)) : Option Str × Str), ((none, ("read_all" : Str)) : Option Str × Str), ((none, ("look_settings" : Str)) : Option Str × Str), ((none, ("look_hand" : Str)) : Option Str × Str), ((some ("Queue" : Str), ("__init__" : Str)) : Option Str × Str), ((some ("Queue" : Str), ("active" : Str)) : Option Str × Str), ((some ("Queue" : Str), ("write" : Str)) : Option Str × Str), ((some ("Queue" : Str), ("put" : Str)) : Option Str × Str), ((some ("Queue" : Str), ("ready" : Str)) : Option Str × Str), ((some ("Queue" : Str), ("dead" : Str)) : Option Str × Str), ((some ("Queue" : Str), ("take" : Str)) : Option Str × Str), ((some ("Queue" : Str), ("look_held" : Str)) : Option Str × Str), ((some ("Queue" : Str), ("done" : Str)) : Option Str × Str), ((some ("Queue" : Str), ("letters" : Str)) : Option Str × Str), ((some ("Queue" : Str), ("held" : Str)) : Option Str × Str), ((some ("Queue" : Str), ("coming" : Str)) : Option Str × Str), ((some ("Queue" : Str), ("clock" : Str)) : Option Str × Str), ((some ("Queue" : Str), ("sizes" : Str)) : Option Str × Str), ((some ("Queue" : Str), ("living" : Str)) : Option Str × Str), ((some ("Queue" : Str), ("sweep" : Str)) : Option Str × Str), ((some ("Queue" : Str), ("carry" : Str)) : Option Str × Str), ((some ("Queue" : Str), ("put_all" : Str)) : Option Str × Str), ((some ("Queue" : Str), ("give_back" : Str)) : Option Str × Str), ((some ("Queue" : Str), ("wait" : Str)) : Option Str × Str), ((some ("Queue" : Str), ("revive" : Str)) : Option Str × Str), ((none, ("is_deed" : Str)) : Option Str × Str), ((none, ("one_told" : Str)) : Option Str × Str), ((none, ("told_by" : Str)) : Option Str × Str), ((none, ("do" : Str)) : Option Str × Str), ((none, ("run" : Str)) : Option Str × Str), ((none, ("_law_cell" : Str)) : Option Str × Str), ((none, ("_law_mix" : Str)) : Option Str × Str), ((none, ("_law_seed" : Str)) : Option Str × Str), ((none, ("_law_pick" : Str)) : Option Str × Str), ((none, ("_law_bytes" : Str)) : Option Str × Str), ((none, ("_law_disk_deed" : Str)) : Option Str × Str), ((none, ("_law_on_disk" : Str)) : Option Str × Str), ((none, ("_law_disk_steps" : Str)) : Option Str × Str), ((none, ("_law_with" : Str)) : Option Str × Str), ((none, ("_law_files" : Str)) : Option Str × Str), ((none, ("_law_caught" : Str)) : Option Str × Str), ((none, ("_law_row" : Str)) : Option Str × Str), ((none, ("_law_coded" : Str)) : Option Str × Str), ((none, ("_law_row_bytes" : Str)) : Option Str × Str), ((none, ("_law_rows" : Str)) : Option Str × Str), ((none, ("_law_row_bytes" : Str)) : Option Str × Str), ((none, ("_law_settings" : Str)) : Option Str × Str), ((none, ("_law_queue" : Str)) : Option Str × Str), ((none, ("_law_begin" : Str)) : Option Str × Str), ((none, ("_law_size" : Str)) : Option Str × Str), ((none, ("_law_write" : Str)) : Option Str × Str), ((none, ("_law_ready" : Str)) : Option Str × Str), ((none, ("_law_put" : Str)) : Option Str × Str), ((none, ("_law_told" : Str)) : Option Str × Str), ((none, ("_law_given" : Str)) : Option Str × Str), ((none, ("_law_other" : Str)) : Option Str × Str), ((none, ("_law_front_goes" : Str)) : Option Str × Str), ((none, ("_law_deed" : Str)) : Option Str × Str), ((none, ("_law_letters" : Str)) : Option Str × Str), ((none, ("_law_done_so" : Str)) : Option Str × Str), ((none, ("_law_states" : Str)) : Option Str × Str), ((none, ("_law_stay" : Str)) : Option Str × Str), ((none, ("_law_opened" : Str)) : Option Str × Str), ((none, ("_law_told" : Str)) : Option Str × Str), ((none, ("_law_other" : Str)) : Option Str × Str), ((none, ("_law_queue" : Str)) : Option Str × Str), ((none, ("_law_done_so" : Str)) : Option Str × Str), ((none, ("_law_copy" : Str)) : Option Str × Str), ((none, ("_law_copy" : Str)) : Option Str × Str), ((none, ("_law_in_order" : Str)) : Option Str × Str), ((none, ("_law_till_stop" : Str)) : Option Str × Str)]
def tab (lt : Nat → Option Fd) : Tab := fun i => if i < 200 then base[i]? else lt (i - 200)
end I
set_option Elab.async false
set_option linter.all false
set_option maxRecDepth 100000
set_option maxHeartbeats 4000000
/-! I11: a program's facts, from lists of its names. -/
namespace I
open PySem PySem.Spec PyProof.Rows L2 G
structure Hd where
  fns : List Str
  mts : List (Str × Str)
  excs : List Str
  cls : List Str
  flds : List (Str × Str)
  gi : List (Str × Int)
  gs : List (Str × Str)
  gt : List (Str × List Str)
  gk : List (Str × List (Str × Int))
  free : List Str
def Hd.fa (H : Hd) : List He.Fa := (((((((((H.fns.map He.Fa.glo ++ H.mts.map fun p => He.Fa.meth p.1 p.2) ++ H.excs.flatMap fun x => [He.Fa.glo x, .exc x]) ++ H.excs.flatMap fun a => H.excs.map fun b => He.Fa.exm a b (takes b a)) ++ H.cls.flatMap fun x => [He.Fa.glo x, .cls x, .mkr x]) ++
  H.flds.map fun p => He.Fa.noat p.1 p.2) ++ H.gt.map fun p => He.Fa.glo p.1) ++ H.gk.map fun p => He.Fa.glo p.1) ++ H.gi.map fun p => He.Fa.int p.1 p.2) ++ H.gs.map fun p => He.Fa.str p.1 p.2) ++ H.free.map He.Fa.free
def Hd.ex (H : Hd) (K : PySem.W.Frag) : Bool := H.gt.all (fun p => kxB K p.1 p.2) && (H.cls.all (fun x => isB K x) && H.gk.all fun p => He.valsB K (He.ga K p.1) (p.2.map fun q => (q.1, He.Dv.int q.2)))
def Hd.ts (H : Hd) : List He.Tab := H.gk.map fun p => (fun K => He.ga K p.1, p.2.map (·.1))
structure Tx (H : Hd) (fn : List He.DefD) (T : Sta) : Prop where
  s : He.SaysT H.fa fn H.ts T.w T.K
  e : H.ex T.K = true
  i : T.K.In T.base
  n : T.base.Ns mainGlobals T.mg
theorem lk_mem {α β : Type} [DecidableEq β] {z : β} {y : α} : ∀ {ls : List (β × α)}, lkA z ls = some y → (z, y) ∈ ls
  | [], h => by cases h
  | (a, x) :: r, h => by
    unfold lkA at h
    split at h
    · rename_i e
      cases h
      rw [e]
      exact List.mem_cons_self
    · exact List.mem_cons_of_mem _ (lk_mem h)
section
variable {H : Hd} {fn : List He.DefD} {T : Sta}
theorem Tx.fact (h : Tx H fn T) {f : He.Fa} (m : f ∈ H.fa) : f.ok T.K = true := by
  have c := congrArg (fun z : He.AlD => z.1) h.s.d
  have c1 := (He.ba (show ((H.fa.all fun f => f.ok T.K) && fn.all fun d => d.ok T.K) = true from c)).1
  exact List.all_eq_true.mp c1 f m
theorem Tx.exs (h : Tx H fn T) : H.gt.all (fun p => kxB T.K p.1 p.2) = true ∧ H.cls.all (fun x => isB T.K x) = true := by
  have q := h.e
  unfold Hd.ex at q
  rw [Bool.and_eq_true, Bool.and_eq_true] at q
  exact ⟨q.1, q.2.1⟩
def cfgOf (H : Hd) (name : Nat → Option (Option Str × Str)) (here : Nat → Bool) : Cfg := ⟨name, here, H.free, H.gi, H.gs, H.gt, H.gk, H.excs, H.cls, H.flds, H.cls⟩
theorem Tx.glo (h : Tx H fn T) {x : Str} (m : He.Fa.glo x ∈ H.fa) : T.mg x = some (.ref (He.ga T.K x)) := He.glo_ok h.i h.n (h.fact m)
theorem Tx.good (h : Tx H fn T) (hf : ∀ p ∈ H.flds, p.1 ∈ H.cls) {name : Nat → Option (Option Str × Str)} {here : Nat → Bool} : Good T (cfgOf H name here) where
  free n hn := He.free_ok h.i h.n (h.fact (by
    have m : n ∈ H.free := contains_mem hn
    unfold Hd.fa
    simp [m]))
  gi n i hn := He.int_ok h.i h.n (h.fact (by
    have m : (n, i) ∈ H.gi := contains_mem hn
    unfold Hd.fa
    simp only [List.mem_append, List.mem_map]
    exact .inl (.inl (.inr ⟨_, m, rfl⟩))))
  gs n i hn := He.str_ok h.i h.n (h.fact (by
    have m : (n, i) ∈ H.gs := contains_mem hn
    unfold Hd.fa
    simp only [List.mem_append, List.mem_map]
    exact .inl (.inr ⟨_, m, rfl⟩)))
  gt n ss hn := by
    have m : (n, ss) ∈ H.gt := contains_mem hn
    refine ⟨h.glo (by
      unfold Hd.fa
      simp only [List.mem_append, List.mem_map]
      exact .inl (.inl (.inl (.inl (.inr ⟨_, m, rfl⟩))))), ?_⟩
    exact List.all_eq_true.mp h.exs.1 _ m
  gk n kvs hn := by
    have m : (n, kvs) ∈ H.gk := contains_mem hn
    refine ⟨h.glo (by
      unfold Hd.fa
      simp only [List.mem_append, List.mem_map]
      exact .inl (.inl (.inl (.inr ⟨_, m, rfl⟩)))), ?_, fun z i hz => ?_⟩
    · obtain ⟨j, hj⟩ := List.getElem?_of_mem m
      have := h.s.tab j (t := (fun K => He.ga K n, kvs.map (·.1))) (by
        unfold Hd.ts
        rw [List.getElem?_map, hj]
        rfl)
      exact this
    · have hq : (z, i) ∈ kvs := lk_mem hz
      have hv : He.valsB T.K (He.ga T.K n) (kvs.map fun q => (q.1, He.Dv.int q.2)) = true := by
        have q := h.e
        unfold Hd.ex at q
        rw [Bool.and_eq_true, Bool.and_eq_true] at q
        exact List.all_eq_true.mp q.2.2 _ m
      obtain ⟨u, u1, u2⟩ := He.valsB_ok hv (q := (z, He.Dv.int i)) (List.mem_map.mpr ⟨_, hq, rfl⟩)
      exact ⟨u, u1, u2⟩
  exc X hX := by
    have m : X ∈ H.excs := contains_mem hX
    have m1 : He.Fa.glo X ∈ H.fa := by
      unfold Hd.fa
      simp only [List.mem_append, List.mem_flatMap]
      exact .inl (.inl (.inl (.inl (.inl (.inl (.inl (.inl (.inr ⟨X, m, by simp⟩))))))))
    have m2 : He.Fa.exc X ∈ H.fa := by
      unfold Hd.fa
      simp only [List.mem_append, List.mem_flatMap]
      exact .inl (.inl (.inl (.inl (.inl (.inl (.inl (.inl (.inr ⟨X, m, by simp⟩))))))))
    obtain ⟨h1, h2, h3, h4⟩ := He.exc_ok (h.fact m2)
    exact ⟨h.glo m1, h1, h2, h3, h4⟩
  exm X Y hX hY := by
    have m : X ∈ H.excs := contains_mem hX
    have m' : Y ∈ H.excs := contains_mem hY
    exact He.exm_ok (h.fact (f := .exm X Y (takes Y X)) (by
      unfold Hd.fa
      simp only [List.mem_append, List.mem_flatMap, List.mem_map]
      exact .inl (.inl (.inl (.inl (.inl (.inl (.inl (.inr ⟨X, m, Y, m', rfl⟩)))))))))
  mak X hX := by
    have m : X ∈ H.cls := contains_mem hX
    have mm : ∀ f ∈ [He.Fa.glo X, .cls X, .mkr X], f ∈ H.fa := fun f hf => by
      unfold Hd.fa
      simp only [List.mem_append, List.mem_flatMap]
      exact .inl (.inl (.inl (.inl (.inl (.inl (.inr ⟨X, m, hf⟩))))))
    exact ⟨He.mkr_ok (h.fact (mm _ (by simp))), h.glo (mm _ (by simp))⟩
  fld X f hX := by
    have m : (X, f) ∈ H.flds := contains_mem hX
    have mX : X ∈ H.cls := hf _ m
    have m1 : He.Fa.cls X ∈ H.fa := by
      unfold Hd.fa
      simp only [List.mem_append, List.mem_flatMap]
      exact .inl (.inl (.inl (.inl (.inl (.inl (.inr ⟨X, mX, by simp⟩))))))
    have m2 : He.Fa.noat X f ∈ H.fa := by
      unfold Hd.fa
      simp only [List.mem_append, List.mem_map]
      exact .inl (.inl (.inl (.inl (.inl (.inr ⟨_, m, rfl⟩)))))
    exact ⟨He.cls_ok (h.fact m1), He.noat_ok (h.fact m2)⟩
  isc X hX := by
    have m : X ∈ H.cls := contains_mem hX
    have mm : ∀ f ∈ [He.Fa.glo X, .cls X, .mkr X], f ∈ H.fa := fun f hf => by
      unfold Hd.fa
      simp only [List.mem_append, List.mem_flatMap]
      exact .inl (.inl (.inl (.inl (.inl (.inl (.inr ⟨X, m, hf⟩))))))
    exact ⟨List.all_eq_true.mp h.exs.2 _ m, He.cls_ok (h.fact (mm _ (by simp))), h.glo (mm _ (by simp))⟩
/-- one number of the table: its def -/
def DefAt (T : Sta) (C : Cfg) (P : Tab) (f : Nat) : Prop := match C.name f with
  | some (none, n) => T.mg n = some (.ref (He.ga T.K n)) ∧ ∃ q st, DefOk T C P f (He.ga T.K n) n q st
  | some (some X, m) => Cls T.K (He.ga T.K X) ∧ Meth T.K (He.ga T.K X) m (He.ma T.K (He.ga T.K X) m) ∧ ∃ n q st, DefOk T C P f (He.ma T.K (He.ga T.K X) m) n q st
  | none => True
theorem prg_of {C : Cfg} {P : Tab} {l : List Nat} (hh : ∀ f, C.here f = true → f ∈ l) (h : ∀ f ∈ l, DefAt T C P f) : Prg T C P where
  fn f n h1 h2 := by
    have z := h f (hh f h1)
    unfold DefAt at z
    rw [h2] at z
    exact z
  mt f X m h1 h2 := by
    have z := h f (hh f h1)
    unfold DefAt at z
    rw [h2] at z
    exact z
theorem def_fn {C : Cfg} {P : Tab} {f : Nat} {n : Str} {st : Stmt} (h : Tx H fn T) (hn : C.name f = some (none, n)) (m : H.fns.contains n = true) (d : DefOk T C P f (He.ga T.K n) n n st) : DefAt T C P f := by
  unfold DefAt
  rw [hn]
  have m' : n ∈ H.fns := contains_mem m
  exact ⟨h.glo (by
    unfold Hd.fa
    simp only [List.mem_append, List.mem_map]
    exact .inl (.inl (.inl (.inl (.inl (.inl (.inl (.inl (.inl (.inl ⟨n, m', rfl⟩)))))))))), n, st, d⟩
theorem def_mt {C : Cfg} {P : Tab} {f : Nat} {X m n q : Str} {st : Stmt} (h : Tx H fn T) (hn : C.name f = some (some X, m)) (m1 : H.cls.contains X = true) (m2 : H.mts.contains (X, m) = true) (d : DefOk T C P f (He.ma T.K (He.ga T.K X) m) n q st) : DefAt T C P f := by
  unfold DefAt
  rw [hn]
  have m1' : X ∈ H.cls := contains_mem m1
  have m2' : (X, m) ∈ H.mts := contains_mem m2
  refine ⟨He.cls_ok (h.fact (?_ : He.Fa.cls X ∈ H.fa)), He.meth_ok (h.fact (?_ : He.Fa.meth X m ∈ H.fa)), n, q, st, d⟩
  · unfold Hd.fa
    simp only [List.mem_append, List.mem_flatMap]
    exact .inl (.inl (.inl (.inl (.inl (.inl (.inr ⟨X, m1', by simp⟩))))))
  · unfold Hd.fa
    simp only [List.mem_append, List.mem_map]
    exact .inl (.inl (.inl (.inl (.inl (.inl (.inl (.inl (.inl (.inr ⟨_, m2', rfl⟩)))))))))
end
end I
set_option Elab.async false
set_option linter.all false
set_option maxRecDepth 100000
set_option maxHeartbeats 4000000
/-! I12: a law's end. -/
namespace G
open PySem PySem.Spec PyProof.Rows L2
/-- the first world: the script alone -/
def g0 (H : Hp) : Gw := ⟨0, fun _ => 0, fun _ => .data, H⟩
theorem g0_wo {K : PySem.W.Frag} {H : Hp} : Wo K (g0 H) [] := ⟨rfl, fun k c e => by simp at e, fun j k hj _ _ => absurd hj (Nat.not_lt_zero j)⟩
theorem g0_scr {K : PySem.W.Frag} {H : Hp} {a : Addr} {ns : List Int} (h : SqL K H a (ns.map V.int)) : Dt K (g0 H) (.ref a) (.scr ns) := .scr (h.elim (fun z => .inl ⟨z, rfl⟩) .inr)
theorem sp0 {K : PySem.W.Frag} {H : Hp} {a : Addr} {ns : List Int} {L' : Store} (h : SqL K H a (ns.map V.int)) : spG K [.scr ns] [] (.rt (.bl true)) L' [.ref a] H (fun v _ => v = .bl true) fun _ _ _ => False :=
  ⟨g0 H, rfl, g0_wo, .cons (g0_scr h) .nil, fun v g' _ _ d => by cases d; rfl⟩
theorem cx0 {P : Program} {w : World} {H : Hp} {s : Shared} {e : Value} {s' : Shared} (c : L2.CX P w [] H s (fun _ _ _ => False) e s') : False := by
  obtain ⟨_, _, _, _, _, _, _, _, _, _, _, _, z⟩ := c
  exact z
end G
namespace I
open PySem PySem.Spec PyProof.Rows L2 G
/-- F: the code of the law for each script -/
theorem ends_ {l : PySem.W.OpenLaw} {n k : Nat} {q : Program} {loose : List Str} {XP : (Str → Option Value) → Heap → Prop} {YP : World → Heap → Prop} {d : DefRec} {x : Str} (hn : l.most = some n) (hn2 : n ≤ sizeLine) (hdf : d.params.defaults = []) (hr : Room k callerA)
    (F : ∀ (w : World) (mg : Str → Option Value) (fa : Addr) (h : Heap), YP w h → h.Ns mainGlobals mg → mg d.name = some (.ref fa) → ∃ (K : PySem.W.Frag) (fd : FuncData), K.In h ∧ (∀ (s : Shared) (u : Value), BindsTo s fd ⟨[u], []⟩ [(x, u)]) ∧
      ∀ (ns : List Int), ∃ L' : Store, ∀ base : Heap, K.In base → base.Ns mainGlobals mg → FnOk l.prog w K mg base (L2.CX l.prog w) k fa fd [x] (spG K [.scr ns] [] (.rt (.bl true)) L')) :
    PySem.W.WalkO q loose XP YP l.row.toRowW d [] (fun f vs => PySem.call f vs) := by
  refine Att.attach_call hn hdf fun w s0 s1 mg mb fa o pm cd doc a vs ns G' Y' ho hd hcd hmg hobj hints hlen hg => ?_
  obtain ⟨K, fd, KX, hb, hF⟩ := F w mg fa _ Y' G'.T.g hmg
  obtain ⟨L', hF⟩ := hF ns
  exact law_call KX G'.T.g G'.T.b G'.T.builtins G'.T.nolimit hg hobj hints (Nat.le_trans hlen hn2) hr hF hb (fun H _ hS => sp0 hS) fun H e s' => cx0
/-- the law's code, from what its body gives -/
theorem law_fn {T : Sta} {C : Cfg} {P : Tab} {n : Nat} {a : Addr} {name qual : Str} {st : Stmt} {N : List Str} {x : Str} {g : FuncData} {fd : Fd} {f : Nat} {ns : List Int} {L' : Store} (G : Good T C) (H : PhiOk T C n ⟨call P n, call P (n - 1)⟩) (S : FnScope N [x] (defScope st)) (F : FunD T.K name qual (defArgs st) (defBody st) (defScope st) [] [] a g)
    (hP : P f = some fd) (h1 : fd.np = 1) (h2 : N.length = fd.ns) (hc : chkSs C N fd.body (defScope st) (defBody st) = true) (h : call P (n + 1) f [.scr ns] [] = .ok (.bl true) L') : FnOk T.P T.w T.K T.mg T.base (L2.CX T.P T.w) (n + 1) a g [x] (spG T.K [.scr ns] [] (.rt (.bl true)) L') := by
  rw [call_succ, hP] at h
  dsimp only at h
  rw [if_pos (by rw [h1]; rfl)] at h
  have sn := sndSs G H fd.body _ _ hc
  have hδ : ([D.scr ns].map some ++ List.replicate (fd.ns - fd.np) none : Env') = [D.scr ns].map some ++ List.replicate (N.length - [D.scr ns].length) none := by rw [h2, h1]; rfl
  cases e : runs ⟨call P n, call P (n - 1)⟩ fd.body ([D.scr ns].map some ++ List.replicate (fd.ns - fd.np) none) [] with
  | rt d L1 =>
    rw [e] at h
    cases h
    exact fn_ok S rfl hδ ⟨.rt (.bl true), (sn.ok _ _ (.rt (.bl true)) L' (by rw [e]; rfl)).2, rfl⟩ F
  | nx δ L1 => rw [e] at h; cases h
  | ct δ L1 => rw [e] at h; cases h
  | ex X δ L1 => rw [e] at h; cases h
  | no => rw [e] at h; cases h
end I
set_option Elab.async false
set_option linter.all false
set_option maxRecDepth 100000
set_option maxHeartbeats 4000000
/-! P0: the small language's rules as equations (printed). -/
namespace I
open PySem PySem.Spec PyProof.Rows L2 G
open scoped Classical
/-- it stands beside a function that is not to be looked into -/
inductive Tg {α : Type} (a : α) : Type where
  | mk
section
variable {α β : Type}
/-! what follows is looked at only when its value is there -/
def R.bdk (r : R α) (f : α → Store → R β) (_ : Tg f := .mk) : R β := r.bd f
def R.bxk (r : R α) (f : α → Store → R β) (_ : Tg f := .mk) : R β := r.bx f
def R.stk (r : R α) (δ : Env') (f : α → Store → O) (_ : Tg f := .mk) : O := r.st δ f
def R.snk (r : R α) (f : α → Store → O) (_ : Tg f := .mk) : O := r.sn f
def O.sqk (r : O) (f : Env' → Store → O) (_ : Tg f := .mk) : O := r.sq f
variable {f : α → Store → R β} {g : α → Store → O} {k : Env' → Store → O} {t : Tg f} {u : Tg g} {w : Tg k} {L : Store} {a : α} {C : Str} {δ : Env'} {p : Prop} [Decidable p]
@[simp] theorem bdk_ok : (R.ok a L).bdk f t = f a L := rfl
@[simp] theorem bdk_ex : (R.ex C L : R α).bdk f t = .no := rfl
@[simp] theorem bdk_no : (R.no : R α).bdk f t = .no := rfl
@[simp] theorem bxk_ok : (R.ok a L).bxk f t = f a L := rfl
@[simp] theorem bxk_ex : (R.ex C L : R α).bxk f t = .ex C L := rfl
@[simp] theorem bxk_no : (R.no : R α).bxk f t = .no := rfl
@[simp] theorem stk_ok : (R.ok a L).stk δ g u = g a L := rfl
@[simp] theorem stk_ex : (R.ex C L : R α).stk δ g u = .ex C δ L := rfl
@[simp] theorem stk_no : (R.no : R α).stk δ g u = .no := rfl
@[simp] theorem snk_ok : (R.ok a L).snk g u = g a L := rfl
@[simp] theorem snk_ex : (R.ex C L : R α).snk g u = .no := rfl
@[simp] theorem snk_no : (R.no : R α).snk g u = .no := rfl
@[simp] theorem sqk_nx : (O.nx δ L).sqk k w = k δ L := rfl
@[simp] theorem sqk_rt {d : D} : (O.rt d L).sqk k w = .rt d L := rfl
@[simp] theorem sqk_ct : (O.ct δ L).sqk k w = .ct δ L := rfl
@[simp] theorem sqk_ex : (O.ex C δ L).sqk k w = .ex C δ L := rfl
@[simp] theorem sqk_no : O.no.sqk k w = .no := rfl
theorem bdk_ite {x y : R α} : (if p then x else y).bdk f t = if p then x.bdk f t else y.bdk f t := by split <;> rfl
theorem stk_ite {x y : R α} : (if p then x else y).stk δ g u = if p then x.stk δ g u else y.stk δ g u := by split <;> rfl
theorem snk_ite {x y : R α} : (if p then x else y).snk g u = if p then x.snk g u else y.snk g u := by split <;> rfl
theorem sqk_ite {x y : O} : (if p then x else y).sqk k w = if p then x.sqk k w else y.sqk k w := by split <;> rfl
end
/-- loops, not to be looked into -/
noncomputable def whk (Φ : Calls) (c : E) (b : Ss) (δ : Env') (L : Store) : O := whR (tst Φ c) (fun δ L => runs Φ b δ L) δ L
noncomputable def fork (Φ : Calls) (t : List Nat) (tup : Bool) (b : Ss) (P : Store → Prop) (ds : List D) (δ : Env') (L : Store) : O := forR (bindT t tup) (fun δ L => runs Φ b δ L) P ds δ L
section
variable {Φ : Calls} {t : List Nat} {tup : Bool} {b : Ss} {P : Store → Prop} {ds : List D} {d : D} {δ δ1 δ2 : Env'} {L L2 : Store} {C : Str}
theorem fork_nil : fork Φ t tup b P [] δ L = .nx δ L := rfl
theorem fork_cons (h : bindT t tup d δ = some δ1) (h2 : runs Φ b δ1 L = .nx δ2 L2) (h3 : P L2) : fork Φ t tup b P (d :: ds) δ L = fork Φ t tup b P ds δ2 L2 := by
  show forR _ _ _ (d :: ds) δ L = _
  rw [forR]
  simp only [h, h2]
  exact if_pos h3
theorem fork_cont (h : bindT t tup d δ = some δ1) (h2 : runs Φ b δ1 L = .ct δ2 L2) (h3 : P L2) : fork Φ t tup b P (d :: ds) δ L = fork Φ t tup b P ds δ2 L2 := by
  show forR _ _ _ (d :: ds) δ L = _
  rw [forR]
  simp only [h, h2]
  exact if_pos h3
theorem fork_rt {e : D} (h : bindT t tup d δ = some δ1) (h2 : runs Φ b δ1 L = .rt e L2) : fork Φ t tup b P (d :: ds) δ L = .rt e L2 := by
  show forR _ _ _ (d :: ds) δ L = _
  rw [forR]
  simp only [h, h2]
theorem fork_ex (h : bindT t tup d δ = some δ1) (h2 : runs Φ b δ1 L = .ex C δ2 L2) : fork Φ t tup b P (d :: ds) δ L = .ex C δ2 L2 := by
  show forR _ _ _ (d :: ds) δ L = _
  rw [forR]
  simp only [h, h2]
end
section
variable {Φ : Calls} {δ : Env'} {L : Store}
@[simp] theorem e_non  : ev Φ (.non ) δ L = .ok .non L := .trans rfl rfl
@[simp] theorem e_bl (b : Bool) : ev Φ (.bl b) δ L = .ok (.bl b) L := .trans rfl rfl
@[simp] theorem e_int (i : Int) : ev Φ (.int i) δ L = .ok (.int i) L := .trans rfl rfl
@[simp] theorem e_str (s : Str) : ev Φ (.str s) δ L = .ok (.str s) L := .trans rfl rfl
@[simp] theorem e_var (i : Nat) : ev Φ (.var i) δ L = match δ[i]? with
    | some (some d) => .ok d L
    | _ => .no := .trans rfl rfl
@[simp] theorem e_gint (n : Str) (i : Int) : ev Φ (.gint n i) δ L = .ok (.int i) L := .trans rfl rfl
@[simp] theorem e_gstr (n s : Str) : ev Φ (.gstr n s) δ L = .ok (.str s) L := .trans rfl rfl
@[simp] theorem e_gtup (n : Str) (ss : List Str) : ev Φ (.gtup n ss) δ L = .ok (.tup (ss.map D.str)) L := .trans rfl rfl
@[simp] theorem e_gidx (n : Str) (ss : List Str) (a : E) : ev Φ (.gidx n ss a) δ L = (ev Φ a δ L).bdk fun x L1 => match x with
    | .str z => if z ∈ ss then .ok (.int (firstAt ss z : Nat)) L1 else .no
    | _ => .no := .trans rfl rfl
@[simp] theorem e_gin (n : Str) (kvs : List (Str × Int)) (a : E) : ev Φ (.gin n kvs a) δ L = (ev Φ a δ L).bdk fun x L1 => match x with
    | .str z => if (lkA z kvs).isSome = true then .ok (.bl true) L1 else .no
    | _ => .no := .trans rfl rfl
@[simp] theorem e_gget (n : Str) (kvs : List (Str × Int)) (a : E) : ev Φ (.gget n kvs a) δ L = (ev Φ a δ L).bdk fun x L1 => match x with
    | .str z => R.op ((lkA z kvs).map D.int) L1
    | _ => .no := .trans rfl rfl
@[simp] theorem e_bin (op : Bop) (a b : E) : ev Φ (.bin op a b) δ L = (ev Φ a δ L).bdk fun x L1 => (ev Φ b δ L1).bdk fun y L2 => R.op (opD op L2 x y) L2 := .trans rfl rfl
@[simp] theorem e_neg (a : E) : ev Φ (.neg a) δ L = (ev Φ a δ L).bdk fun x L1 => R.op (negD x) L1 := .trans rfl rfl
@[simp] theorem e_cmp (op : Cop) (a b : E) : ev Φ (.cmp op a b) δ L = (ev Φ a δ L).bdk fun x L1 => (ev Φ b δ L1).bdk fun y L2 => R.op ((cmpD op L2 x y).map D.bl) L2 := .trans rfl rfl
@[simp] theorem e_isN (a : E) : ev Φ (.isN a) δ L = (ev Φ a δ L).bdk fun x L1 => .ok (.bl x.isNon) L1 := .trans rfl rfl
@[simp] theorem e_notN (a : E) : ev Φ (.notN a) δ L = (ev Φ a δ L).bdk fun x L1 => .ok (.bl (!x.isNon)) L1 := .trans rfl rfl
@[simp] theorem e_chain (o1 o2 : Cop) (a b c : E) : ev Φ (.chain o1 o2 a b c) δ L = (ev Φ a δ L).bdk fun x L1 => (ev Φ b δ L1).bdk fun y L2 => (ev Φ c δ L2).bdk fun z L3 => match intOf x, intOf y, intOf z with
    | some i, some j, some l => if L3 = L2 then .ok (.bl (icmp o1 i j && icmp o2 j l)) L3 else .no
    | _, _, _ => .no := .trans rfl rfl
@[simp] theorem e_bop (k : Bool) (es : Es) : ev Φ (.bop k es) δ L = evb Φ k es δ L := .trans rfl rfl
@[simp] theorem e_not (a : E) : ev Φ (.not a) δ L = (ev Φ a δ L).bdk fun x L1 => R.op ((x.truth L1).map fun b => .bl !b) L1 := .trans rfl rfl
@[simp] theorem e_ite (c a b : E) : ev Φ (.ite c a b) δ L = (ev Φ c δ L).bdk fun x L1 => match x.truth L1 with
    | some true => ev Φ a δ L1
    | some false => ev Φ b δ L1
    | none => .no := .trans rfl rfl
@[simp] theorem e_tup (es : Es) : ev Φ (.tup es) δ L = (evs Φ es δ L).bdk fun ds L1 => if ds.length ≤ sizeLine then .ok (.tup ds) L1 else .no := .trans rfl rfl
@[simp] theorem e_lst (es : Es) : ev Φ (.lst es) δ L = (evs Φ es δ L).bdk fun ds L1 => if ds.length ≤ sizeLine then .ok (.lst ds) L1 else .no := .trans rfl rfl
@[simp] theorem e_nlst (es : Es) : ev Φ (.nlst es) δ L = (evs Φ es δ L).bdk fun ds L1 => if ds.length ≤ sizeLine then .ok (.ref L1.length) (L1 ++ [.list ds]) else .no := .trans rfl rfl
@[simp] theorem e_xtup (ss : List Str) : ev Φ (.xtup ss) δ L = .ok (.ref L.length) (L ++ [.xtup ss]) := .trans rfl rfl
@[simp] theorem e_dict (ks : List Str) (es : Es) : ev Φ (.dict ks es) δ L = match ks with
    | [] => .ok (.ref L.length) (L ++ [.dict []])
    | _ => (evs Φ es δ (L ++ [.dict []])).bdk fun ds L1 => if ds.length = ks.length ∧ ks.Nodup ∧ L1[L.length]? = some (.dict []) then .ok (.ref L.length) (L1.set L.length (.dict ((ks.map Sum.inr).zip ds))) else .no := .trans rfl rfl
@[simp] theorem e_ix (a b : E) : ev Φ (.ix a b) δ L = (ev Φ a δ L).bdk fun x L1 => (ev Φ b δ L1).bdk fun y L2 => R.op (ixD L2 x y) L2 := .trans rfl rfl
@[simp] theorem e_sl (a : E) (lo hi : Oe) : ev Φ (.sl a lo hi) δ L = (ev Φ a δ L).bdk fun x L1 => (evo Φ lo δ L1).bdk fun i L2 => (evo Φ hi δ L2).bdk fun j L3 => if L2 = L1 ∧ L3 = L1 then R.op (slD L3 x i j) L3 else .no := .trans rfl rfl
@[simp] theorem e_nsl (a : E) (lo hi : Oe) : ev Φ (.nsl a lo hi) δ L = (ev Φ a δ L).bdk fun x L1 => (evo Φ lo δ L1).bdk fun i L2 => (evo Φ hi δ L2).bdk fun j L3 => if L2 = L1 ∧ L3 = L1 then (match lstOf L3 x with
    | some ds => .ok (.ref L3.length) (L3 ++ [.list (cutD ds i j)])
    | none => .no) else .no := .trans rfl rfl
@[simp] theorem e_rev (a : E) : ev Φ (.rev a) δ L = (ev Φ a δ L).bdk fun x L1 => R.op ((lstOf L1 x).map fun ds => .lst ds.reverse) L1 := .trans rfl rfl
@[simp] theorem e_lrng (a b : E) : ev Φ (.lrng a b) δ L = (ev Φ a δ L).bdk fun x L1 => (ev Φ b δ L1).bdk fun y L2 => match x, y with
    | .int i, .int j => if -(2 ^ 62) ≤ i ∧ i < 2 ^ 62 ∧ -(2 ^ 62) ≤ j ∧ j < 2 ^ 62 ∧ (j - i).toNat ≤ sizeLine then .ok (.lst (rngD i (j - i).toNat)) L2 else .no
    | _, _ => .no := .trans rfl rfl
@[simp] theorem e_fn (f : Nat) (es : Es) : ev Φ (.fn f es) δ L = (evs Φ es δ L).bdk fun ds L1 => Φ.c f ds L1 := .trans rfl rfl
@[simp] theorem e_mth (C m : Str) (f : Nat) (o : E) (es : Es) : ev Φ (.mth C m f o es) δ L = (ev Φ o δ L).bdk fun x L1 => match x with
    | .ref k => match L1[k]? with
      | some (.ins C' fs) => if C' = C ∧ fs.lookup m = none then (evs Φ es δ L1).bdk fun ds L2 => Φ.c f (.ref k :: ds) L2 else .no
      | _ => .no
    | _ => .no := .trans rfl rfl
@[simp] theorem e_mk (C : Str) (f : Nat) (es : Es) : ev Φ (.mk C f es) δ L = (evs Φ es δ L).bdk fun ds L1 => (Φ.i f (.ref L1.length :: ds) (L1 ++ [.ins C []])).bxk fun x L2 => match x with
    | .non => .ok (.ref L1.length) L2
    | _ => .no := .trans rfl rfl
@[simp] theorem e_fld (C : Str) (o : E) (f : Str) : ev Φ (.fld C o f) δ L = (ev Φ o δ L).bdk fun x L1 => match x with
    | .ref k => match L1[k]? with
      | some (.ins C' fs) => if C' = C then R.op (fs.lookup f) L1 else .no
      | _ => .no
    | _ => .no := .trans rfl rfl
@[simp] theorem e_bi (b : Bi) (es : Es) : ev Φ (.bi b es) δ L = (evs Φ es δ L).bdk fun ds L1 => biD b ds L1 := .trans rfl rfl
@[simp] theorem e_bm (m : Bm) (o : E) (es : Es) : ev Φ (.bm m o es) δ L = (ev Φ o δ L).bdk fun x L1 => (evs Φ es δ L1).bdk fun ds L2 => match x with
    | .ref k => if (∃ c, L1[k]? = some c ∧ (m = .append → ∃ ds, c = .list ds) ∧ (m = .pop ∨ m = .pop2 ∨ m = .get → ∃ kvs, c = .dict kvs) ∧ (m = .index → L2[k]? = some c)) then bmD m x ds L2 else .no
    | _ => .no := .trans rfl rfl
@[simp] theorem e_isi (a : E) (n : String) : ev Φ (.isi a n) δ L = (ev Φ a δ L).bdk fun x L1 => R.op ((isiD L1 x n).map D.bl) L1 := .trans rfl rfl
@[simp] theorem e_isc (a : E) (C : Str) : ev Φ (.isc a C) δ L = (ev Φ a δ L).bdk fun x L1 => match x with
    | .ref k => match L1[k]? with
      | some (.ins C' _) => if C' = C then .ok (.bl true) L1 else .no
      | _ => .no
    | _ => .no := .trans rfl rfl
@[simp] theorem e_lc (elt : E) (t : List Nat) (tup : Bool) (it : It) (c : Oe) (own : List Nat) : ev Φ (.lc elt t tup it c own) δ L = (evi Φ it δ L).bdk fun its L1 =>
    if its.ds.length ≤ sizeLine ∧ its.P L1 then R.op ((lcL (lcStep (fun d => bindT t tup d (wipeE δ own)) (fun δ1 => evc Φ c δ1 L1) (fun δ1 => ev Φ elt δ1 L1) L1) its.ds).map D.lst) L1 else .no := .trans rfl rfl
@[simp] theorem es_nil : evs Φ .nil δ L = .ok [] L := .trans rfl rfl
@[simp] theorem es_cons (e : E) (r : Es) : evs Φ (.cons e r) δ L = (ev Φ e δ L).bdk fun d L1 => (evs Φ r δ L1).bdk fun ds L2 => .ok (d :: ds) L2 := .trans rfl rfl
@[simp] theorem eb_one (k : Bool) (e : E) : evb Φ k (.cons e .nil) δ L = (ev Φ e δ L).bdk fun x L1 => .ok x L1 := .trans rfl rfl
@[simp] theorem eb_cons (k : Bool) (e e2 : E) (r : Es) : evb Φ k (.cons e (.cons e2 r)) δ L = (ev Φ e δ L).bdk fun x L1 => match x.truth L1 with
  | some t => if t = k then evb Φ k (.cons e2 r) δ L1 else .ok x L1
  | none => .no := .trans rfl rfl
@[simp] theorem eo_none : evo Φ .none δ L = .ok none L := .trans rfl rfl
@[simp] theorem eo_some (e : E) : evo Φ (.some e) δ L = (ev Φ e δ L).bdk fun x L1 => match x with
  | .int i => .ok (some i) L1
  | _ => .no := .trans rfl rfl
@[simp] theorem ec_none : evc Φ .none δ L = some true := .trans rfl rfl
@[simp] theorem ec_some (e : E) : evc Φ (.some e) δ L = match ev Φ e δ L with
  | .ok x L1 => if L1 = L then x.truth L else none
  | _ => none := .trans rfl rfl
@[simp] theorem ei_val (e : E) : evi Φ (.val e) δ L = (ev Φ e δ L).bdk fun x L1 => R.op (itemsOf L1 x) L1 := .trans rfl rfl
@[simp] theorem ei_rng (e : E) : evi Φ (.rng e) δ L = (ev Φ e δ L).bdk fun x L1 => match x with
  | .int i => R.op (rngI 0 i) L1
  | _ => .no := .trans rfl rfl
@[simp] theorem ei_rng2 (a b : E) : evi Φ (.rng2 a b) δ L = (ev Φ a δ L).bdk fun x L1 => (ev Φ b δ L1).bdk fun y L2 => match x, y with
  | .int i, .int j => R.op (rngI i j) L2
  | _, _ => .no := .trans rfl rfl
@[simp] theorem ei_enum (e : E) : evi Φ (.enum e) δ L = (ev Φ e δ L).bdk fun x L1 => R.op (enumI L1 x) L1 := .trans rfl rfl
@[simp] theorem s_expr (e : E) : run Φ (.expr e) δ L = (ev Φ e δ L).stk δ fun _ L1 => .nx δ L1 := .trans rfl rfl
@[simp] theorem s_set (t : List Nat) (tup : Bool) (e : E) : run Φ (.set t tup e) δ L = (ev Φ e δ L).stk δ fun d L1 => match bindT t tup d δ with
    | some δ1 => .nx δ1 L1
    | none => .no := .trans rfl rfl
@[simp] theorem s_fset (C : Str) (o : E) (f : Str) (e : E) : run Φ (.fset C o f e) δ L = (ev Φ e δ L).stk δ fun d L1 => (ev Φ o δ L1).snk fun x L2 => match x with
    | .ref k => match L2[k]? with
      | some (.ins C' fs) => if C' = C ∧ fs.length < 1000 then .nx δ (L2.set k (.ins C (fldA f d fs))) else .no
      | _ => .no
    | _ => .no := .trans rfl rfl
@[simp] theorem s_dset (o i e : E) : run Φ (.dset o i e) δ L = (ev Φ e δ L).snk fun d L1 => (ev Φ o δ L1).snk fun x L2 => (ev Φ i δ L2).snk fun y L3 => match x, keyOf y with
    | .ref k, some key => match L3[k]? with
      | some (.dict kvs) => if kvs.length < sizeLine then .nx δ (L3.set k (.dict (putA key d kvs))) else .no
      | _ => .no
    | _, _ => .no := .trans rfl rfl
@[simp] theorem s_aug (i : Nat) (op : Bop) (e : E) : run Φ (.aug i op e) δ L = (ev Φ e δ L).snk fun y L1 => match δ[i]?, y, op with
    | some (some (.int a)), .int b, .add => .nx (δ.set i (some (.int (a + b)))) L1
    | some (some (.int a)), .int b, .sub => .nx (δ.set i (some (.int (a - b)))) L1
    | _, _, _ => .no := .trans rfl rfl
@[simp] theorem s_faug (C : Str) (o : E) (f : Str) (op : Bop) (e : E) : run Φ (.faug C o f op e) δ L = (ev Φ o δ L).snk fun x L1 => (ev Φ e δ L1).snk fun y L2 => match x with
    | .ref k => match L1[k]? with
      | some (.ins C' fs) => if C' = C ∧ fs.length < 1000 ∧ L2 = L1 then (match fs.lookup f, y, op with
        | some (.int a), .int b, .add => .nx δ (L1.set k (.ins C (fldA f (.int (a + b)) fs)))
        | some (.int a), .int b, .sub => .nx δ (L1.set k (.ins C (fldA f (.int (a - b)) fs)))
        | _, _, _ => .no) else .no
      | _ => .no
    | _ => .no := .trans rfl rfl
@[simp] theorem s_daug (o i : E) (op : Bop) (e : E) : run Φ (.daug o i op e) δ L = (ev Φ o δ L).snk fun x L1 => (ev Φ i δ L1).snk fun z L2 => (ev Φ e δ L2).snk fun y L3 => match x, keyOf z with
    | .ref k, some key => match L2[k]? with
      | some (.dict kvs) => if kvs.length < sizeLine ∧ L3 = L2 then (match lkA key kvs, y, op with
        | some (.int a), .int b, .add => .nx δ (L2.set k (.dict (putA key (.int (a + b)) kvs)))
        | some (.int a), .int b, .sub => .nx δ (L2.set k (.dict (putA key (.int (a - b)) kvs)))
        | _, _, _ => .no) else .no
      | _ => .no
    | _, _ => .no := .trans rfl rfl
@[simp] theorem s_ret (e : E) : run Φ (.ret e) δ L = (ev Φ e δ L).stk δ fun d L1 => .rt d L1 := .trans rfl rfl
@[simp] theorem s_retN  : run Φ (.retN ) δ L = .rt .non L := .trans rfl rfl
@[simp] theorem s_ite (c : E) (a b : Ss) : run Φ (.ite c a b) δ L = (tst Φ c δ L).snk fun t L1 => if t = true then runs Φ a δ L1 else runs Φ b δ L1 := .trans rfl rfl
@[simp] theorem s_for_ (t : List Nat) (tup : Bool) (it : It) (b : Ss) : run Φ (.for_ t tup it b) δ L = (evi Φ it δ L).snk fun its L1 => if its.P L1 then fork Φ t tup b its.P its.ds δ L1 else .no := .trans rfl rfl
@[simp] theorem s_wh (c : E) (b : Ss) : run Φ (.wh c b) δ L = whk Φ c b δ L := .trans rfl rfl
@[simp] theorem s_rais (C : Str) : run Φ (.rais C) δ L = .ex C δ L := .trans rfl rfl
@[simp] theorem s_try_ (b : Ss) (hs : List (Str × Hb)) : run Φ (.try_ b hs) δ L = match runs Φ b δ L with
    | .ex C δ1 L1 => hdR C hs δ1 L1
    | o => o := .trans rfl rfl
@[simp] theorem s_pass  : run Φ (.pass ) δ L = .nx δ L := .trans rfl rfl
@[simp] theorem s_cont  : run Φ (.cont ) δ L = .ct δ L := .trans rfl rfl
@[simp] theorem ss_nil : runs Φ .nil δ L = .nx δ L := .trans rfl rfl
@[simp] theorem ss_cons (s : S) (r : Ss) : runs Φ (.cons s r) δ L = (run Φ s δ L).sqk fun δ1 L1 => runs Φ r δ1 L1 := .trans rfl rfl
@[simp] theorem tst_def (e : E) : tst Φ e δ L = (ev Φ e δ L).bdk fun x L1 => R.op (x.truth L1) L1 := .trans rfl rfl
/-! ### while a dict is walked -/
theorem run_lk {Φ : Calls} {a : E} {s : S} {k : Nat} {kvs} {δ δ2 : Env'} {L L1 L2 : Store} (h : ev Φ a δ L = .ok (.ref k) L1) (hk : L[k]? = some (.dict kvs)) (hr : run Φ s δ (L.set k (.lock kvs)) = .nx δ2 L2) (h2 : L2[k]? = some (.lock kvs)) : run Φ (.lk a s) δ L = .nx δ2 (L2.set k (.dict kvs)) := by
  unfold run
  rw [h]
  dsimp only
  rw [hk]
  dsimp only
  rw [hr]
  dsimp only
  exact if_pos h2
theorem run_lkR {Φ : Calls} {a : E} {s : S} {k : Nat} {kvs} {d : D} {δ : Env'} {L L1 L2 : Store} (h : ev Φ a δ L = .ok (.ref k) L1) (hk : L[k]? = some (.dict kvs)) (hr : run Φ s δ (L.set k (.lock kvs)) = .rt d L2) (h2 : L2[k]? = some (.lock kvs)) : run Φ (.lk a s) δ L = .rt d (L2.set k (.dict kvs)) := by
  unfold run
  rw [h]
  dsimp only
  rw [hk]
  dsimp only
  rw [hr]
  dsimp only
  exact if_pos h2
theorem ev_lk {Φ : Calls} {a e : E} {k : Nat} {kvs} {d : D} {δ : Env'} {L L1 L2 : Store} (h : ev Φ a δ L = .ok (.ref k) L1) (hk : L[k]? = some (.dict kvs)) (hr : ev Φ e δ (L.set k (.lock kvs)) = .ok d L2) (h2 : L2[k]? = some (.lock kvs)) : ev Φ (.lk a e) δ L = .ok d (L2.set k (.dict kvs)) := by
  unfold ev
  rw [h]
  dsimp only
  rw [hk]
  dsimp only
  rw [hr]
  dsimp only
  exact if_pos h2
end
end I
set_option Elab.async false
set_option linter.all false
set_option maxRecDepth 100000
set_option maxHeartbeats 4000000
/-! P1: tools; numbers, bytes, rows. -/
namespace I
open PySem PySem.Spec PyProof.Rows L2 G
/-! ### words -/
@[simp] theorem ofS_inj {a b : String} : Str.ofString a = Str.ofString b ↔ a = b := by
  constructor
  · intro h
    rw [Str.ofString_eq_toList, Str.ofString_eq_toList] at h
    have h1 : (a.toList.map Char.toNat).toArray = (b.toList.map Char.toNat).toArray := congrArg Str.cps h
    have h2 : a.toList.map Char.toNat = b.toList.map Char.toNat := by simpa using h1
    have h3 : a.toList = b.toList := by
      have inj : Function.Injective Char.toNat := fun x y e => Char.toNat_inj.mp e
      exact List.map_inj_right (fun x y e => inj e) |>.mp h2
    exact String.toList_inj.mp h3
  · rintro rfl
    rfl
@[simp] theorem ofS_beq {a b : String} : (Str.ofString a == Str.ofString b) = (a == b) := by
  rw [Bool.eq_iff_iff, beq_iff_eq, beq_iff_eq]
  exact ofS_inj
@[simp] theorem line_num : sizeLine = 16777216 := sizeLine_eq
section
variable {L : Store}
@[simp] theorem isi_NoneType_int : isiD L .non "int" = some false := by show kitB "NoneType" "int" = some false; decide +kernel
@[simp] theorem isi_NoneType_bool : isiD L .non "bool" = some false := by show kitB "NoneType" "bool" = some false; decide +kernel
@[simp] theorem isi_NoneType_str : isiD L .non "str" = some false := by show kitB "NoneType" "str" = some false; decide +kernel
@[simp] theorem isi_NoneType_tuple : isiD L .non "tuple" = some false := by show kitB "NoneType" "tuple" = some false; decide +kernel
@[simp] theorem isi_NoneType_list : isiD L .non "list" = some false := by show kitB "NoneType" "list" = some false; decide +kernel
@[simp] theorem isi_bool_int (b : Bool) : isiD L (.bl b) "int" = some true := by show kitB "bool" "int" = some true; decide +kernel
@[simp] theorem isi_bool_bool (b : Bool) : isiD L (.bl b) "bool" = some true := by show kitB "bool" "bool" = some true; decide +kernel
@[simp] theorem isi_bool_str (b : Bool) : isiD L (.bl b) "str" = some false := by show kitB "bool" "str" = some false; decide +kernel
@[simp] theorem isi_bool_tuple (b : Bool) : isiD L (.bl b) "tuple" = some false := by show kitB "bool" "tuple" = some false; decide +kernel
@[simp] theorem isi_bool_list (b : Bool) : isiD L (.bl b) "list" = some false := by show kitB "bool" "list" = some false; decide +kernel
@[simp] theorem isi_int_int (i : Int) : isiD L (.int i) "int" = some true := by show kitB "int" "int" = some true; decide +kernel
@[simp] theorem isi_int_bool (i : Int) : isiD L (.int i) "bool" = some false := by show kitB "int" "bool" = some false; decide +kernel
@[simp] theorem isi_int_str (i : Int) : isiD L (.int i) "str" = some false := by show kitB "int" "str" = some false; decide +kernel
@[simp] theorem isi_int_tuple (i : Int) : isiD L (.int i) "tuple" = some false := by show kitB "int" "tuple" = some false; decide +kernel
@[simp] theorem isi_int_list (i : Int) : isiD L (.int i) "list" = some false := by show kitB "int" "list" = some false; decide +kernel
@[simp] theorem isi_str_int (s : Str) : isiD L (.str s) "int" = some false := by show kitB "str" "int" = some false; decide +kernel
@[simp] theorem isi_str_bool (s : Str) : isiD L (.str s) "bool" = some false := by show kitB "str" "bool" = some false; decide +kernel
@[simp] theorem isi_str_str (s : Str) : isiD L (.str s) "str" = some true := by show kitB "str" "str" = some true; decide +kernel
@[simp] theorem isi_str_tuple (s : Str) : isiD L (.str s) "tuple" = some false := by show kitB "str" "tuple" = some false; decide +kernel
@[simp] theorem isi_str_list (s : Str) : isiD L (.str s) "list" = some false := by show kitB "str" "list" = some false; decide +kernel
@[simp] theorem isi_tuple_int (ds : List D) : isiD L (.tup ds) "int" = some false := by show kitB "tuple" "int" = some false; decide +kernel
@[simp] theorem isi_tuple_bool (ds : List D) : isiD L (.tup ds) "bool" = some false := by show kitB "tuple" "bool" = some false; decide +kernel
@[simp] theorem isi_tuple_str (ds : List D) : isiD L (.tup ds) "str" = some false := by show kitB "tuple" "str" = some false; decide +kernel
@[simp] theorem isi_tuple_tuple (ds : List D) : isiD L (.tup ds) "tuple" = some true := by show kitB "tuple" "tuple" = some true; decide +kernel
@[simp] theorem isi_tuple_list (ds : List D) : isiD L (.tup ds) "list" = some false := by show kitB "tuple" "list" = some false; decide +kernel
@[simp] theorem isi_list_int (ds : List D) : isiD L (.lst ds) "int" = some false := by show kitB "list" "int" = some false; decide +kernel
@[simp] theorem isi_list_bool (ds : List D) : isiD L (.lst ds) "bool" = some false := by show kitB "list" "bool" = some false; decide +kernel
@[simp] theorem isi_list_str (ds : List D) : isiD L (.lst ds) "str" = some false := by show kitB "list" "str" = some false; decide +kernel
@[simp] theorem isi_list_tuple (ds : List D) : isiD L (.lst ds) "tuple" = some false := by show kitB "list" "tuple" = some false; decide +kernel
@[simp] theorem isi_list_list (ds : List D) : isiD L (.lst ds) "list" = some true := by show kitB "list" "list" = some true; decide +kernel
@[simp] theorem ix_tup (ds : List D) (i : Int) : ixD L (.tup ds) (.int i) = atI ds i := rfl
@[simp] theorem ix_lst (ds : List D) (i : Int) : ixD L (.lst ds) (.int i) = atI ds i := rfl
@[simp] theorem ix_scr (ns : List Int) (i : Int) : ixD L (.scr ns) (.int i) = (atI ns i).map D.int := rfl
theorem ix_list {k : Nat} {ds : List D} (h : L[k]? = some (.list ds)) (i : Int) : ixD L (.ref k) (.int i) = atI ds i := by simp [ixD, h]
theorem ix_dict {k : Nat} {kvs} (h : L[k]? = some (.dict kvs)) (d : D) : ixD L (.ref k) d = (keyOf d).bind fun y => lkA y kvs := by simp [ixD, h]
@[simp] theorem key_int (i : Int) : keyOf (.int i) = some (.inl i) := rfl
@[simp] theorem key_str (s : Str) : keyOf (.str s) = some (.inr s) := rfl
@[simp] theorem seq_tup (ds : List D) : seqOf L (.tup ds) = some ds := rfl
@[simp] theorem seq_lst (ds : List D) : seqOf L (.lst ds) = some ds := rfl
@[simp] theorem seq_scr (ns : List Int) : seqOf L (.scr ns) = some (ns.map D.int) := rfl
@[simp] theorem lst_lst (ds : List D) : lstOf L (.lst ds) = some ds := rfl
theorem seq_list {k : Nat} {ds : List D} (h : L[k]? = some (.list ds)) : seqOf L (.ref k) = some ds := by simp [seqOf, h]
theorem lst_list {k : Nat} {ds : List D} (h : L[k]? = some (.list ds)) : lstOf L (.ref k) = some ds := by simp [lstOf, h]
@[simp] theorem len_tup (ds : List D) : biD .len [.tup ds] L = .ok (.int ds.length) L := rfl
@[simp] theorem len_lst (ds : List D) : biD .len [.lst ds] L = .ok (.int ds.length) L := rfl
@[simp] theorem len_scr (ns : List Int) : biD .len [.scr ns] L = .ok (.int ns.length) L := by simp [biD]
theorem len_list {k : Nat} {ds : List D} (h : L[k]? = some (.list ds)) : biD .len [.ref k] L = .ok (.int ds.length) L := by simp [biD, h, seq_list h]
theorem len_str {s : Str} (h : s.length ≤ 16777216) : biD .len [.str s] L = .ok (.int s.length) L := by simp [biD, h]
@[simp] theorem tuple_tup (ds : List D) : biD .tuple [.tup ds] L = .ok (.tup ds) L := rfl
@[simp] theorem tuple_lst (ds : List D) : biD .tuple [.lst ds] L = .ok (.tup ds) L := rfl
theorem tuple_list {k : Nat} {ds : List D} (h : L[k]? = some (.list ds)) : biD .tuple [.ref k] L = .ok (.tup ds) L := by simp [biD, lst_list h]
@[simp] theorem list_lst (ds : List D) : biD .list [.lst ds] L = .ok (.lst ds) L := rfl
@[simp] theorem int_bl (b : Bool) : biD .int [.bl b] L = .ok (.int (if b then 1 else 0)) L := rfl
@[simp] theorem int_int (i : Int) : biD .int [.int i] L = .ok (.int i) L := rfl
@[simp] theorem max_int (i j : Int) : biD .max [.int i, .int j] L = .ok (.int (max i j)) L := by
  show R.ok (D.int (if j > i then j else i)) L = _
  congr 2
  omega
@[simp] theorem min_int (i j : Int) : biD .min [.int i, .int j] L = .ok (.int (min i j)) L := by
  show R.ok (D.int (if j < i then j else i)) L = _
  congr 2
  omega
@[simp] theorem intsOf_map (ns : List Int) : intsOf (ns.map D.int) = some ns := by
  induction ns with
  | nil => rfl
  | cons n r ih => rw [List.map_cons]; unfold intsOf; rw [ih]; rfl
theorem strsOf_map (ns : List Str) : strsOf (ns.map D.str) = some ns := by
  induction ns with
  | nil => rfl
  | cons n r ih => rw [List.map_cons]; unfold strsOf; rw [ih]; rfl
@[simp] theorem sum_tup (ns : List Int) : biD .sum [.tup (ns.map D.int)] L = .ok (.int ns.sum) L := by
  show R.op (((some (ns.map D.int)).bind intsOf).map _) L = _
  simp
@[simp] theorem sum_lst (ns : List Int) : biD .sum [.lst (ns.map D.int)] L = .ok (.int ns.sum) L := by
  show R.op (((some (ns.map D.int)).bind intsOf).map _) L = _
  simp
@[simp] theorem op_add (i j : Int) : opD .add L (.int i) (.int j) = some (.int (i + j)) := rfl
@[simp] theorem op_sub (i j : Int) : opD .sub L (.int i) (.int j) = some (.int (i - j)) := rfl
theorem op_mul {i j : Int} (h : mulOk i j = true) : opD .mul L (.int i) (.int j) = some (.int (i * j)) := by simp [opD, mulD, h]
theorem op_div {i j : Int} (h : 0 < j) (h2 : j < 1073741824) : opD .div L (.int i) (.int j) = some (.int (i / j)) := by simp [opD, h, h2]
theorem op_mod {i j : Int} (h : 0 < j) : opD .mod L (.int i) (.int j) = some (.int (i % j)) := by simp [opD, h]
theorem op_catT {a b : List D} (h : a.length + b.length ≤ 16777216) : opD .add L (.tup a) (.tup b) = some (.tup (a ++ b)) := by simp [opD, addD, h]
theorem op_catL {a b : List D} (h : a.length + b.length ≤ 16777216) : opD .add L (.lst a) (.lst b) = some (.lst (a ++ b)) := by simp [opD, addD, h, lstOf]
theorem op_catS {a b : Str} (h : a.length + b.length ≤ 16777216) : opD .add L (.str a) (.str b) = some (.str (a ++ b)) := by simp [opD, addD, h]
@[simp] theorem neg_int (i : Int) : negD (.int i) = some (.int (-i)) := rfl
@[simp] theorem cmp_lt (i j : Int) : cmpD .lt L (.int i) (.int j) = some (decide (i < j)) := rfl
@[simp] theorem cmp_le (i j : Int) : cmpD .le L (.int i) (.int j) = some (decide (i ≤ j)) := rfl
@[simp] theorem cmp_gt (i j : Int) : cmpD .gt L (.int i) (.int j) = some (decide (j < i)) := rfl
@[simp] theorem cmp_ge (i j : Int) : cmpD .ge L (.int i) (.int j) = some (decide (j ≤ i)) := rfl
@[simp] theorem cmp_eq (x y : D) : cmpD .eq L x y = eqR L x y := rfl
@[simp] theorem cmp_ne (x y : D) : cmpD .ne L x y = (eqR L x y).map (!·) := rfl
@[simp] theorem cmp_mem (x y : D) : cmpD .mem L x y = inR L x y := rfl
@[simp] theorem cmp_nin (x y : D) : cmpD .nin L x y = (inR L x y).map (!·) := rfl
@[simp] theorem icmp_le (i j : Int) : icmp .le i j = decide (i ≤ j) := rfl
@[simp] theorem icmp_lt (i j : Int) : icmp .lt i j = decide (i < j) := rfl
@[simp] theorem intOf_int (i : Int) : intOf (.int i) = some i := rfl
@[simp] theorem intOf_non : intOf .non = none := rfl
@[simp] theorem intOf_bl (b : Bool) : intOf (.bl b) = none := rfl
@[simp] theorem intOf_str (b : Str) : intOf (.str b) = none := rfl
@[simp] theorem intOf_tup (b : List D) : intOf (.tup b) = none := rfl
@[simp] theorem intOf_lst (b : List D) : intOf (.lst b) = none := rfl
@[simp] theorem truth_bl (b : Bool) : (D.bl b).truth L = some b := rfl
@[simp] theorem truth_non : (D.non).truth L = some false := rfl
@[simp] theorem truth_int (i : Int) : (D.int i).truth L = some (i != 0) := rfl
@[simp] theorem truth_tup (ds : List D) : (D.tup ds).truth L = some (!ds.isEmpty) := rfl
@[simp] theorem truth_lst (ds : List D) : (D.lst ds).truth L = some (!ds.isEmpty) := rfl
theorem truth_list {k : Nat} {ds : List D} (h : L[k]? = some (.list ds)) : (D.ref k).truth L = some (!ds.isEmpty) := by simp [D.truth, Cell.truth, h]
@[simp] theorem sl_tup (ds : List D) (i j : Option Int) : slD L (.tup ds) i j = some (.tup (cutD ds i j)) := rfl
@[simp] theorem sl_lst (ds : List D) (i j : Option Int) : slD L (.lst ds) i j = some (.lst (cutD ds i j)) := rfl
theorem sl_list {k : Nat} {ds : List D} (h : L[k]? = some (.list ds)) (i j : Option Int) : slD L (.ref k) i j = some (.lst (cutD ds i j)) := by
  show (seqOf L (.ref k)).map _ = _
  rw [seq_list h]
  rfl
@[simp] theorem items_tup (ds : List D) : itemsOf L (.tup ds) = some ⟨ds, fun _ => True⟩ := rfl
@[simp] theorem items_lst (ds : List D) : itemsOf L (.lst ds) = some ⟨ds, fun _ => True⟩ := rfl
@[simp] theorem items_scr (ns : List Int) : itemsOf L (.scr ns) = some ⟨ns.map D.int, fun _ => True⟩ := rfl
@[simp] theorem items_str (s : Str) : itemsOf L (.str s) = some ⟨s.cps.toList.map fun c => .str ⟨#[c]⟩, fun _ => True⟩ := rfl
theorem items_list {k : Nat} {ds : List D} (h : L[k]? = some (.list ds)) : itemsOf L (.ref k) = some ⟨ds, fun L => L[k]? = some (.list ds)⟩ := by simp [itemsOf, h]
@[simp] theorem enum_tup (ds : List D) : enumI L (.tup ds) = some ⟨enumD ds, fun _ => True⟩ := rfl
@[simp] theorem enum_lst (ds : List D) : enumI L (.lst ds) = some ⟨enumD ds, fun _ => True⟩ := rfl
theorem rng_of {i j : Int} (h : -4611686018427387904 ≤ i ∧ i < 4611686018427387904 ∧ -4611686018427387904 ≤ j ∧ j < 4611686018427387904) : rngI i j = some ⟨rngD i (j - i).toNat, fun _ => True⟩ := by
  unfold rngI
  exact if_pos (by omega)
@[simp] theorem bind_one (i : Nat) (d : D) (δ : Env') : bindT [i] false d δ = some (δ.set i (some d)) := rfl
@[simp] theorem bind_two (i j : Nat) (d e : D) (δ : Env') : bindT [i, j] true (.tup [d, e]) δ = some ((δ.set i (some d)).set j (some e)) := rfl
@[simp] theorem bind_three (i j k : Nat) (d e f : D) (δ : Env') : bindT [i, j, k] true (.tup [d, e, f]) δ = some (((δ.set i (some d)).set j (some e)).set k (some f)) := rfl
@[simp] theorem wipe_nil (δ : Env') : wipeE δ [] = δ := rfl
@[simp] theorem wipe_cons (δ : Env') (i : Nat) (r : List Nat) : wipeE δ (i :: r) = (wipeE δ r).set i none := rfl
@[simp] theorem isNon_non : D.non.isNon = true := rfl
@[simp] theorem isNon_int (i : Int) : (D.int i).isNon = false := rfl
@[simp] theorem isNon_tup (ds : List D) : (D.tup ds).isNon = false := rfl
@[simp] theorem isNon_lst (ds : List D) : (D.lst ds).isNon = false := rfl
@[simp] theorem isNon_ref (k : Nat) : (D.ref k).isNon = false := rfl
@[simp] theorem isNon_str (k : Str) : (D.str k).isNon = false := rfl
end
section
variable {lt : Nat → Option Fd} {n : Nat} {L : Store}
/-- a call by the def's body -/
theorem call_of {P : Tab} {n f : Nat} {fd : Fd} {ds : List D} {L : Store} (h : P f = some fd) (hl : ds.length = fd.np) : call P (n + 1) f ds L = fin (runs ⟨call P n, call P (n - 1)⟩ fd.body (ds.map some ++ List.replicate (fd.ns - fd.np) none) L) := by
  rw [call_succ, h]
  exact if_pos hl
theorem R.bd_ite {α β : Type} {p : Prop} [Decidable p] {a b : R α} {f : α → Store → R β} : (if p then a else b).bd f = if p then a.bd f else b.bd f := by
  split <;> rfl
/-! ### is_within, are_bytes -/
def D.plain : D → Bool
  | .ref _ => false
  | .scr _ => false
  | _ => true
def isWithin (d : D) (lo hi : Int) : Bool := match d with
  | .int i => decide (lo ≤ i) && decide (i ≤ hi)
  | _ => false
theorem c_is_within (d : D) (lo hi : Int) (h : D.plain d = true) : call (tab lt) (n + 1) f_is_within [d, .int lo, .int hi] L = .ok (.bl (isWithin d lo hi)) L := by
  rw [call_of (fd := d_is_within) rfl rfl]
  simp only [d_is_within]
  cases d <;> first | (simp [isWithin]; done) | cases h
theorem lcL_of {step : D → Option (Option D)} {f : D → Option D} : ∀ {ds : List D}, (∀ d ∈ ds, step d = some (f d)) → lcL step ds = some (ds.filterMap f)
  | [], _ => rfl
  | d :: ds, h => by
    have ih := lcL_of (ds := ds) fun e he => h e (List.mem_cons_of_mem _ he)
    unfold lcL
    rw [h d List.mem_cons_self, ih, List.filterMap_cons]
    cases f d <;> rfl
theorem small {n : Nat} (h : n ≤ 1000) : n ≤ 16777216 := by omega
def areBytes : D → Bool
  | .tup ds => ds.all fun d => isWithin d 0 255
  | _ => false
theorem none_left (p : D → Bool) : ∀ ds : List D, (ds.filterMap fun d => if p d = true then none else some d).isEmpty = ds.all p
  | [] => rfl
  | d :: ds => by
    rw [List.filterMap_cons, List.all_cons, ← none_left p ds]
    cases p d <;> simp
theorem c_are_bytes (d : D) (h : D.plain d = true) (h2 : ∀ ds, d = .tup ds → ds.length ≤ 16777216 ∧ ds.all D.plain = true) : call (tab lt) (n + 2) f_are_bytes [d] L = .ok (.bl (areBytes d)) L := by
  rw [call_of (fd := d_are_bytes) rfl rfl]
  simp only [d_are_bytes]
  cases d with
  | tup ds =>
    obtain ⟨h3, h4⟩ := h2 ds rfl
    simp [h3]
    rw [lcL_of (f := fun d => if isWithin d 0 255 = true then none else some d)]
    · simp [none_left, areBytes]
    · intro d hd
      have hp := List.all_eq_true.mp h4 d hd
      simp [lcStep, c_is_within _ _ _ hp]
      cases isWithin d 0 255 <;> simp
  | _ => first | (simp [areBytes]; done) | cases h
end
end I
set_option Elab.async false
set_option linter.all false
set_option maxRecDepth 100000
set_option maxHeartbeats 4000000
/-! P2: bodies, rows. -/
namespace I
open PySem PySem.Spec PyProof.Rows L2 G
/-- plain things of things, no wider than 1000 -/
def D.ok1 : D → Bool
  | .tup ds => decide (ds.length ≤ 1000) && ds.all D.plain
  | d => D.plain d
def D.ok2 : D → Bool
  | .tup ds => decide (ds.length ≤ 1000) && ds.all D.ok1
  | d => D.plain d
theorem D.ok1_plain {d : D} (h : D.ok1 d = true) : D.plain d = true := by cases d <;> first | rfl | exact h
theorem D.ok2_plain {d : D} (h : D.ok2 d = true) : D.plain d = true := by cases d <;> first | rfl | exact h
theorem D.ok1_tup {ds : List D} (h : D.ok1 (.tup ds) = true) : ds.length ≤ 1000 ∧ ds.all D.plain = true := by
  have h' : (decide (ds.length ≤ 1000) && ds.all D.plain) = true := h
  rw [Bool.and_eq_true] at h'
  exact ⟨of_decide_eq_true h'.1, h'.2⟩
theorem D.ok2_tup {ds : List D} (h : D.ok2 (.tup ds) = true) : ds.length ≤ 1000 ∧ ds.all D.ok1 = true := by
  have h' : (decide (ds.length ≤ 1000) && ds.all D.ok1) = true := h
  rw [Bool.and_eq_true] at h'
  exact ⟨of_decide_eq_true h'.1, h'.2⟩
/-- a tuple of numbers -/
abbrev tupI (ns : List Int) : D := .tup (ns.map D.int)
theorem ok1_ints {ns : List Int} (h : ns.length ≤ 1000) : D.ok1 (tupI ns) = true := by
  show (decide ((ns.map D.int).length ≤ 1000) && (ns.map D.int).all D.plain) = true
  rw [List.length_map, decide_eq_true h, Bool.true_and, List.all_eq_true]
  intro x hx
  obtain ⟨i, _, rfl⟩ := List.mem_map.mp hx
  rfl
def isBody (d : D) : Bool := areBytes d && (match d with
  | .tup ds => decide (ds.length ≤ 60)
  | _ => false)
def kinds : List Str := ["put", "out", "done", "from", "part", "deal", "carried", "new"]
def rowTail (k : Str) (c : D) : Bool :=
  if k = "put" ∨ k = "part" then isBody c
  else if k = "carried" then (match c with
    | .tup (.int x :: r) => decide (x ≤ 9) && isBody (.tup r)
    | _ => false)
  else if k = "deal" then (match c with
    | .tup [x] => isWithin x 1 9
    | _ => false)
  else (match c with
    | .tup [] => true
    | _ => false)
def isRow : D → Bool
  | .tup [.str k, n, b] => decide (k ∈ kinds) && (isWithin n 0 999999 && (areBytes b && rowTail k b))
  | _ => false
theorem within_int {d : D} {lo hi : Int} (h : isWithin d lo hi = true) : ∃ i, d = .int i ∧ lo ≤ i ∧ i ≤ hi := by
  cases d with
  | int i =>
    have h' : (decide (lo ≤ i) && decide (i ≤ hi)) = true := h
    rw [Bool.and_eq_true] at h'
    exact ⟨i, rfl, of_decide_eq_true h'.1, of_decide_eq_true h'.2⟩
  | _ => cases h
theorem bytes_ints : ∀ {ds : List D}, (ds.all fun d => isWithin d 0 255) = true → ∃ ns : List Int, ds = ns.map D.int ∧ ∀ n ∈ ns, 0 ≤ n ∧ n ≤ 255
  | [], _ => ⟨[], rfl, nofun⟩
  | d :: ds, h => by
    rw [List.all_cons, Bool.and_eq_true] at h
    obtain ⟨i, rfl, h1, h2⟩ := within_int h.1
    obtain ⟨ns, rfl, h3⟩ := bytes_ints h.2
    exact ⟨i :: ns, rfl, fun n hn => by
      rcases List.mem_cons.mp hn with e | hn
      · rw [e]; exact ⟨h1, h2⟩
      · exact h3 n hn⟩
theorem areBytes_at {d : D} (h : areBytes d = true) : ∃ ns : List Int, d = tupI ns ∧ ∀ n ∈ ns, 0 ≤ n ∧ n ≤ 255 := by
  cases d with
  | tup ds =>
    obtain ⟨ns, rfl, h1⟩ := bytes_ints h
    exact ⟨ns, rfl, h1⟩
  | _ => cases h
section
variable {lt : Nat → Option Fd} {n : Nat} {L : Store}
theorem c_bytes1 (d : D) (h : D.ok1 d = true) : call (tab lt) (n + 2) f_are_bytes [d] L = .ok (.bl (areBytes d)) L :=
  c_are_bytes d (D.ok1_plain h) fun ds e => ⟨small (D.ok1_tup (e ▸ h)).1, (D.ok1_tup (e ▸ h)).2⟩
theorem c_is_body (d : D) (h : D.ok1 d = true) : call (tab lt) (n + 3) f_is_body [d] L = .ok (.bl (isBody d)) L := by
  rw [call_of (fd := d_is_body) rfl rfl]
  simp [d_is_body, c_bytes1 d h]
  cases hb : areBytes d with
  | false => simp [isBody, hb]
  | true =>
    obtain ⟨ns, rfl, _⟩ := areBytes_at hb
    simp [isBody, hb]
    omega
theorem any_strs (k : Str) : ∀ ss : List Str, ((ss.map D.str).any fun y => eqD y (.str k)) = decide (k ∈ ss)
  | [] => rfl
  | s :: r => by
    rw [List.map_cons, List.any_cons, any_strs k r]
    show (s == k || _) = _
    by_cases e : s = k
    · subst e; simp
    · simp [e, Ne.symm e]
theorem flats_strs : ∀ ss : List Str, (ss.map D.str).all D.flat = true
  | [] => rfl
  | s :: r => by rw [List.map_cons, List.all_cons, flats_strs r]; rfl
theorem inR_strs (k : Str) (ss : List Str) : inR L (.str k) (.tup (ss.map D.str)) = some (decide (k ∈ ss)) := by
  show (if _ ∧ _ then _ else _) = _
  rw [if_pos ⟨rfl, flats_strs ss⟩, any_strs]
theorem atI_at {α : Type} {ds : List α} {k : Nat} {d : α} (h : ds[k]? = some d) : atI ds (k : Int) = some d := G.atI_at h
@[simp] theorem atI_0 {α : Type} (a : α) (r : List α) : atI (a :: r) 0 = some a := atI_at (k := 0) rfl
@[simp] theorem atI_1 {α : Type} (a b : α) (r : List α) : atI (a :: b :: r) 1 = some b := atI_at (k := 1) rfl
@[simp] theorem atI_2 {α : Type} (a b c : α) (r : List α) : atI (a :: b :: c :: r) 2 = some c := atI_at (k := 2) rfl
@[simp] theorem eqR_int (i j : Int) : eqR L (.int i) (.int j) = some (decide (i = j)) := by
  show (if _ then _ else _) = _
  rw [if_pos ⟨rfl, rfl⟩]
  simp only [eqvD]
  congr 1
theorem lay_ints (ns : List Int) : lay 40 (tupI ns) = true := by
  show (ns.map D.int).all (lay 39) = true
  rw [List.all_eq_true]
  intro x hx
  obtain ⟨i, _, rfl⟩ := List.mem_map.mp hx
  rfl
theorem eqvL_ints : ∀ ns ms : List Int, eqvL (ns.map D.int) (ms.map D.int) = decide (ns = ms)
  | [], [] => by simp [eqvL]
  | [], m :: r => by simp [eqvL]
  | n :: r, [] => by simp [eqvL]
  | n :: r, m :: q => by
    rw [List.map_cons, List.map_cons]
    simp only [eqvL, eqvD, eqvL_ints r q]
    by_cases e : n = m <;> simp [e]
theorem eqR_ints (ns ms : List Int) : eqR L (tupI ns) (tupI ms) = some (decide (ns = ms)) := by
  show (if _ then _ else _) = _
  rw [if_pos ⟨lay_ints ns, lay_ints ms⟩]
  simp only [eqvD, eqvL_ints]
theorem cutD_tail (d : D) (ds : List D) : cutD (d :: ds) (some 1) none = ds := G.cutD_tail d ds
@[simp] theorem op_map {α β : Type} (f : α → β) (a : α) (L : Store) : R.op ((some a).map f) L = .ok (f a) L := rfl
theorem strOk_ofS (s : String) : PyData.strOk (Str.ofString s) = true := by
  rw [Str.ofString_eq_toList]
  have h : ∀ n ∈ s.toList.map Char.toNat, n < 1114112 := by
    intro n hn
    obtain ⟨c, _, rfl⟩ := List.mem_map.mp hn
    have h := c.valid
    show c.val.toNat < 1114112
    simp only [UInt32.isValidChar, Nat.isValidChar] at h
    omega
  show (s.toList.map Char.toNat).toArray.all (fun c => decide (c < 0x110000)) = true
  rw [← Array.all_toList]
  exact List.all_eq_true.mpr fun n hn => decide_eq_true (h n (by simpa using hn))
theorem eqR_strs {a b : Str} (ha : PyData.strOk a = true) (hb : PyData.strOk b = true) : eqR L (.str a) (.str b) = some (decide (a = b)) := by
  show (if _ then _ else _) = _
  rw [if_pos ⟨ha, hb⟩]
  simp only [eqvD]
  by_cases e : a = b <;> simp [e]
@[simp] theorem eqR_str (a b : String) : eqR L (.str (Str.ofString a)) (.str (Str.ofString b)) = some (decide (a = b)) := by
  rw [eqR_strs (strOk_ofS a) (strOk_ofS b)]
  simp
@[simp] theorem inR_two (k a b : Str) : inR L (.str k) (.tup [.str a, .str b]) = some (decide (k = a ∨ k = b)) := by
  rw [show [D.str a, D.str b] = [a, b].map D.str from rfl, inR_strs]
  simp
@[simp] theorem inR_three (k a b c : Str) : inR L (.str k) (.tup [.str a, .str b, .str c]) = some (decide (k = a ∨ k = b ∨ k = c)) := by
  rw [show [D.str a, D.str b, D.str c] = [a, b, c].map D.str from rfl, inR_strs]
  simp
theorem eqR_nil (ns : List Int) : eqR L (tupI ns) (.tup []) = some (decide (ns = [])) := eqR_ints ns []
/-- the checks of a row's kind -/
theorem c_is_row (d : D) (h : D.ok2 d = true) : call (tab lt) (n + 4) f_is_row [d] L = .ok (.bl (isRow d)) L := by
  rw [call_of (fd := d_is_row) rfl rfl]
  simp only [d_is_row]
  cases d with
  | tup ds =>
    obtain ⟨hz, ha⟩ := D.ok2_tup h
    by_cases hl : ds.length = 3
    · match ds, hl with
      | [a, b, c], _ =>
        have oa : D.ok1 a = true ∧ D.ok1 b = true ∧ D.ok1 c = true := by simpa using ha
        cases a with
        | str k =>
          have hin := inR_strs (L := L) k kinds
          by_cases hk : k ∈ kinds
          · rw [decide_eq_true hk] at hin
            simp only [kinds, List.map_cons, List.map_nil] at hin
            by_cases hw : isWithin b 0 999999 = true
            · by_cases hb : areBytes c = true
              · obtain ⟨ns, rfl, hns⟩ := areBytes_at hb
                have o1 := ok1_ints (ns := ns) (by have := (D.ok1_tup oa.2.2).1; simpa using this)
                have hk' : k = "put" ∨ k = "out" ∨ k = "done" ∨ k = "from" ∨ k = "part" ∨ k = "deal" ∨ k = "carried" ∨ k = "new" := by simpa [kinds] using hk
                rcases hk' with rfl | rfl | rfl | rfl | rfl | rfl | rfl | rfl
                · simp [isRow, hin, hk, hw, hb, c_is_within b _ _ (D.ok1_plain oa.2.1), c_bytes1 _ o1, c_is_body _ o1, rowTail]
                · simp [isRow, hin, hk, hw, hb, c_is_within b _ _ (D.ok1_plain oa.2.1), c_bytes1 _ o1, c_is_body _ o1, rowTail, eqR_nil]
                  cases ns <;> rfl
                · simp [isRow, hin, hk, hw, hb, c_is_within b _ _ (D.ok1_plain oa.2.1), c_bytes1 _ o1, c_is_body _ o1, rowTail, eqR_nil]
                  cases ns <;> rfl
                · simp [isRow, hin, hk, hw, hb, c_is_within b _ _ (D.ok1_plain oa.2.1), c_bytes1 _ o1, c_is_body _ o1, rowTail, eqR_nil]
                  cases ns <;> rfl
                · simp [isRow, hin, hk, hw, hb, c_is_within b _ _ (D.ok1_plain oa.2.1), c_bytes1 _ o1, c_is_body _ o1, rowTail]
                · cases ns with
                  | nil => simp [isRow, hin, hk, hw, hb, c_is_within b _ _ (D.ok1_plain oa.2.1), c_bytes1 _ o1, rowTail]
                  | cons m r =>
                    cases r with
                    | nil => simp [isRow, hin, hk, hw, hb, c_is_within b _ _ (D.ok1_plain oa.2.1), c_bytes1 _ o1, rowTail, c_is_within (.int m) 1 9 rfl]; rfl
                    | cons m' r =>
                      have e2 : ¬ ((r.length : Int) + 1 + 1 = 1) := by omega
                      simp [isRow, hin, hk, hw, hb, c_is_within b _ _ (D.ok1_plain oa.2.1), c_bytes1 _ o1, rowTail, e2]
                · cases ns with
                  | nil => simp [isRow, hin, hk, hw, hb, c_is_within b _ _ (D.ok1_plain oa.2.1), c_bytes1 _ o1, rowTail]
                  | cons m r =>
                    have o2 : D.ok1 (tupI r) = true := ok1_ints (by have := (D.ok1_tup o1).1; simp at this; omega)
                    have e2 : (0 : Int) < (r.length : Int) + 1 := by omega
                    by_cases hm : m ≤ 9
                    · simp [isRow, hin, hk, hw, hb, c_is_within b _ _ (D.ok1_plain oa.2.1), c_bytes1 _ o1, rowTail, cutD_tail, c_is_body _ o2, e2, hm]; simp [tupI, hm]
                    · simp [isRow, hin, hk, hw, hb, c_is_within b _ _ (D.ok1_plain oa.2.1), c_bytes1 _ o1, rowTail, e2, hm]; simp [tupI, hm]
                · simp [isRow, hin, hk, hw, hb, c_is_within b _ _ (D.ok1_plain oa.2.1), c_bytes1 _ o1, c_is_body _ o1, rowTail, eqR_nil]
                  cases ns <;> rfl
              · simp [isRow, hin, hk, hw, hb, c_is_within b _ _ (D.ok1_plain oa.2.1), c_bytes1 c oa.2.2]
            · simp [isRow, hin, hk, hw, c_is_within b _ _ (D.ok1_plain oa.2.1)]
          · rw [decide_eq_false hk] at hin
            simp only [kinds, List.map_cons, List.map_nil] at hin
            simp [isRow, hin, hk]
        | ref k => cases oa.1
        | scr k => cases oa.1
        | _ => simp [isRow]
    · have e : isRow (.tup ds) = false := by
        unfold isRow
        split
        · rename_i q; injection q with q; subst q; exact absurd rfl hl
        · rfl
      have hl' : ¬ (ds.length : Int) = 3 := by omega
      simp [hl', e]
  | _ => first | (simp [isRow]; done) | cases h
end
end I
set_option Elab.async false
set_option linter.all false
set_option maxRecDepth 100000
set_option maxHeartbeats 4000000
/-! P3: checks, bytes of rows. -/
namespace I
open PySem PySem.Spec PyProof.Rows L2 G
/-- the weights: k times the first, and so on -/
def wlist : Int → List Int → List Int
  | _, [] => []
  | k, x :: r => k * x :: wlist (k + 1) r
def chk1 (b : List Int) : Int := b.sum % 256
def chk2 (b : List Int) : Int := (wlist 1 b).sum % 256
theorem wlist_len : ∀ (k : Int) (b : List Int), (wlist k b).length = b.length
  | _, [] => rfl
  | k, x :: r => congrArg Nat.succ (wlist_len (k + 1) r)
theorem wlist_at : ∀ (k : Int) (b : List Int) (i : Nat), (wlist k b)[i]? = b[i]?.map fun x => (k + i) * x
  | _, [], i => by simp [wlist]
  | k, x :: r, 0 => by simp [wlist]
  | k, x :: r, i + 1 => by
    simp only [wlist, List.getElem?_cons_succ]
    rw [wlist_at (k + 1) r i]
    congr 1
    funext y
    congr 1
    omega
theorem filterMap_some {α β : Type} {f : α → Option β} {g : α → β} : ∀ {l : List α}, (∀ x ∈ l, f x = some (g x)) → l.filterMap f = l.map g
  | [], _ => rfl
  | x :: l, h => by
    rw [List.filterMap_cons, h x List.mem_cons_self, List.map_cons, filterMap_some fun y hy => h y (List.mem_cons_of_mem _ hy)]
/-- a comprehension whose items all stay -/
theorem lcL_map {step : D → Option (Option D)} {g : D → D} {ds : List D} (h : ∀ d ∈ ds, step d = some (some (g d))) : lcL step ds = some (ds.map g) := by
  rw [lcL_of (f := fun d => some (g d)) h, filterMap_some fun x _ => rfl]
/-- the same by places -/
theorem lcL_at {step : D → Option (Option D)} {ds ys : List D} (hl : ys.length = ds.length) (h : ∀ (i : Nat) (d y : D), ds[i]? = some d → ys[i]? = some y → step d = some (some y)) : lcL step ds = some ys := by
  induction ds generalizing ys with
  | nil =>
    cases ys with
    | nil => rfl
    | cons _ _ => cases hl
  | cons d ds ih =>
    cases ys with
    | nil => cases hl
    | cons y ys =>
      unfold lcL
      rw [h 0 d y rfl rfl, ih (ys := ys) (by simpa using hl) fun i e z he hz => h (i + 1) e z (by simpa using he) (by simpa using hz)]
theorem enum_len (ds : List D) : (enumD ds).length = ds.length := G.enumD_len ds
section
variable {lt : Nat → Option Fd} {n : Nat} {L : Store}
theorem c_checks (b : List Int) (hl : b.length ≤ 100000) : call (tab lt) (n + 1) f_checks [tupI b] L = .ok (tupI [chk1 b, chk2 b]) L := by
  rw [call_of (fd := d_checks) rfl rfl]
  have hl2 : b.length ≤ 16777216 := by omega
  simp [d_checks, op_mod, enum_len, hl2]
  rw [lcL_at (ys := (wlist 1 b).map D.int)]
  · simp [op_mod, chk1, chk2]
  · simp [wlist_len, enum_len]
  · intro i d y hd hy
    obtain ⟨e, he, rfl⟩ := G.enumD_at hd
    rw [List.getElem?_map, wlist_at] at hy
    rw [List.getElem?_map] at he
    cases hx : b[i]? with
    | none => rw [hx] at he; cases he
    | some x =>
      rw [hx] at he hy
      cases he
      cases hy
      have hi : i < b.length := (List.getElem?_eq_some_iff.mp hx).1
      have hm : mulOk ((i : Int) + 1) x = true := by
        unfold mulOk
        rw [decide_eq_true (by omega), Bool.true_or]
      simp [lcStep, op_mul hm]
      rw [Int.add_comm]
/-- a row -/
structure Row where
  k : Str
  n : Int
  b : List Int
  deriving DecidableEq
def rowD (r : Row) : D := .tup [.str r.k, .int r.n, tupI r.b]
/-- a row as it is told -/
structure Row.Good (r : Row) : Prop where
  is : isRow (rowD r) = true
theorem isRow_at (k : Str) (b c : D) : isRow (.tup [.str k, b, c]) = (decide (k ∈ kinds) && (isWithin b 0 999999 && (areBytes c && rowTail k c))) := rfl
theorem Row.Good.all {r : Row} (h : r.Good) : r.k ∈ kinds ∧ (0 ≤ r.n ∧ r.n ≤ 999999) ∧ (∀ x ∈ r.b, 0 ≤ x ∧ x ≤ 255) ∧ rowTail r.k (tupI r.b) = true := by
  have h1 := h.is
  unfold rowD at h1
  rw [isRow_at, Bool.and_eq_true, Bool.and_eq_true, Bool.and_eq_true] at h1
  obtain ⟨i, e, i1, i2⟩ := within_int h1.2.1
  cases e
  obtain ⟨ns, e, e2⟩ := areBytes_at h1.2.2.1
  have e3 : r.b = ns := by
    have : r.b.map D.int = ns.map D.int := by injection e
    exact List.map_inj_right (fun x y h => by cases h; rfl) |>.mp this
  exact ⟨of_decide_eq_true h1.1, ⟨i1, i2⟩, e3 ▸ e2, h1.2.2.2⟩
theorem isBody_len {ns : List Int} (h : isBody (tupI ns) = true) : ns.length ≤ 60 := by
  unfold isBody at h
  rw [Bool.and_eq_true] at h
  have := of_decide_eq_true h.2
  simpa using this
theorem Row.Good.len {r : Row} (h : r.Good) : r.b.length ≤ 61 := by
  have ht := h.all.2.2.2
  unfold rowTail at ht
  split at ht
  · have := isBody_len ht
    omega
  · split at ht
    · split at ht
      · rename_i x q e
        rw [Bool.and_eq_true] at ht
        have e2 : r.b.map D.int = .int x :: q := by injection e
        cases hb : r.b with
        | nil => rw [hb] at e2; cases e2
        | cons y ys =>
          rw [hb] at e2
          injection e2 with e3 e4
          subst e4
          have := isBody_len ht.2
          simp
          omega
      · cases ht
    · split at ht
      · split at ht
        · rename_i x e
          have e2 : r.b.map D.int = [x] := by injection e
          have := congrArg List.length e2
          simp at this
          omega
        · cases ht
      · split at ht
        · rename_i e
          have e2 : r.b.map D.int = [] := by injection e
          have e3 : r.b = [] := by simpa using e2
          rw [e3]
          exact Nat.zero_le _
        · cases ht
def kindNo (k : Str) : Int := (firstAt kinds k : Nat) + 1
/-- a row's bytes behind its checks -/
def rowHead (r : Row) : List Int := [kindNo r.k, r.n / 65536, r.n / 256 % 256, r.n % 256, r.b.length] ++ r.b
def rowB (r : Row) : List Int := [chk1 (rowHead r), chk2 (rowHead r)] ++ rowHead r
theorem firstAt_lt {k : Str} (h : k ∈ kinds) : firstAt kinds k < 8 := by
  have : firstAt kinds k < kinds.length := List.findIdx_lt_length_of_exists ⟨k, h, decide_eq_true rfl⟩
  exact this
theorem rowB_len (r : Row) : (rowB r).length = r.b.length + 7 := by simp [rowB, rowHead]
theorem c_bytes_of (r : Row) (h : r.Good) : call (tab lt) (n + 2) f_bytes_of [rowD r] L = .ok (tupI (rowB r)) L := by
  rw [call_of (fd := d_bytes_of) rfl rfl]
  obtain ⟨h1, h2, h3, h4⟩ := h.all
  have hl := h.len
  have hk := h1
  simp only [kinds] at hk
  have hf : firstAt [Str.ofString "put", Str.ofString "out", Str.ofString "done", Str.ofString "from", Str.ofString "part", Str.ofString "deal", Str.ofString "carried", Str.ofString "new"] r.k = firstAt kinds r.k := rfl
  have ck := c_checks (lt := lt) (n := n) (L := L) (rowHead r) (by simp [rowHead]; omega)
  simp only [rowHead, kindNo, tupI, List.cons_append, List.nil_append, List.map_cons] at ck
  simp only [d_bytes_of, rowD]
  simp (disch := first | assumption | (simp; done) | (simp; omega) | omega) [hk, hf, op_div, op_mod, op_catT, ck]
  simp [rowB, rowHead, kindNo, tupI]
end
end I
set_option Elab.async false
set_option linter.all false
set_option maxRecDepth 100000
set_option maxHeartbeats 4000000
/-! P4: rows read. -/
namespace I
open PySem PySem.Spec PyProof.Rows L2 G
inductive PR where
  | none | broken | row (r : Row) (len : Nat)
/-- the row that begins here -/
def parse (s : List Int) : PR :=
  if s.length < 7 then .none
  else if s.length < 7 + (s.getD 6 0).toNat then .none
  else if ¬ ([chk1 ((s.drop 2).take (5 + (s.getD 6 0).toNat)), chk2 ((s.drop 2).take (5 + (s.getD 6 0).toNat))] = s.take 2) ∨ ¬ (1 ≤ s.getD 2 0 ∧ s.getD 2 0 ≤ 8) then .broken
  else if isRow (rowD ⟨kinds.getD (s.getD 2 0 - 1).toNat "", s.getD 3 0 * 65536 + s.getD 4 0 * 256 + s.getD 5 0, (s.drop 7).take (s.getD 6 0).toNat⟩) = true then
    .row ⟨kinds.getD (s.getD 2 0 - 1).toNat "", s.getD 3 0 * 65536 + s.getD 4 0 * 256 + s.getD 5 0, (s.drop 7).take (s.getD 6 0).toNat⟩ (7 + (s.getD 6 0).toNat)
  else .broken
def PR.out (p : PR) (at_ : Nat) (L : Store) : R D := match p with
  | .none => .ok .non L
  | .broken => .ex "Broken" L
  | .row r len => .ok (.tup [rowD r, .int ((at_ + len : Nat) : Int)]) L
theorem atI_ints {bs : List Int} {i : Int} (h0 : 0 ≤ i) (h1 : i < bs.length) : atI (bs.map D.int) i = some (.int (bs.getD i.toNat 0)) := by
  obtain ⟨k, rfl⟩ := Int.eq_ofNat_of_zero_le h0
  have h2 : k < bs.length := by omega
  show atI (bs.map D.int) (k : Int) = some (.int (bs.getD k 0))
  refine atI_at ?_
  rw [List.getElem?_map, List.getD_eq_getElem?_getD, List.getElem?_eq_getElem h2]
  rfl
theorem sIx_nat {n d : Nat} {i : Int} (h0 : 0 ≤ i) (h1 : i ≤ n) : HT.sIx n d (some i) = i.toNat := by
  unfold HT.sIx
  show (if i < 0 then (i + n).toNat else min i.toNat n) = i.toNat
  rw [if_neg (by omega)]
  exact Nat.min_eq_left (by omega)
theorem cutD_nat {ds : List D} {i j : Int} (hi : 0 ≤ i) (hj : 0 ≤ j) (h : i ≤ ds.length) (h2 : j ≤ ds.length) : G.cutD ds (some i) (some j) = (ds.drop i.toNat).take (j.toNat - i.toNat) := by
  unfold G.cutD
  rw [sIx_nat hi h, sIx_nat hj h2]
theorem sl_ints {bs : List Int} {i j : Int} (hi : 0 ≤ i) (hj : 0 ≤ j) (h : i ≤ bs.length) (h2 : j ≤ bs.length) : G.cutD (bs.map D.int) (some i) (some j) = ((bs.drop i.toNat).take (j.toNat - i.toNat)).map D.int := by
  rw [cutD_nat hi hj (by simpa using h) (by simpa using h2)]
  simp [List.map_take, List.map_drop]
theorem kinds_at {i : Int} (h0 : 0 ≤ i) (h1 : i < 8) : atI (kinds.map D.str) i = some (.str (kinds.getD i.toNat "")) := by
  have h : i = 0 ∨ i = 1 ∨ i = 2 ∨ i = 3 ∨ i = 4 ∨ i = 5 ∨ i = 6 ∨ i = 7 := by omega
  rcases h with rfl | rfl | rfl | rfl | rfl | rfl | rfl | rfl <;> rfl
section
variable {lt : Nat → Option Fd} {n : Nat} {L : Store}
theorem ok2_row {k : Str} {m : Int} {b : List Int} (h : b.length ≤ 1000) : D.ok2 (rowD ⟨k, m, b⟩) = true := by
  have h1 := ok1_ints h
  show (decide (3 ≤ 1000) && (true && (true && (D.ok1 (tupI b) && true)))) = true
  rw [h1]
  rfl
theorem c_row_at (bs : List Int) (at_ : Nat) (hb : ∀ x ∈ bs, 0 ≤ x ∧ x ≤ 255) (hat : at_ ≤ bs.length) (hl : bs.length ≤ 16000000) : call (tab lt) (n + 5) f_row_at [tupI bs, .int at_] L = (parse (bs.drop at_)).out at_ L := by
  rw [call_of (fd := d_row_at) rfl rfl]
  have hgd : ∀ j : Nat, (bs.drop at_).getD j 0 = bs.getD (at_ + j) 0 := fun j => by
    rw [List.getD_eq_getElem?_getD, List.getD_eq_getElem?_getD, List.getElem?_drop]
  have hbd : ∀ j : Nat, 0 ≤ bs.getD j 0 ∧ bs.getD j 0 ≤ 255 := fun j => by
    rw [List.getD_eq_getElem?_getD]
    cases q : bs[j]? with
    | none => simp
    | some x => exact hb x (List.mem_of_getElem? q)
  have hlen : (bs.drop at_).length = bs.length - at_ := List.length_drop
  unfold parse
  simp only [hgd, hlen]
  by_cases h7 : bs.length - at_ < 7
  · rw [if_pos h7]
    have e1 : (bs.length : Int) < at_ + 7 := by omega
    simp [d_row_at, e1, PR.out]
  · rw [if_neg h7]
    have e1 : ¬ (bs.length : Int) < at_ + 7 := by omega
    have e2 : atI (bs.map D.int) ((at_ : Int) + 7 - 1) = some (.int (bs.getD (at_ + 6) 0)) := by
      rw [atI_ints (by omega) (by omega)]
      congr 3
      omega
    have m0 := hbd (at_ + 6)
    generalize hm : bs.getD (at_ + 6) 0 = m at *
    by_cases h8 : bs.length - at_ < 7 + m.toNat
    · rw [if_pos h8]
      have e3 : (bs.length : Int) < at_ + 7 + m := by omega
      simp [d_row_at, e1, e2, e3, PR.out]
    · rw [if_neg h8]
      have e3 : ¬ (bs.length : Int) < at_ + 7 + m := by omega
      have s1 : G.cutD (bs.map D.int) (some ((at_ : Int) + 2)) (some ((at_ : Int) + 7 + m)) = ((((bs.drop at_).drop 2).take (5 + m.toNat))).map D.int := by
        rw [sl_ints (by omega) (by omega) (by omega) (by omega), List.drop_drop]
        congr 3 <;> omega
      have s2 : G.cutD (bs.map D.int) (some (at_ : Int)) (some ((at_ : Int) + 2)) = (((bs.drop at_).take 2)).map D.int := by
        rw [sl_ints (by omega) (by omega) (by omega) (by omega)]
        congr 3 <;> omega
      have s3 : G.cutD (bs.map D.int) (some ((at_ : Int) + 7)) (some ((at_ : Int) + 7 + m)) = ((((bs.drop at_).drop 7).take m.toNat)).map D.int := by
        rw [sl_ints (by omega) (by omega) (by omega) (by omega), List.drop_drop]
        congr 3 <;> omega
      have c1 := c_checks (lt := lt) (n := n + 3) (L := L) (((bs.drop at_).drop 2).take (5 + m.toNat)) (by simp; omega)
      have a2 : atI (bs.map D.int) ((at_ : Int) + 2) = some (.int (bs.getD (at_ + 2) 0)) := atI_ints (by omega) (by omega)
      have a3 : atI (bs.map D.int) ((at_ : Int) + 3) = some (.int (bs.getD (at_ + 3) 0)) := atI_ints (by omega) (by omega)
      have a4 : atI (bs.map D.int) ((at_ : Int) + 4) = some (.int (bs.getD (at_ + 4) 0)) := atI_ints (by omega) (by omega)
      have a5 : atI (bs.map D.int) ((at_ : Int) + 5) = some (.int (bs.getD (at_ + 5) 0)) := atI_ints (by omega) (by omega)
      have m2 := hbd (at_ + 2)
      have q1 := eqR_ints (L := L) [chk1 (((bs.drop at_).drop 2).take (5 + m.toNat)), chk2 (((bs.drop at_).drop 2).take (5 + m.toNat))] ((bs.drop at_).take 2)
      have o1 : mulOk (bs.getD (at_ + 3) 0) 65536 = true := by
        unfold mulOk
        rw [decide_eq_true (show ((65536 : Int).natAbs < _) by decide), Bool.or_true]
      have o2 : mulOk (bs.getD (at_ + 4) 0) 256 = true := by
        unfold mulOk
        rw [decide_eq_true (show ((256 : Int).natAbs < _) by decide), Bool.or_true]
      generalize bs.getD (at_ + 2) 0 = k at *
      generalize bs.getD (at_ + 3) 0 = v3 at *
      generalize bs.getD (at_ + 4) 0 = v4 at *
      generalize bs.getD (at_ + 5) 0 = v5 at *
      generalize ((bs.drop at_).drop 2).take (5 + m.toNat) = hd at *
      generalize (bs.drop at_).take 2 = cs at *
      have hk : ((kinds.length : Nat) : Int) = 8 := rfl
      have kk : (8 : Int) = 8 := rfl
      by_cases h9 : [chk1 hd, chk2 hd] = cs
      · by_cases h10 : 1 ≤ k
        · by_cases h11 : k ≤ 8
          · have h12 : ¬ (¬ ([chk1 hd, chk2 hd] = cs) ∨ ¬ (1 ≤ k ∧ k ≤ 8)) := fun q => q.elim (fun q => q h9) fun q => q ⟨h10, h11⟩
            rw [if_neg h12]
            have a6 := kinds_at (i := k - 1) (by omega) (by omega)
            have ht : (((bs.drop at_).drop 7).take m.toNat).length ≤ 1000 := by
              rw [List.length_take]
              omega
            generalize ((bs.drop at_).drop 7).take m.toNat = tl at *
            have c2 := c_is_row (lt := lt) (n := n) (L := L) (rowD ⟨kinds.getD (k - 1).toNat "", v3 * 65536 + v4 * 256 + v5, tl⟩) (ok2_row ht)
            simp only [kinds, List.map_cons, List.map_nil] at a6
            rw [decide_eq_true h9] at q1
            generalize hkn : kinds.getD (k - 1).toNat "" = kn at *
            have a7 : atI [D.str (Str.ofString "put"), D.str (Str.ofString "out"), D.str (Str.ofString "done"), D.str (Str.ofString "from"), D.str (Str.ofString "part"), D.str (Str.ofString "deal"), D.str (Str.ofString "carried"), D.str (Str.ofString "new")] (k - 1) = some (.str kn) := hkn ▸ a6
            by_cases hr : isRow (rowD ⟨kn, v3 * 65536 + v4 * 256 + v5, tl⟩) = true
            · rw [hr] at c2
              rw [if_pos hr]
              simp only [rowD] at c2
              simp (disch := first | assumption | (simp; done) | omega) [d_row_at, e1, e2, e3, PR.out, s1, s2, c1, q1, a2, a3, a4, a5, h10, h11, op_mul, a7, s3, c2, rowD]
              omega
            · rw [Bool.eq_false_iff.mpr hr] at c2
              rw [if_neg hr]
              simp only [rowD] at c2
              simp (disch := first | assumption | (simp; done) | omega) [d_row_at, e1, e2, e3, PR.out, s1, s2, c1, q1, a2, a3, a4, a5, h10, h11, op_mul, a7, s3, c2, rowD]
          · rw [if_pos (.inr fun q => h11 q.2)]
            rw [decide_eq_true h9] at q1
            simp (disch := first | assumption | (simp; done) | omega) [d_row_at, e1, e2, e3, PR.out, s1, s2, c1, q1, a2, h10, h11]
        · rw [if_pos (.inr fun q => h10 q.1)]
          rw [decide_eq_true h9] at q1
          simp (disch := first | assumption | (simp; done) | omega) [d_row_at, e1, e2, e3, PR.out, s1, s2, c1, q1, a2, h10]
      · rw [if_pos (.inl h9)]
        rw [decide_eq_false h9] at q1
        simp (disch := first | assumption | (simp; done) | omega) [d_row_at, e1, e2, e3, PR.out, s1, s2, c1, q1, a2]
end
end I
set_option Elab.async false
set_option linter.all false
set_option maxRecDepth 100000
set_option maxHeartbeats 4000000
/-! P5: while; all rows of bytes. -/
namespace I
open PySem PySem.Spec PyProof.Rows L2 G
section
variable {cond : Env' → Store → R Bool} {body : Env' → Store → O}
theorem whN_succ : ∀ {n : Nat} {δ : Env'} {L : Store}, whN cond body n δ L ≠ .no → whN cond body (n + 1) δ L = whN cond body n δ L
  | 0, _, _, h => absurd rfl h
  | n + 1, δ, L, h => by
    unfold whN at h ⊢
    cases hc : cond δ L with
    | ok b L1 =>
      rw [hc] at h
      cases b with
      | false => rfl
      | true =>
        simp only [R.sn, ↓reduceIte] at h ⊢
        cases hb : body δ L1 with
        | nx δ2 L2 =>
          rw [hb] at h
          exact whN_succ h
        | _ => rfl
    | _ => rfl
theorem whN_le {n m : Nat} {δ : Env'} {L : Store} (h : whN cond body n δ L ≠ .no) (hm : n ≤ m) : whN cond body m δ L = whN cond body n δ L := by
  induction hm with
  | refl => rfl
  | step _ ih => rw [whN_succ (by rw [ih]; exact h), ih]
theorem whR_of {n : Nat} {δ : Env'} {L : Store} (h : whN cond body n δ L ≠ .no) : whR cond body δ L = whN cond body n δ L := by
  have hx : ∃ n, whN cond body n δ L ≠ .no := ⟨n, h⟩
  unfold whR
  rw [dif_pos hx]
  have h2 := Classical.choose_spec hx
  rcases Nat.le_total n (Classical.choose hx) with q | q
  · exact whN_le h q
  · exact (whN_le h2 q).symm
theorem whR_false {δ : Env'} {L L1 : Store} (hc : cond δ L = .ok false L1) : whR cond body δ L = .nx δ L1 := by
  have e : whN cond body 1 δ L = .nx δ L1 := by
    unfold whN
    rw [hc]
    rfl
  rw [whR_of (n := 1) (by rw [e]; exact fun q => by cases q), e]
theorem whR_ex {δ δ2 : Env'} {L L1 L2 : Store} {C : Str} (hc : cond δ L = .ok true L1) (hb : body δ L1 = .ex C δ2 L2) : whR cond body δ L = .ex C δ2 L2 := by
  have e : whN cond body 1 δ L = .ex C δ2 L2 := by
    unfold whN
    rw [hc]
    simp only [R.sn, hb, ↓reduceIte]
  rw [whR_of (n := 1) (by rw [e]; exact fun q => by cases q), e]
theorem whR_true {δ δ2 : Env'} {L L1 L2 : Store} (hc : cond δ L = .ok true L1) (hb : body δ L1 = .nx δ2 L2) (h : whR cond body δ2 L2 ≠ .no) : whR cond body δ L = whR cond body δ2 L2 := by
  have hx : ∃ n, whN cond body n δ2 L2 ≠ .no := Classical.byContradiction fun q => h (by unfold whR; exact dif_neg q)
  obtain ⟨n, hn⟩ := hx
  have e : whN cond body (n + 1) δ L = whN cond body n δ2 L2 := by
    rw [show whN cond body (n + 1) δ L = _ from by unfold whN; rfl, hc]
    simp only [R.sn, hb, ↓reduceIte]
  rw [whR_of (n := n + 1) (by rw [e]; exact hn), e, whR_of hn]
end
section
variable {Φ : Calls} {c : E} {b : Ss} {δ δ2 : Env'} {L L1 L2 : Store} {C : Str}
theorem whk_false (hc : tst Φ c δ L = .ok false L1) : whk Φ c b δ L = .nx δ L1 := whR_false hc
theorem whk_ex (hc : tst Φ c δ L = .ok true L1) (hb : runs Φ b δ L1 = .ex C δ2 L2) : whk Φ c b δ L = .ex C δ2 L2 := whR_ex hc hb
theorem whk_true (hc : tst Φ c δ L = .ok true L1) (hb : runs Φ b δ L1 = .nx δ2 L2) (h : whk Φ c b δ2 L2 ≠ .no) : whk Φ c b δ L = whk Φ c b δ2 L2 := whR_true hc hb h
end
def PR.val (p : PR) (at_ : Nat) : Option D := match p with
  | .none => some .non
  | .broken => Option.none
  | .row r len => some (.tup [rowD r, .int ((at_ + len : Nat) : Int)])
theorem parse_len {s : List Int} {r : Row} {n : Nat} (h : parse s = .row r n) : 7 ≤ n ∧ n ≤ s.length := by
  unfold parse at h
  split at h
  · cases h
  · split at h
    · cases h
    · split at h
      · cases h
      · split at h
        · injection h with h1 h2
          omega
        · cases h
/-- all rows, each with its length; what is left -/
def scan : Nat → List Int → Option (List (Row × Nat) × List Int)
  | 0, s => some ([], s)
  | f + 1, s => match parse s with
    | .none => some ([], s)
    | .broken => none
    | .row r n => (scan f (s.drop n)).map fun q => ((r, n) :: q.1, q.2)
/-- the rows with their begins -/
def begins : Nat → List (Row × Nat) → List D
  | _, [] => []
  | a, (r, n) :: q => .tup [rowD r, .int (a : Int)] :: begins (a + n) q
theorem begins_len : ∀ (a : Nat) (l : List (Row × Nat)), (begins a l).length = l.length
  | _, [] => rfl
  | a, (r, n) :: q => congrArg Nat.succ (begins_len (a + n) q)
theorem parse_nil : parse [] = .none := rfl
theorem scan_len : ∀ {f : Nat} {s : List Int} {l : List (Row × Nat)} {t : List Int}, scan f s = some (l, t) → l.length * 7 + t.length ≤ s.length
  | 0, s, l, t, h => by
    cases h
    simp
  | f + 1, s, l, t, h => by
    unfold scan at h
    cases hp : parse s with
    | none =>
      rw [hp] at h
      cases h
      simp
    | broken => rw [hp] at h; cases h
    | row r n =>
      rw [hp] at h
      have ⟨h7, hn⟩ := parse_len hp
      simp only at h
      cases hs : scan f (s.drop n) with
      | none => rw [hs] at h; cases h
      | some q =>
        rw [hs] at h
        cases h
        have := scan_len (l := q.1) (t := q.2) hs
        rw [List.length_drop] at this
        simp
        omega
section
variable {lt : Nat → Option Fd} {n : Nat} {L : Store}
theorem set_last {α : Type} (L : List α) (a b : α) : (L ++ [a]).set L.length b = L ++ [b] := by simp
theorem get_last {α : Type} (L : List α) (a : α) : (L ++ [a])[L.length]? = some a := by simp
theorem out_val (p : PR) (a : Nat) (L : Store) : p.out a L = match p.val a with
    | some d => .ok d L
    | none => .ex "Broken" L := by cases p <;> rfl
abbrev rowsCond : E := .notN (.var 3)
theorem c_row_at2 {bs : List Int} {at_ : Nat} (hb : ∀ x ∈ bs, 0 ≤ x ∧ x ≤ 255) (hat : at_ ≤ bs.length) (hl : bs.length ≤ 16000000) (L : Store) : call (tab lt) (n + 5) f_row_at [tupI bs, .int at_] L = match (parse (bs.drop at_)).val at_ with
    | some d => .ok d L
    | none => .ex "Broken" L := by rw [c_row_at bs at_ hb hat hl, out_val]
def rowsBody : Ss := match d_rows_of.body with
  | .cons _ (.cons _ (.cons _ (.cons (.wh _ b) _))) => b
  | _ => .nil
theorem rows_loop (bs : List Int) (hb : ∀ x ∈ bs, 0 ≤ x ∧ x ≤ 255) (hl : bs.length ≤ 16000000) : ∀ (f at_ : Nat) (ds : List D) (d : D), at_ ≤ bs.length → bs.length ≤ f + at_ → ds.length + (bs.length - at_) ≤ 16000000 → (parse (bs.drop at_)).val at_ = some d →
    match scan f (bs.drop at_) with
    | some (l, t) => whk ⟨call (tab lt) (n + 5), call (tab lt) (n + 4)⟩ rowsCond rowsBody [some (tupI bs), some (.ref L.length), some (.int at_), some d] (L ++ [.list ds]) = .nx [some (tupI bs), some (.ref L.length), some (.int ((bs.length - t.length : Nat) : Int)), some .non] (L ++ [.list (ds ++ begins at_ l)])
    | none => ∃ δ' ds', whk ⟨call (tab lt) (n + 5), call (tab lt) (n + 4)⟩ rowsCond rowsBody [some (tupI bs), some (.ref L.length), some (.int at_), some d] (L ++ [.list ds]) = .ex "Broken" δ' (L ++ [.list ds']) := by
  intro f
  induction f with
  | zero =>
    intro at_ ds d h1 h2 h3 hd
    have e : bs.drop at_ = [] := List.drop_eq_nil_of_le (by omega)
    rw [e] at hd ⊢
    cases hd
    show whk _ _ _ _ _ = _
    rw [whk_false (L1 := L ++ [.list ds]) (by simp)]
    simp [begins]
    omega
  | succ f ih =>
    intro at_ ds d h1 h2 h3 hd
    unfold scan
    cases hp : parse (bs.drop at_) with
    | none =>
      rw [hp] at hd
      cases hd
      show whk _ _ _ _ _ = _
      rw [whk_false (L1 := L ++ [.list ds]) (by simp)]
      simp [begins]
      omega
    | broken => rw [hp] at hd; cases hd
    | row r m =>
      rw [hp] at hd
      cases hd
      have ⟨m7, mn⟩ := parse_len hp
      rw [List.length_drop] at mn
      have ed : (bs.drop at_).drop m = bs.drop (at_ + m) := List.drop_drop
      have cr := c_row_at2 (lt := lt) (n := n) (at_ := at_ + m) hb (by omega) hl (L ++ [.list (ds ++ [.tup [rowD r, .int (at_ : Int)]])])
      have i := ih (at_ + m) (ds ++ [.tup [rowD r, .int (at_ : Int)]])
      have hl2 : ds.length < 16777216 := by omega
      simp only [ed]
      cases hv : (parse (bs.drop (at_ + m))).val (at_ + m) with
      | none =>
        have hs : scan f (bs.drop (at_ + m)) = none := by
          cases f with
          | zero =>
            have e : bs.drop (at_ + m) = [] := List.drop_eq_nil_of_le (by omega)
            rw [e] at hv
            cases hv
          | succ f =>
            unfold scan
            cases hq : parse (bs.drop (at_ + m)) with
            | broken => rfl
            | _ => rw [hq] at hv; cases hv
        rw [hs]
        rw [hv] at cr
        have hbd : runs ⟨call (tab lt) (n + 5), call (tab lt) (n + 4)⟩ rowsBody [some (tupI bs), some (.ref L.length), some (.int at_), some (.tup [rowD r, .int ((at_ + m : Nat) : Int)])] (L ++ [.list ds]) = .ex "Broken" [some (tupI bs), some (.ref L.length), some (.int ((at_ + m : Nat) : Int)), some (.tup [rowD r, .int ((at_ + m : Nat) : Int)])] (L ++ [.list (ds ++ [.tup [rowD r, .int (at_ : Int)]])]) := by
          clear i ih
          generalize ((at_ + m : Nat) : Int) = z at *
          simp [rowsBody, d_rows_of, bmD, hl2, cr]
        exact ⟨_, _, whk_ex (by simp) hbd⟩
      | some d2 =>
        rw [hv] at cr
        have hbd : runs ⟨call (tab lt) (n + 5), call (tab lt) (n + 4)⟩ rowsBody [some (tupI bs), some (.ref L.length), some (.int at_), some (.tup [rowD r, .int ((at_ + m : Nat) : Int)])] (L ++ [.list ds]) = .nx [some (tupI bs), some (.ref L.length), some (.int ((at_ + m : Nat) : Int)), some d2] (L ++ [.list (ds ++ [.tup [rowD r, .int (at_ : Int)]])]) := by
          clear i ih
          generalize ((at_ + m : Nat) : Int) = z at *
          simp [rowsBody, d_rows_of, bmD, hl2, cr]
        have i := i d2 (by omega) (by omega) (by simp; omega) hv
        cases hs : scan f (bs.drop (at_ + m)) with
        | none =>
          rw [hs] at i
          obtain ⟨δ', ds', i⟩ := i
          refine ⟨δ', ds', ?_⟩
          rw [whk_true (by simp) hbd (by rw [i]; exact fun q => by cases q), i]
        | some q =>
          rw [hs] at i
          show whk _ _ _ _ _ = _
          rw [whk_true (by simp) hbd (by rw [i]; exact fun q => by cases q), i]
          simp [begins]
theorem c_rows_of {bs : List Int} (hb : ∀ x ∈ bs, 0 ≤ x ∧ x ≤ 255) (hl : bs.length ≤ 16000000) :
    match scan bs.length bs with
    | some (l, t) => call (tab lt) (n + 6) f_rows_of [tupI bs] L = .ok (.tup [.ref L.length, .int ((bs.length - t.length : Nat) : Int)]) (L ++ [.list (begins 0 l)])
    | none => ∃ c, call (tab lt) (n + 6) f_rows_of [tupI bs] L = .ex "Broken" (L ++ [c]) := by
  have cr := c_row_at2 (lt := lt) (n := n) (at_ := 0) hb (by omega) hl (L ++ [.list []])
  have i := rows_loop (lt := lt) (n := n) (L := L) bs hb hl bs.length 0 []
  rw [List.drop_zero] at cr i
  rw [call_of (fd := d_rows_of) rfl rfl]
  cases hv : (parse bs).val 0 with
  | none =>
    have hs : scan bs.length bs = none := by
      cases bs with
      | nil => cases hv
      | cons x r =>
        rw [List.length_cons]
        unfold scan
        cases hq : parse (x :: r) with
        | broken => rfl
        | _ => rw [hq] at hv; cases hv
    rw [hs]
    rw [hv] at cr
    refine ⟨.list [], ?_⟩
    simp only [Int.natCast_zero] at cr
    simp [d_rows_of, cr]
  | some d =>
    rw [hv] at cr
    have i := i d (by omega) (by omega) (by simp; omega) hv
    simp only [Int.natCast_zero] at cr i
    cases hs : scan bs.length bs with
    | none =>
      rw [hs] at i
      obtain ⟨δ', ds', i⟩ := i
      simp only [rowsBody, d_rows_of, rowsCond] at i
      refine ⟨.list ds', ?_⟩
      simp [d_rows_of, cr, i]
    | some q =>
      rw [hs] at i
      simp only [rowsBody, d_rows_of, rowsCond] at i
      simp [d_rows_of, cr, i]
end
end I
set_option Elab.async false
set_option linter.all false
set_option maxRecDepth 100000
set_option maxHeartbeats 4000000
/-! P6: rows in bytes. -/
namespace I
open PySem PySem.Spec PyProof.Rows L2 G
def rowsL (l : List (Row × Nat)) : D := .lst (l.map fun p => rowD p.1)
theorem begins_fst : ∀ (a : Nat) (l : List (Row × Nat)), (begins a l).map (fun d => match d with
    | .tup (x :: _) => x
    | _ => .non) = l.map fun p => rowD p.1
  | _, [] => rfl
  | a, (r, n) :: q => by
    simp only [begins, List.map_cons]
    rw [begins_fst (a + n) q]
theorem begins_at : ∀ {a : Nat} {l : List (Row × Nat)} {d : D}, d ∈ begins a l → ∃ x y, d = .tup [x, y]
  | _, [], _, h => by cases h
  | a, (r, n) :: q, d, h => by
    rcases List.mem_cons.mp h with rfl | h
    · exact ⟨_, _, rfl⟩
    · exact begins_at h
section
variable {lt : Nat → Option Fd} {n : Nat} {L : Store}
theorem plain_ints {bs : List Int} : (bs.map D.int).all D.plain = true := by
  rw [List.all_eq_true]
  intro x hx
  obtain ⟨i, _, rfl⟩ := List.mem_map.mp hx
  rfl
theorem areBytes_ints {bs : List Int} (hb : ∀ x ∈ bs, 0 ≤ x ∧ x ≤ 255) : areBytes (tupI bs) = true := by
  show (bs.map D.int).all _ = true
  rw [List.all_eq_true]
  intro x hx
  obtain ⟨i, hi, rfl⟩ := List.mem_map.mp hx
  have := hb i hi
  simp [isWithin, this]
theorem c_rows_in {bs : List Int} (hb : ∀ x ∈ bs, 0 ≤ x ∧ x ≤ 255) (hl : bs.length ≤ 16000000) :
    match scan bs.length bs with
    | some (l, t) => call (tab lt) (n + 7) f_rows_in [tupI bs] L = .ok (.tup [rowsL l, .int t.length]) (L ++ [.list (begins 0 l)])
    | none => ∃ c, call (tab lt) (n + 7) f_rows_in [tupI bs] L = .ex "Broken" (L ++ [c]) := by
  have cr := c_rows_of (lt := lt) (n := n) (L := L) hb hl
  have cb := c_are_bytes (lt := lt) (n := n + 4) (L := L) (tupI bs) rfl fun ds e => by
    cases e
    exact ⟨by simp; omega, plain_ints⟩
  rw [areBytes_ints hb] at cb
  rw [call_of (fd := d_rows_in) rfl rfl]
  cases hs : scan bs.length bs with
  | none =>
    rw [hs] at cr
    obtain ⟨c, cr⟩ := cr
    exact ⟨c, by simp [d_rows_in, cb, cr]⟩
  | some q =>
    rw [hs] at cr
    have hq := scan_len (l := q.1) (t := q.2) hs
    have hq1 : q.1.length ≤ 16777216 := by omega
    have hq2 : (bs.length : Int) - ((bs.length - q.2.length : Nat) : Int) = q.2.length := by omega
    have it := items_list (L := L ++ [.list (begins 0 q.1)]) (k := L.length) (ds := begins 0 q.1) (by simp)
    simp [d_rows_in, cb, cr, it, begins_len, hq1, hq2]
    rw [lcL_map (g := fun d => match d with
      | .tup (x :: _) => x
      | _ => .non)]
    · rw [begins_fst]
      simp [rowsL]
      try omega
    · intro d hd
      obtain ⟨x, y, rfl⟩ := begins_at hd
      simp [lcStep]
theorem c_rows_in_bad (d : D) (h : D.plain d = true) (h2 : ∀ ds, d = .tup ds → ds.length ≤ 16777216 ∧ ds.all D.plain = true) (hf : areBytes d = false) : call (tab lt) (n + 7) f_rows_in [d] L = .ex "BadRow" L := by
  have cb := c_are_bytes (lt := lt) (n := n + 4) (L := L) d h h2
  rw [hf] at cb
  rw [call_of (fd := d_rows_in) rfl rfl]
  simp [d_rows_in, cb]
theorem c_row_bytes (r : Row) (h : r.Good) : call (tab lt) (n + 5) f_row_bytes [rowD r] L = .ok (tupI (rowB r)) L := by
  have c1 := c_is_row (lt := lt) (n := n) (L := L) (rowD r) (ok2_row (by have := h.len; omega))
  rw [h.is] at c1
  rw [call_of (fd := d_row_bytes) rfl rfl]
  simp [d_row_bytes, c1, c_bytes_of (n := n + 2) r h]
theorem c_row_bytes_bad (d : D) (h : D.ok2 d = true) (hf : isRow d = false) : call (tab lt) (n + 5) f_row_bytes [d] L = .ex "BadRow" L := by
  have c1 := c_is_row (lt := lt) (n := n) (L := L) d h
  rw [hf] at c1
  rw [call_of (fd := d_row_bytes) rfl rfl]
  simp [d_row_bytes, c1]
end
end I
set_option Elab.async false
set_option linter.all false
set_option maxRecDepth 100000
set_option maxHeartbeats 4000000
/-! P7: what laws about rows build. -/
namespace I
open PySem PySem.Spec PyProof.Rows L2 G
theorem op_pow {L : Store} {i : Int} {k : Nat} (h : i.natAbs < 18446744073709551616) (h2 : k ≤ 1000000) : opD .pow L (.int i) (.int (k : Int)) = some (.int (i ^ k)) := by
  show (if _ then _ else _) = _
  rw [if_pos ⟨by omega, by omega, h⟩]
  rfl
theorem op_pow3 {L : Store} {i : Int} (h : i.natAbs < 18446744073709551616) : opD .pow L (.int i) (.int 3) = some (.int (i ^ 3)) := op_pow (k := 3) h (by omega)
theorem op_pow5 {L : Store} {i : Int} (h : i.natAbs < 18446744073709551616) : opD .pow L (.int i) (.int 5) = some (.int (i ^ 5)) := op_pow (k := 5) h (by omega)
theorem op_mulR {L : Store} {i j : Int} (h : j.natAbs < 18446744073709551616) : opD .mul L (.int i) (.int j) = some (.int (i * j)) := op_mul (by unfold mulOk; rw [decide_eq_true h, Bool.or_true])
theorem op_mulL {L : Store} {i j : Int} (h : i.natAbs < 18446744073709551616) : opD .mul L (.int i) (.int j) = some (.int (i * j)) := op_mul (by unfold mulOk; rw [decide_eq_true h, Bool.true_or])
theorem mod_abs {i m : Int} (h : 0 < m) (h2 : m < 18446744073709551616) : (i % m).natAbs < 18446744073709551616 := by
  have := Int.emod_nonneg i (by omega : m ≠ 0)
  have := Int.emod_lt_of_pos i h
  omega
def cellOf (ns : List Int) (k : Nat) : Int := ns.getD k 0
def mixOf (c p m : Int) : Int := (c * 48271 % p) ^ 3 % p % m
def seedOf (s k : Int) : Int := ((s * 1103515245 + 7919 * k + 12345) % 2147483647) ^ 5 % 2147483647
def pickOf (s m : Int) : Int := s / 97 % m
def byteOf (s : Int) (k : Nat) : Int := if k % 2 = 0 then pickOf (seedOf s k) 256 else s / 11 % 3 * 100
def manyOf (s most : Int) : Int := if s / 5 % 2 = 0 then s / 7 % (most + 1) else s / 7 % 4
def bytesOf (s most : Int) : List Int := (List.range (manyOf s most).toNat).map (byteOf s)
theorem seed_bd (s k : Int) : 0 ≤ seedOf s k ∧ seedOf s k < 2147483647 := ⟨Int.emod_nonneg _ (by decide), Int.emod_lt_of_pos _ (by decide)⟩
theorem mix_bd {c p m : Int} (h : 0 < m) : 0 ≤ mixOf c p m ∧ mixOf c p m < m := ⟨Int.emod_nonneg _ (by omega), Int.emod_lt_of_pos _ h⟩
theorem byte_bd (s : Int) (k : Nat) : 0 ≤ byteOf s k ∧ byteOf s k ≤ 255 := by
  unfold byteOf pickOf
  split <;> omega
theorem many_bd {s most : Int} (h : 3 ≤ most) : 0 ≤ manyOf s most ∧ manyOf s most ≤ most := by
  unfold manyOf
  split
  · have := Int.emod_nonneg (s / 7) (by omega : most + 1 ≠ 0)
    have := Int.emod_lt_of_pos (s / 7) (by omega : 0 < most + 1)
    omega
  · omega
theorem bytesOf_bd {s most x : Int} (h : x ∈ bytesOf s most) : 0 ≤ x ∧ x ≤ 255 := by
  obtain ⟨k, _, rfl⟩ := List.mem_map.mp h
  exact byte_bd s k
theorem bytesOf_len {s most : Int} (h : 3 ≤ most) : ((bytesOf s most).length : Int) ≤ most := by
  have := many_bd (s := s) h
  simp [bytesOf]
  omega
theorem rngD_at {n : Nat} {i : Int} {k : Nat} {d : D} (h : (rngD i n)[k]? = some d) : d = .int (i + k) ∧ k < n := by
  unfold rngD at h
  rw [List.getElem?_map] at h
  cases hk : (List.range n)[k]? with
  | none => rw [hk] at h; cases h
  | some j =>
    rw [hk] at h
    have hj : k < n := by simpa using (List.getElem?_eq_some_iff.mp hk).1
    rw [List.getElem?_range hj] at hk
    cases hk
    cases h
    exact ⟨rfl, hj⟩
theorem rngD_len (i : Int) (n : Nat) : (rngD i n).length = n := by simp [rngD]
section
variable {lt : Nat → Option Fd} {n : Nat} {L : Store}
theorem c_law_cell (ns : List Int) (k : Int) (hk : 0 ≤ k) : call (tab lt) (n + 1) f_law_cell [.scr ns, .int k] L = .ok (.int (cellOf ns k.toNat)) L := by
  rw [call_of (fd := d_law_cell) rfl rfl]
  unfold cellOf
  by_cases h : k < ns.length
  · have e : atI ns k = some (ns.getD k.toNat 0) := by
      obtain ⟨j, rfl⟩ := Int.eq_ofNat_of_zero_le hk
      have h2 : j < ns.length := by omega
      refine atI_at ?_
      show _ = some (ns.getD j 0)
      rw [List.getD_eq_getElem?_getD, List.getElem?_eq_getElem h2]
      rfl
    simp only [List.getD_eq_getElem?_getD] at e ⊢
    simp [d_law_cell, h, e]
  · have h2 : ns[k.toNat]? = none := List.getElem?_eq_none (by omega)
    rw [List.getD_eq_getElem?_getD, h2]
    simp [d_law_cell, h]
theorem c_law_mix (c p m : Int) (hp : 0 < p) (hp2 : p < 18446744073709551616) (hm : 0 < m) : call (tab lt) (n + 1) f_law_mix [.int c, .int p, .int m] L = .ok (.int (mixOf c p m)) L := by
  rw [call_of (fd := d_law_mix) rfl rfl]
  have h := mod_abs (i := c * 48271) hp hp2
  simp (disch := first | assumption | (simp; done) | omega) [d_law_mix, op_mulR, op_mod, op_pow3, h, mixOf]
theorem c_law_seed (s k : Int) : call (tab lt) (n + 1) f_law_seed [.int s, .int k] L = .ok (.int (seedOf s k)) L := by
  rw [call_of (fd := d_law_seed) rfl rfl]
  have h := mod_abs (i := s * 1103515245 + 7919 * k + 12345) (m := 2147483647) (by omega) (by omega)
  simp (disch := first | assumption | (simp; done) | omega) [d_law_seed, op_mulR, op_mulL, op_mod, op_pow5, h, seedOf]
theorem c_law_pick (s m : Int) (hm : 0 < m) : call (tab lt) (n + 1) f_law_pick [.int s, .int m] L = .ok (.int (pickOf s m)) L := by
  rw [call_of (fd := d_law_pick) rfl rfl]
  simp (disch := first | assumption | (simp; done) | omega) [d_law_pick, op_div, op_mod, pickOf]
theorem pick2 (a b : D) (i : Int) : atI [a, b] (i % 2) = some (if i % 2 = 0 then a else b) := by
  have h : i % 2 = 0 ∨ i % 2 = 1 := by omega
  rcases h with h | h <;> rw [h] <;> rfl
theorem c_law_bytes (s most : Int) (h3 : 3 ≤ most) (h4 : most ≤ 1000) : call (tab lt) (n + 2) f_law_bytes [.int s, .int most] L = .ok (tupI (bytesOf s most)) L := by
  rw [call_of (fd := d_law_bytes) rfl rfl]
  have hm := many_bd (s := s) h3
  have ha : (if s / 5 % 2 = 0 then D.int (s / 7 % (most + 1)) else D.int (s / 7 % 4)) = D.int (manyOf s most) := by
    unfold manyOf
    split <;> rfl
  have hr : rngI 0 (manyOf s most) = some ⟨rngD 0 (manyOf s most).toNat, fun _ => True⟩ := by
    have := rng_of (i := 0) (j := manyOf s most) (by omega)
    rwa [Int.sub_zero] at this
  have hl : (rngD 0 (manyOf s most).toNat).length ≤ 16777216 := by
    rw [rngD_len]
    omega
  simp (disch := first | assumption | (simp; done) | omega) [d_law_bytes, op_div, op_mod, pick2, ha, hr, hl]
  rw [lcL_at (ys := (bytesOf s most).map D.int)]
  · simp
  · simp [rngD_len, bytesOf]
  · intro i d y hd hy
    obtain ⟨rfl, hi⟩ := rngD_at hd
    rw [List.getElem?_map, bytesOf, List.getElem?_map, List.getElem?_range hi] at hy
    cases hy
    have e : ((0 : Int) + i) % 2 = 0 ↔ i % 2 = 0 := by omega
    simp (disch := first | assumption | (simp; done) | omega) [lcStep, op_div, op_mod, op_mulR, pick2, c_law_seed, c_law_pick]
    unfold byteOf
    have e2 : ((i : Int) % 2 = 0) ↔ i % 2 = 0 := by omega
    by_cases q : i % 2 = 0
    · rw [if_pos q, if_pos (e2.mpr q)]
    · rw [if_neg q, if_neg (fun z => q (e2.mp z))]
end
end I
set_option Elab.async false
set_option linter.all false
set_option maxRecDepth 100000
set_option maxHeartbeats 4000000
/-! P8: rows that laws build. -/
namespace I
open PySem PySem.Spec PyProof.Rows L2 G
@[simp] theorem atI_3 {α : Type} (a b c d : α) (r : List α) : atI (a :: b :: c :: d :: r) 3 = some d := atI_at (k := 3) rfl
@[simp] theorem atI_4 {α : Type} (a b c d e : α) (r : List α) : atI (a :: b :: c :: d :: e :: r) 4 = some e := atI_at (k := 4) rfl
@[simp] theorem atI_5 {α : Type} (a b c d e f : α) (r : List α) : atI (a :: b :: c :: d :: e :: f :: r) 5 = some f := atI_at (k := 5) rfl
@[simp] theorem atI_6 {α : Type} (a b c d e f g : α) (r : List α) : atI (a :: b :: c :: d :: e :: f :: g :: r) 6 = some g := atI_at (k := 6) rfl
@[simp] theorem atI_7 {α : Type} (a b c d e f g h : α) (r : List α) : atI (a :: b :: c :: d :: e :: f :: g :: h :: r) 7 = some h := atI_at (k := 7) rfl
@[simp] theorem atI_8 {α : Type} (a b c d e f g h i : α) (r : List α) : atI (a :: b :: c :: d :: e :: f :: g :: h :: i :: r) 8 = some i := atI_at (k := 8) rfl
@[simp] theorem atI_9 {α : Type} (a b c d e f g h i j : α) (r : List α) : atI (a :: b :: c :: d :: e :: f :: g :: h :: i :: j :: r) 9 = some j := atI_at (k := 9) rfl
def numOf (s : Int) : Int := if s / 11 % 3 = 0 then s / 7 % 1000000 else if s / 11 % 3 = 1 then s / 7 % 20 else 999999
def tailOf (s : Int) : List Int := match (s / 97 % 8).toNat with
  | 0 => bytesOf (seedOf s 1) 60
  | 4 => bytesOf (seedOf s 1) 60
  | 5 => [1 + s / 13 % 9]
  | 6 => s / 13 % 10 :: bytesOf (seedOf s 1) 60
  | _ => []
def rowOf (s : Int) : Row := ⟨kinds.getD (s / 97 % 8).toNat "", numOf s, tailOf s⟩
theorem pick3 (a b c : D) (i : Int) : atI [a, b, c] (i % 3) = some (if i % 3 = 0 then a else if i % 3 = 1 then b else c) := by
  have h : i % 3 = 0 ∨ i % 3 = 1 ∨ i % 3 = 2 := by omega
  rcases h with h | h | h <;> rw [h] <;> rfl
theorem num_bd (s : Int) : 0 ≤ numOf s ∧ numOf s ≤ 999999 := by
  unfold numOf
  split
  · omega
  · split <;> omega
theorem isBody_of {bs : List Int} (h : ∀ x ∈ bs, 0 ≤ x ∧ x ≤ 255) (hl : bs.length ≤ 60) : isBody (tupI bs) = true := by
  unfold isBody
  rw [areBytes_ints h, Bool.true_and]
  exact decide_eq_true (by simpa using hl)
theorem rowOf_good (s : Int) : (rowOf s).Good := by
  constructor
  have hn := num_bd s
  have hb := isBody_of (bs := bytesOf (seedOf s 1) 60) (fun x hx => bytesOf_bd hx) (by have := bytesOf_len (s := seedOf s 1) (most := 60) (by omega); omega)
  have ha : areBytes (tupI (bytesOf (seedOf s 1) 60)) = true := areBytes_ints fun x hx => bytesOf_bd hx
  have h : s / 97 % 8 = 0 ∨ s / 97 % 8 = 1 ∨ s / 97 % 8 = 2 ∨ s / 97 % 8 = 3 ∨ s / 97 % 8 = 4 ∨ s / 97 % 8 = 5 ∨ s / 97 % 8 = 6 ∨ s / 97 % 8 = 7 := by omega
  have hw : isWithin (.int (numOf s)) 0 999999 = true := by simp [isWithin, hn]
  have e : ∀ (k : Str) (c : List Int), rowOf s = ⟨k, numOf s, c⟩ → decide (k ∈ kinds) = true → areBytes (tupI c) = true → rowTail k (tupI c) = true → isRow (rowD (rowOf s)) = true := fun k c h1 h2 h3 h4 => by
    rw [h1]
    unfold rowD
    rw [isRow_at, h2, hw, h3, h4]
    rfl
  have d9 : ∀ x : Int, 0 ≤ x → x ≤ 255 → areBytes (tupI [x]) = true := fun x h1 h2 => areBytes_ints fun y hy => by
    rw [List.mem_singleton.mp hy]
    exact ⟨h1, h2⟩
  rcases h with h | h | h | h | h | h | h | h
  · exact e "put" _ (by unfold rowOf tailOf; rw [h]; rfl) (by decide) ha hb
  · exact e "out" [] (by unfold rowOf tailOf; rw [h]; rfl) (by decide) rfl (by rfl)
  · exact e "done" [] (by unfold rowOf tailOf; rw [h]; rfl) (by decide) rfl (by rfl)
  · exact e "from" [] (by unfold rowOf tailOf; rw [h]; rfl) (by decide) rfl (by rfl)
  · exact e "part" _ (by unfold rowOf tailOf; rw [h]; rfl) (by decide) ha hb
  · refine e "deal" [1 + s / 13 % 9] (by unfold rowOf tailOf; rw [h]; rfl) (by decide) (d9 _ (by omega) (by omega)) ?_
    show isWithin (.int (1 + s / 13 % 9)) 1 9 = true
    simp [isWithin]
    omega
  · refine e "carried" (s / 13 % 10 :: bytesOf (seedOf s 1) 60) (by unfold rowOf tailOf; rw [h]; rfl) (by decide) (areBytes_ints fun y hy => ?_) ?_
    · rcases List.mem_cons.mp hy with rfl | hy
      · omega
      · exact bytesOf_bd hy
    · show (decide (s / 13 % 10 ≤ 9) && isBody (tupI (bytesOf (seedOf s 1) 60))) = true
      rw [hb, decide_eq_true (by omega)]
      rfl
  · exact e "new" [] (by unfold rowOf tailOf; rw [h]; rfl) (by decide) rfl (by rfl)
section
variable {lt : Nat → Option Fd} {n : Nat} {L : Store}
theorem c_law_row (s : Int) : call (tab lt) (n + 3) f_law_row [.int s] L = .ok (rowD (rowOf s)) L := by
  rw [call_of (fd := d_law_row) rfl rfl]
  have h : s / 97 % 8 = 0 ∨ s / 97 % 8 = 1 ∨ s / 97 % 8 = 2 ∨ s / 97 % 8 = 3 ∨ s / 97 % 8 = 4 ∨ s / 97 % 8 = 5 ∨ s / 97 % 8 = 6 ∨ s / 97 % 8 = 7 := by omega
  have hn : (if s / 11 % 3 = 0 then D.int (s / 7 % 1000000) else if s / 11 % 3 = 1 then D.int (s / 7 % 20) else D.int 999999) = D.int (numOf s) := by
    unfold numOf
    split
    · rfl
    · split <;> rfl
  have hl := bytesOf_len (s := seedOf s 1) (most := 60) (by omega)
  unfold rowD rowOf tailOf
  rcases h with h | h | h | h | h | h | h | h <;>
    simp (disch := first | assumption | (simp; done) | (simp; omega) | omega) [d_law_row, c_law_pick, c_law_seed, c_law_bytes, pickOf, h, op_div, op_mod, pick3, hn, kinds, op_catT]
end
end I
set_option Elab.async false
set_option linter.all false
set_option maxRecDepth 100000
set_option maxHeartbeats 4000000
/-! P9: bytes of rows as laws write them. -/
namespace I
open PySem PySem.Spec PyProof.Rows L2 G
def eF : Nat → List D → List D
  | _, [] => []
  | j, d :: r => .tup [.int (j : Int), d] :: eF (j + 1) r
theorem eF_range : ∀ (j : Nat) (ds : List D), (List.range' j ds.length).zipWith (fun (i : Nat) d => D.tup [.int (i : Int), d]) ds = eF j ds
  | _, [] => rfl
  | j, d :: r => by
    rw [List.length_cons, List.range'_succ, List.zipWith_cons_cons, eF_range (j + 1) r]
    rfl
theorem enum_eF (ds : List D) : enumD ds = eF 0 ds := by
  rw [← eF_range]
  unfold enumD
  rw [List.range_eq_range']
section
variable {lt : Nat → Option Fd} {n : Nat} {L : Store}
def codedBody : Ss := match d_law_coded.body with
  | .cons _ (.cons _ (.cons (.for_ _ _ _ b) _)) => b
  | _ => .nil
theorem coded_loop {Φ : Calls} {a b c d : Option D} : ∀ (xs : List Int) (j : Nat) (acc : Int) (x y : Option D), j + xs.length ≤ 1000 → ∃ x' y', fork Φ [5, 6] true codedBody (fun _ => True) (eF j (xs.map D.int)) [a, b, c, d, some (.int acc), x, y] L = .nx [a, b, c, d, some (.int (acc + (wlist ((j + 1 : Nat) : Int) xs).sum)), x', y'] L
  | [], j, acc, x, y, _ => ⟨x, y, by simp [eF, fork_nil, wlist]⟩
  | z :: zs, j, acc, x, y, h => by
    have hm : opD .mul L (.int ((j : Int) + 1)) (.int z) = some (.int (((j : Int) + 1) * z)) := op_mulL (by simp at h; omega)
    obtain ⟨x', y', ih⟩ := coded_loop (Φ := Φ) (a := a) (b := b) (c := c) (d := d) zs (j + 1) (acc + ((j : Int) + 1) * z) (some (.int (j : Int))) (some (.int z)) (by simp at h; omega)
    refine ⟨x', y', ?_⟩
    rw [List.map_cons, eF, fork_cons (δ1 := [a, b, c, d, some (.int acc), some (.int (j : Int)), some (.int z)]) (δ2 := [a, b, c, d, some (.int (acc + ((j : Int) + 1) * z)), some (.int (j : Int)), some (.int z)]) (L2 := L) (by simp) (by simp [codedBody, d_law_coded, hm]) trivial, ih]
    have e : acc + ((j : Int) + 1) * z + (wlist ((j + 1 + 1 : Nat) : Int) zs).sum = acc + (wlist ((j + 1 : Nat) : Int) (z :: zs)).sum := by
      simp [wlist]
      omega
    rw [e]
def codedOf (k m : Int) (b : List Int) : List Int :=
  [chk1 ([k, m / 65536 % 256, m / 256 % 256, m % 256, b.length] ++ b), chk2 ([k, m / 65536 % 256, m / 256 % 256, m % 256, b.length] ++ b)] ++ ([k, m / 65536 % 256, m / 256 % 256, m % 256, b.length] ++ b)
theorem c_law_coded (k m : Int) (b : List Int) (hb : b.length ≤ 100) : call (tab lt) (n + 1) f_law_coded [.int k, .int m, tupI b] L = .ok (tupI (codedOf k m b)) L := by
  rw [call_of (fd := d_law_coded) rfl rfl]
  have hs : D.tup (D.int k :: D.int (m / 65536 % 256) :: D.int (m / 256 % 256) :: D.int (m % 256) :: D.int b.length :: b.map D.int) = tupI ([k, m / 65536 % 256, m / 256 % 256, m % 256, b.length] ++ b) := rfl
  have hs2 : D.int k :: D.int (m / 65536 % 256) :: D.int (m / 256 % 256) :: D.int (m % 256) :: D.int b.length :: b.map D.int = ([k, m / 65536 % 256, m / 256 % 256, m % 256, b.length] ++ b).map D.int := rfl
  obtain ⟨x', y', hf⟩ := coded_loop (L := L) (Φ := ⟨call (tab lt) n, call (tab lt) (n - 1)⟩) (a := some (.int k)) (b := some (.int m)) (c := some (tupI b)) (d := some (tupI ([k, m / 65536 % 256, m / 256 % 256, m % 256, b.length] ++ b))) ([k, m / 65536 % 256, m / 256 % 256, m % 256, b.length] ++ b) 0 0 none none (by simp; omega)
  unfold codedOf chk1 chk2
  generalize hx : [k, m / 65536 % 256, m / 256 % 256, m % 256, (b.length : Int)] ++ b = xs at *
  have hxl : xs.length ≤ 1000 := by rw [← hx]; simp; omega
  have hxl2 : xs.length + 2 ≤ 16777216 := by omega
  simp only [codedBody, d_law_coded] at hf
  simp (disch := first | assumption | (simp; done) | (simp; omega) | omega) [d_law_coded, op_div, op_mod, op_catT, hs2, enum_eF, hf]
theorem rowB_coded {r : Row} (h : r.Good) : codedOf (kindNo r.k) r.n r.b = rowB r := by
  obtain ⟨_, h2, _, _⟩ := h.all
  have e : r.n / 65536 % 256 = r.n / 65536 := by omega
  unfold codedOf rowB rowHead
  rw [e]
theorem c_law_row_bytes {r : Row} (h : r.Good) : call (tab lt) (n + 2) f_law_row_bytes [rowD r] L = .ok (tupI (rowB r)) (L ++ [.xtup kinds]) := by
  rw [call_of (fd := d_law_row_bytes) rfl rfl]
  have hl := h.len
  have hc := c_law_coded (lt := lt) (n := n) (L := L ++ [.xtup kinds]) (kindNo r.k) r.n r.b (by omega)
  rw [rowB_coded h] at hc
  obtain ⟨h1, _, _, _⟩ := h.all
  have hk : (1 : Int) + (firstAt kinds r.k : Nat) = kindNo r.k := by
    unfold kindNo
    omega
  have hx : (Cell.xtup [Str.ofString "put", Str.ofString "out", Str.ofString "done", Str.ofString "from", Str.ofString "part", Str.ofString "deal", Str.ofString "carried", Str.ofString "new"]) = Cell.xtup kinds := rfl
  simp only [d_law_row_bytes, rowD]
  simp [hx, bmD, h1, hk, hc]
end
end I
set_option Elab.async false
set_option linter.all false
set_option maxRecDepth 100000
set_option maxHeartbeats 4000000
/-! P10: rows read back. -/
namespace I
open PySem PySem.Spec PyProof.Rows L2 G
theorem rowB_cons (r : Row) (t : List Int) : rowB r ++ t = chk1 (rowHead r) :: chk2 (rowHead r) :: kindNo r.k :: r.n / 65536 :: r.n / 256 % 256 :: r.n % 256 :: (r.b.length : Int) :: (r.b ++ t) := by
  simp [rowB, rowHead]
theorem kindNo_at {k : Str} (h : k ∈ kinds) : 1 ≤ kindNo k ∧ kindNo k ≤ 8 ∧ kinds.getD (kindNo k - 1).toNat "" = k := by
  have h1 := firstAt_lt h
  have e : (kindNo k - 1).toNat = firstAt kinds k := by unfold kindNo; omega
  refine ⟨by unfold kindNo; omega, by unfold kindNo; omega, ?_⟩
  rw [e]
  have h2 : firstAt kinds k < kinds.length := h1
  have h3 := List.findIdx_getElem (p := fun x => decide (x = k)) (xs := kinds) (w := h2)
  rw [List.getD_eq_getElem?_getD, List.getElem?_eq_getElem h2]
  exact of_decide_eq_true h3
theorem parse_row {r : Row} (h : r.Good) (t : List Int) : parse (rowB r ++ t) = .row r (7 + r.b.length) := by
  obtain ⟨hk, ⟨n0, n1⟩, _, _⟩ := h.all
  obtain ⟨k1, k2, k3⟩ := kindNo_at hk
  have hh : rowHead r = kindNo r.k :: r.n / 65536 :: r.n / 256 % 256 :: r.n % 256 :: (r.b.length : Int) :: r.b := rfl
  rw [rowB_cons]
  unfold parse
  have e1 : ∀ t : List Int, (r.b ++ t).take r.b.length = r.b := fun t => by simp
  have d2 : ((chk1 (rowHead r) :: chk2 (rowHead r) :: kindNo r.k :: r.n / 65536 :: r.n / 256 % 256 :: r.n % 256 :: (r.b.length : Int) :: (r.b ++ t)).drop 2).take (5 + r.b.length) = rowHead r := by
    rw [hh, Nat.add_comm 5]
    simp [List.take_succ_cons]
  have g6 : ((chk1 (rowHead r) :: chk2 (rowHead r) :: kindNo r.k :: r.n / 65536 :: r.n / 256 % 256 :: r.n % 256 :: (r.b.length : Int) :: (r.b ++ t)).getD 6 0).toNat = r.b.length := rfl
  have hnum : r.n / 65536 * 65536 + r.n / 256 % 256 * 256 + r.n % 256 = r.n := by omega
  rw [if_neg (by simp), g6, if_neg (by simp; omega), d2, if_neg (by
    rintro (q | q)
    · exact q rfl
    · exact q ⟨k1, k2⟩)]
  have er : (⟨kinds.getD ((chk1 (rowHead r) :: chk2 (rowHead r) :: kindNo r.k :: r.n / 65536 :: r.n / 256 % 256 :: r.n % 256 :: (r.b.length : Int) :: (r.b ++ t)).getD 2 0 - 1).toNat "", r.n / 65536 * 65536 + r.n / 256 % 256 * 256 + r.n % 256, (r.b ++ t).take r.b.length⟩ : Row) = r := by
    rw [hnum, e1]
    show (⟨kinds.getD (kindNo r.k - 1).toNat "", r.n, r.b⟩ : Row) = r
    rw [k3]
  show (if isRow (rowD ⟨kinds.getD ((chk1 (rowHead r) :: chk2 (rowHead r) :: kindNo r.k :: r.n / 65536 :: r.n / 256 % 256 :: r.n % 256 :: (r.b.length : Int) :: (r.b ++ t)).getD 2 0 - 1).toNat "", r.n / 65536 * 65536 + r.n / 256 % 256 * 256 + r.n % 256, (r.b ++ t).take r.b.length⟩) = true then PR.row ⟨kinds.getD ((chk1 (rowHead r) :: chk2 (rowHead r) :: kindNo r.k :: r.n / 65536 :: r.n / 256 % 256 :: r.n % 256 :: (r.b.length : Int) :: (r.b ++ t)).getD 2 0 - 1).toNat "", r.n / 65536 * 65536 + r.n / 256 % 256 * 256 + r.n % 256, (r.b ++ t).take r.b.length⟩ (7 + r.b.length) else .broken) = _
  rw [er, if_pos h.is]
theorem parse_part {r : Row} (h : r.Good) {n : Nat} (hn : n < r.b.length + 7) : parse ((rowB r).take n) = .none := by
  unfold parse
  have hl : ((rowB r).take n).length = n := by
    rw [List.length_take, rowB_len]
    omega
  rw [hl]
  by_cases q : n < 7
  · rw [if_pos q]
  · rw [if_neg q]
    have e : ((rowB r).take n).getD 6 0 = r.b.length := by
      rw [List.getD_eq_getElem?_getD, List.getElem?_take_of_lt (by omega)]
      rfl
    rw [e, if_pos (by omega)]
/-- many rows' bytes -/
def rowsB (rs : List Row) : List Int := rs.flatMap rowB
theorem rowsB_nil : rowsB [] = [] := rfl
theorem rowsB_cons (r : Row) (rs : List Row) : rowsB (r :: rs) = rowB r ++ rowsB rs := rfl
theorem rowsB_add (a b : List Row) : rowsB (a ++ b) = rowsB a ++ rowsB b := List.flatMap_append
def lens (rs : List Row) : List (Row × Nat) := rs.map fun r => (r, 7 + r.b.length)
theorem scan_rows : ∀ {rs : List Row} {t : List Int} {f : Nat}, (∀ r ∈ rs, r.Good) → parse t = .none → (rowsB rs).length ≤ f → scan f (rowsB rs ++ t) = some (lens rs, t)
  | [], t, f, _, ht, _ => by
    cases f with
    | zero => rfl
    | succ f =>
      show (match parse t with
        | .none => _
        | .broken => _
        | .row r n => _) = _
      rw [ht]
      rfl
  | r :: rs, t, f, h, ht, hf => by
    have hr := h r List.mem_cons_self
    rw [rowsB_cons, List.length_append, rowB_len] at hf
    cases f with
    | zero => omega
    | succ f =>
      rw [rowsB_cons, List.append_assoc]
      unfold scan
      rw [parse_row hr]
      have hd : (rowB r ++ (rowsB rs ++ t)).drop (7 + r.b.length) = rowsB rs ++ t := by
        rw [Nat.add_comm, ← rowB_len, List.drop_left]
      show ((scan f ((rowB r ++ (rowsB rs ++ t)).drop (7 + r.b.length))).map fun q => ((r, 7 + r.b.length) :: q.1, q.2)) = _
      rw [hd, scan_rows (fun x hx => h x (List.mem_cons_of_mem _ hx)) ht (by omega)]
      rfl
theorem parse_nil' : parse [] = .none := rfl
theorem chk_bd (l : List Int) : (0 ≤ chk1 l ∧ chk1 l ≤ 255) ∧ 0 ≤ chk2 l ∧ chk2 l ≤ 255 := by
  unfold chk1 chk2
  omega
theorem rowB_bd {r : Row} (h : r.Good) : ∀ x ∈ rowB r, 0 ≤ x ∧ x ≤ 255 := by
  obtain ⟨hk, ⟨n0, n1⟩, hb, _⟩ := h.all
  obtain ⟨k1, k2, _⟩ := kindNo_at hk
  have hl := h.len
  have hc := chk_bd (rowHead r)
  intro x hx
  have e : rowB r = rowB r ++ [] := (List.append_nil _).symm
  rw [e, rowB_cons] at hx
  simp only [List.mem_cons, List.append_nil] at hx
  rcases hx with rfl | rfl | rfl | rfl | rfl | rfl | rfl | hx
  · exact hc.1
  · exact hc.2
  · omega
  · omega
  · omega
  · omega
  · omega
  · exact hb x hx
theorem rowsB_bd {rs : List Row} (h : ∀ r ∈ rs, r.Good) : ∀ x ∈ rowsB rs, 0 ≤ x ∧ x ≤ 255 := fun x hx => by
  obtain ⟨r, hr, hx⟩ := List.mem_flatMap.mp hx
  exact rowB_bd (h r hr) x hx
theorem rowsB_len {rs : List Row} (h : ∀ r ∈ rs, r.Good) : (rowsB rs).length ≤ 68 * rs.length := by
  induction rs with
  | nil => simp [rowsB]
  | cons r rs ih =>
    rw [rowsB_cons, List.length_append, rowB_len, List.length_cons]
    have := ih fun x hx => h x (List.mem_cons_of_mem _ hx)
    have := (h r List.mem_cons_self).len
    omega
theorem lens_fst (rs : List Row) : rowsL (lens rs) = .lst (rs.map rowD) := by
  simp [rowsL, lens]
section
variable {lt : Nat → Option Fd} {n : Nat} {L : Store}
/-- rows read that were written -/
theorem c_rows_in_rows {rs : List Row} {t : List Int} (h : ∀ r ∈ rs, r.Good) (ht : parse t = .none) (htb : ∀ x ∈ t, 0 ≤ x ∧ x ≤ 255) (hl : rs.length ≤ 1000) (htl : t.length ≤ 1000) : ∃ c, call (tab lt) (n + 7) f_rows_in [tupI (rowsB rs ++ t)] L = .ok (.tup [.lst (rs.map rowD), .int t.length]) (L ++ [c]) := by
  have hlen := rowsB_len h
  have i := c_rows_in (lt := lt) (n := n) (L := L) (bs := rowsB rs ++ t) (fun x hx => by
    rcases List.mem_append.mp hx with hx | hx
    · exact rowsB_bd h x hx
    · exact htb x hx) (by rw [List.length_append]; omega)
  rw [scan_rows h ht (by rw [List.length_append]; omega)] at i
  have i : call (tab lt) (n + 7) f_rows_in [tupI (rowsB rs ++ t)] L = .ok (.tup [rowsL (lens rs), .int t.length]) _ := i
  rw [lens_fst] at i
  exact ⟨_, i⟩
theorem strOk_kind {k : Str} (h : k ∈ kinds) : PyData.strOk k = true := by
  simp only [kinds, List.mem_cons, List.not_mem_nil, or_false] at h
  rcases h with rfl | rfl | rfl | rfl | rfl | rfl | rfl | rfl <;> exact strOk_ofS _
theorem lay_intsN (n : Nat) (ns : List Int) : lay (n + 1) (tupI ns) = true := by
  show (ns.map D.int).all (lay n) = true
  rw [List.all_eq_true]
  intro x hx
  obtain ⟨i, _, rfl⟩ := List.mem_map.mp hx
  cases n <;> rfl
theorem lay_row {r : Row} (n : Nat) (h : r.k ∈ kinds) : lay (n + 2) (rowD r) = true := by
  show ((match n + 1 with
    | _ => lay (n + 1) (.str r.k)) && (lay (n + 1) (.int r.n) && (lay (n + 1) (tupI r.b) && true))) = true
  rw [lay_intsN]
  show (PyData.strOk r.k && true) = true
  rw [strOk_kind h]
  rfl
theorem eqvL_self : ∀ {ds : List D}, (∀ d ∈ ds, eqvD d d = true) → eqvL ds ds = true
  | [], _ => by simp [eqvL]
  | d :: ds, h => by
    simp only [eqvL]
    rw [h d List.mem_cons_self, eqvL_self fun x hx => h x (List.mem_cons_of_mem _ hx)]
    rfl
theorem eqvD_self : ∀ {n : Nat} {d : D}, lay n d = true → eqvD d d = true
  | n, .non, _ => by simp [eqvD]
  | n, .bl _, _ => by simp [eqvD]
  | n, .int _, _ => by simp [eqvD]
  | n, .str _, _ => by simp [eqvD]
  | n + 1, .tup ds, h => by
    simp only [eqvD]
    exact eqvL_self fun d hd => eqvD_self (List.all_eq_true.mp (show ds.all (lay n) = true from h) d hd)
  | n + 1, .lst ds, h => by
    simp only [eqvD]
    exact eqvL_self fun d hd => eqvD_self (List.all_eq_true.mp (show ds.all (lay n) = true from h) d hd)
  | n, .ref _, h => by cases n <;> cases h
  | n, .scr _, h => by cases n <;> cases h
theorem eqR_self {x : D} (h : lay 40 x = true) : eqR L x x = some true := by
  show (if _ then _ else _) = _
  rw [if_pos ⟨h, h⟩, eqvD_self h]
theorem lay_rows {rs : List Row} (n : Nat) (h : ∀ r ∈ rs, r.Good) : lay (n + 3) (.lst (rs.map rowD)) = true := by
  show (rs.map rowD).all (lay (n + 2)) = true
  rw [List.all_eq_true]
  intro x hx
  obtain ⟨r, hr, rfl⟩ := List.mem_map.mp hx
  exact lay_row n (h r hr).all.1
theorem eqR_rows {rs : List Row} {m : Int} (h : ∀ r ∈ rs, r.Good) : eqR L (.tup [.lst (rs.map rowD), .int m]) (.tup [.lst (rs.map rowD), .int m]) = some true := by
  refine eqR_self ?_
  show (lay 39 (.lst (rs.map rowD)) && (lay 39 (.int m) && true)) = true
  rw [lay_rows 36 h]
  rfl
end
end I
set_option Elab.async false
set_option linter.all false
set_option maxRecDepth 100000
set_option maxHeartbeats 4000000
/-! P11: cuts; how far rows go. -/
namespace I
open PySem PySem.Spec PyProof.Rows L2 G
/-- it ends with True -/
def yes (r : R D) : Prop := ∃ L', r = .ok (.bl true) L'
@[simp] theorem yes_ok (b : Bool) (L : Store) : yes (.ok (.bl b) L) ↔ b = true :=
  ⟨fun h => by
    obtain ⟨_, h⟩ := h
    injection h with h _
    injection h, fun h => ⟨L, by rw [h]⟩⟩
theorem list_tup {L : Store} (ds : List D) : biD .list [.tup ds] L = .ok (.lst ds) L := rfl
theorem cutD_to {bs : List Int} {j : Int} (hj : 0 ≤ j) (h : j ≤ bs.length) : G.cutD (bs.map D.int) none (some j) = (bs.take j.toNat).map D.int := by
  have e : G.cutD (bs.map D.int) none (some j) = G.cutD (bs.map D.int) (some 0) (some j) := by
    unfold G.cutD
    rw [sIx_nat (i := 0) (by omega) (by omega)]
    rfl
  rw [e, sl_ints (by omega) hj (by omega) h]
  simp
theorem cat_ints {L : Store} {a b : List Int} (h : a.length + b.length ≤ 16777216) : opD .add L (tupI a) (tupI b) = some (tupI (a ++ b)) := by
  rw [op_catT (by simpa using h)]
  simp [tupI]
theorem sIx_none {n d : Nat} : HT.sIx n d none = d := rfl
theorem cutD_upto {ds : List D} {j : Int} (hj : 0 ≤ j) (h : j ≤ ds.length) : G.cutD ds none (some j) = ds.take j.toNat := by
  unfold G.cutD
  rw [sIx_nat hj h]
  simp [sIx_none]
theorem cutD_from {ds : List D} {j : Int} (hj : 0 ≤ j) (h : j ≤ ds.length) : G.cutD ds (some j) none = ds.drop j.toNat := by
  unfold G.cutD
  rw [sIx_nat hj h, sIx_none, ← List.length_drop, List.take_length]
/-- how many rows are whole in so many bytes, and what is left -/
def cutR : List Row → Nat → Nat × Nat
  | [], a => (0, a)
  | r :: rs, a => if a < (rowB r).length then (0, a) else ((cutR rs (a - (rowB r).length)).1 + 1, (cutR rs (a - (rowB r).length)).2)
def endsF : Nat → List Row → List Int
  | _, [] => []
  | b, r :: rs => ((b + (rowB r).length : Nat) : Int) :: endsF (b + (rowB r).length) rs
theorem cutR_le : ∀ (rs : List Row) (a : Nat), (cutR rs a).1 ≤ rs.length
  | [], _ => Nat.le_refl _
  | r :: rs, a => by
    unfold cutR
    split
    · exact Nat.zero_le _
    · exact Nat.succ_le_succ (cutR_le rs _)
theorem cutR_sum : ∀ (rs : List Row) (a : Nat), (rowsB (rs.take (cutR rs a).1)).length + (cutR rs a).2 = a
  | [], a => by simp [cutR, rowsB]
  | r :: rs, a => by
    unfold cutR
    split
    · simp [rowsB]
    · rename_i h
      have := cutR_sum rs (a - (rowB r).length)
      rw [List.take_succ_cons, rowsB_cons, List.length_append]
      omega
theorem cutR_parse : ∀ {rs : List Row} {a : Nat}, (∀ r ∈ rs, r.Good) → a ≤ (rowsB rs).length → parse ((rowsB (rs.drop (cutR rs a).1)).take (cutR rs a).2) = .none
  | [], a, _, _ => by
    have e : (rowsB (([] : List Row).drop (cutR [] a).1)).take (cutR [] a).2 = [] := by simp [rowsB]
    rw [e]
    rfl
  | r :: rs, a, hg, h => by
    unfold cutR
    split
    · rename_i hlt
      rw [List.drop_zero, rowsB_cons, List.take_append_of_le_length (by omega)]
      exact parse_part (hg r List.mem_cons_self) (by rw [rowB_len] at hlt; exact hlt)
    · rename_i hlt
      rw [List.drop_succ_cons]
      rw [rowsB_cons, List.length_append] at h
      exact cutR_parse (fun x hx => hg x (List.mem_cons_of_mem _ hx)) (by omega)
theorem endsF_len : ∀ (b : Nat) (rs : List Row), (endsF b rs).length = rs.length
  | _, [] => rfl
  | b, r :: rs => congrArg Nat.succ (endsF_len (b + (rowB r).length) rs)
theorem endsF_ge : ∀ {b : Nat} {rs : List Row} {x : Int}, x ∈ endsF b rs → (b : Int) + 7 ≤ x
  | _, [], _, h => by cases h
  | b, r :: rs, x, h => by
    have hr : 7 ≤ (rowB r).length := by rw [rowB_len]; omega
    rcases List.mem_cons.mp h with rfl | h
    · omega
    · have := endsF_ge h
      omega
theorem endsF_count : ∀ (rs : List Row) (b a : Nat), ((endsF b rs).filter fun x => decide (x ≤ ((b + a : Nat) : Int))).length = (cutR rs a).1
  | [], _, _ => rfl
  | r :: rs, b, a => by
    unfold cutR endsF
    split
    · rename_i h
      rw [List.filter_cons_of_neg (by simp; omega)]
      have e : (endsF (b + (rowB r).length) rs).filter (fun x => decide (x ≤ ((b + a : Nat) : Int))) = [] := by
        rw [List.filter_eq_nil_iff]
        intro x hx
        have := endsF_ge hx
        simp
        omega
      rw [e]
      rfl
    · rename_i h
      rw [List.filter_cons_of_pos (by simp; omega), List.length_cons]
      have := endsF_count rs (b + (rowB r).length) (a - (rowB r).length)
      have e : b + (rowB r).length + (a - (rowB r).length) = b + a := by omega
      rw [e] at this
      rw [this]
theorem endsF_at : ∀ {rs : List Row} {b k : Nat}, k < rs.length → (endsF b rs)[k]? = some ((b + (rowsB (rs.take (k + 1))).length : Nat) : Int)
  | [], _, _, h => by cases h
  | r :: rs, b, 0, _ => by simp [endsF, rowsB]
  | r :: rs, b, k + 1, h => by
    have := endsF_at (rs := rs) (b := b + (rowB r).length) (k := k) (by simpa using h)
    rw [endsF, List.getElem?_cons_succ, this, List.take_succ_cons, rowsB_cons, List.length_append]
    congr 2
    omega
theorem rowsB_take (rs : List Row) (k : Nat) : rowsB rs = rowsB (rs.take k) ++ rowsB (rs.drop k) := by rw [← rowsB_add, List.take_append_drop]
end I
set_option Elab.async false
set_option linter.all false
set_option maxRecDepth 100000
set_option maxHeartbeats 4000000
/-! P12: bytes that are broken. -/
namespace I
open PySem PySem.Spec PyProof.Rows L2 G
theorem sum_set : ∀ {l : List Int} {q : Nat} {o : Int}, q < l.length → (l.set q o).sum = l.sum - l.getD q 0 + o
  | [], _, _, h => by cases h
  | x :: l, 0, o, _ => by simp; omega
  | x :: l, q + 1, o, h => by
    rw [List.set_cons_succ, List.sum_cons, List.sum_cons, sum_set (by simpa using h), List.getD_cons_succ]
    omega
theorem rowB_split (r : Row) : rowB r = chk1 (rowHead r) :: chk2 (rowHead r) :: rowHead r := rfl
theorem rowHead_len (r : Row) : (rowHead r).length = 5 + r.b.length := by simp [rowHead]; omega
theorem parse_bad {s : List Int} {m : Nat} (h1 : (s.getD 6 0).toNat = m) (h2 : 7 + m ≤ s.length) (h3 : ¬ ([chk1 ((s.drop 2).take (5 + m)), chk2 ((s.drop 2).take (5 + m))] = s.take 2) ∨ ¬ (1 ≤ s.getD 2 0 ∧ s.getD 2 0 ≤ 8)) : parse s = .broken := by
  unfold parse
  rw [h1, if_neg (by omega), if_neg (by omega), if_pos h3]
theorem parse_chg {r : Row} (h : r.Good) {p : Nat} {o : Int} (hp : p < r.b.length + 7) (h6 : p ≠ 6) (ho : o ≠ (rowB r).getD p 0) (hb : 0 ≤ o ∧ o ≤ 255) (t : List Int) : parse ((rowB r).set p o ++ t) = .broken := by
  have hl : ((rowB r).set p o).length = r.b.length + 7 := by rw [List.length_set, rowB_len]
  have g6 : ((((rowB r).set p o) ++ t).getD 6 0).toNat = r.b.length := by
    rw [List.getD_eq_getElem?_getD, List.getElem?_append_left (by omega), List.getElem?_set_ne h6]
    rfl
  refine parse_bad g6 (by rw [List.length_append]; omega) (.inl fun e => ?_)
  match p, hp, h6, ho, e with
  | 0, hp, h6, ho, e =>
    rw [rowB_split] at e ho
    have e2 : ((((chk1 (rowHead r) :: chk2 (rowHead r) :: rowHead r).set 0 o) ++ t).drop 2).take (5 + r.b.length) = rowHead r := by
      rw [← rowHead_len]
      exact List.take_left
    rw [e2] at e
    have e3 : [chk1 (rowHead r), chk2 (rowHead r)] = [o, chk2 (rowHead r)] := e
    injection e3 with e4 _
    exact ho e4.symm
  | 1, hp, h6, ho, e =>
    rw [rowB_split] at e ho
    have e2 : ((((chk1 (rowHead r) :: chk2 (rowHead r) :: rowHead r).set 1 o) ++ t).drop 2).take (5 + r.b.length) = rowHead r := by
      rw [← rowHead_len]
      exact List.take_left
    rw [e2] at e
    have e3 : [chk1 (rowHead r), chk2 (rowHead r)] = [chk1 (rowHead r), o] := e
    injection e3 with _ e4
    injection e4 with e5 _
    exact ho e5.symm
  | q + 2, hp, h6, ho, e =>
    rw [rowB_split] at e ho
    have hq : q < (rowHead r).length := by rw [rowHead_len]; omega
    have e2 : ((((chk1 (rowHead r) :: chk2 (rowHead r) :: rowHead r).set (q + 2) o) ++ t).drop 2).take (5 + r.b.length) = (rowHead r).set q o := by
      have : ((rowHead r).set q o).length = 5 + r.b.length := by rw [List.length_set, rowHead_len]
      rw [← this]
      exact List.take_left
    rw [e2] at e
    have e3 : [chk1 ((rowHead r).set q o), chk2 ((rowHead r).set q o)] = [chk1 (rowHead r), chk2 (rowHead r)] := e
    injection e3 with e4 _
    unfold chk1 at e4
    rw [sum_set hq] at e4
    have hx : (rowHead r).getD q 0 = (rowB r).getD (q + 2) 0 := rfl
    have hxb : 0 ≤ (rowB r).getD (q + 2) 0 ∧ (rowB r).getD (q + 2) 0 ≤ 255 := by
      rw [List.getD_eq_getElem?_getD]
      cases z : (rowB r)[q + 2]? with
      | none => simp
      | some x => exact rowB_bd h x (List.mem_of_getElem? z)
    have ho2 : o ≠ (rowB r).getD (q + 2) 0 := ho
    rw [hx] at e4
    omega
theorem codedOf_cons (k m : Int) (b t : List Int) : codedOf k m b ++ t = chk1 ([k, m / 65536 % 256, m / 256 % 256, m % 256, b.length] ++ b) :: chk2 ([k, m / 65536 % 256, m / 256 % 256, m % 256, b.length] ++ b) :: k :: m / 65536 % 256 :: m / 256 % 256 :: m % 256 :: (b.length : Int) :: (b ++ t) := by
  simp [codedOf]
theorem parse_coded_bad {k m : Int} {b : List Int} (hm : 0 ≤ m ∧ m < 16777216) (h : ¬ (1 ≤ k ∧ k ≤ 8) ∨ isRow (rowD ⟨kinds.getD (k - 1).toNat "", m, b⟩) = false) (t : List Int) : parse (codedOf k m b ++ t) = .broken := by
  rw [codedOf_cons]
  generalize hh : [k, m / 65536 % 256, m / 256 % 256, m % 256, (b.length : Int)] ++ b = hd
  have d2 : ((chk1 hd :: chk2 hd :: k :: m / 65536 % 256 :: m / 256 % 256 :: m % 256 :: (b.length : Int) :: (b ++ t)).drop 2).take (5 + b.length) = hd := by
    rw [← hh, Nat.add_comm 5]
    simp [List.take_succ_cons]
  by_cases q : 1 ≤ k ∧ k ≤ 8
  · rcases h with h | h
    · exact absurd q h
    · have e1 : (b ++ t).take b.length = b := by simp
      have hnum : m / 65536 % 256 * 65536 + m / 256 % 256 * 256 + m % 256 = m := by omega
      have g6 : ((chk1 hd :: chk2 hd :: k :: m / 65536 % 256 :: m / 256 % 256 :: m % 256 :: (b.length : Int) :: (b ++ t)).getD 6 0).toNat = b.length := rfl
      unfold parse
      rw [if_neg (by simp), g6, if_neg (by simp; omega), d2, if_neg (by
        rintro (z | z)
        · exact z rfl
        · exact z q)]
      refine if_neg ?_
      show ¬ isRow (rowD ⟨kinds.getD (k - 1).toNat "", m / 65536 % 256 * 65536 + m / 256 % 256 * 256 + m % 256, (b ++ t).take b.length⟩) = true
      rw [hnum, e1, h]
      exact nofun
  · refine parse_bad (m := b.length) rfl (by simp; omega) (.inr q)
theorem scan_bad {t : List Int} {f : Nat} (h : parse t = .broken) (hf : 0 < f) : scan f t = none := by
  cases f with
  | zero => omega
  | succ f =>
    unfold scan
    rw [h]
theorem scan_step {r : Row} (h : r.Good) {t : List Int} {f : Nat} (hs : scan f t = none) : scan (f + 1) (rowB r ++ t) = none := by
  unfold scan
  rw [parse_row h]
  have hd : (rowB r ++ t).drop (7 + r.b.length) = t := by rw [Nat.add_comm, ← rowB_len, List.drop_left]
  show ((scan f ((rowB r ++ t).drop (7 + r.b.length))).map _) = none
  rw [hd, hs]
  rfl
/-- fuel beyond is of no weight -/
theorem scan_more : ∀ {f : Nat} {s : List Int}, s.length ≤ f → scan f s = scan s.length s := by
  have key : ∀ (n f g : Nat) (s : List Int), s.length ≤ n → s.length ≤ f → s.length ≤ g → scan f s = scan g s := by
    intro n
    induction n with
    | zero =>
      intro f g s h _ _
      have e : s = [] := List.length_eq_zero_iff.mp (by omega)
      subst e
      cases f <;> cases g <;> rfl
    | succ n ih =>
      intro f g s h hf hg
      cases f with
      | zero =>
        have e : s = [] := List.length_eq_zero_iff.mp (by omega)
        subst e
        cases g <;> rfl
      | succ f =>
        cases g with
        | zero =>
          have e : s = [] := List.length_eq_zero_iff.mp (by omega)
          subst e
          rfl
        | succ g =>
          unfold scan
          cases hp : parse s with
          | none => rfl
          | broken => rfl
          | row r m =>
            have ⟨h7, hm⟩ := parse_len hp
            show (scan f (s.drop m)).map _ = (scan g (s.drop m)).map _
            rw [ih f g (s.drop m) (by rw [List.length_drop]; omega) (by rw [List.length_drop]; omega) (by rw [List.length_drop]; omega)]
  intro f s h
  exact key s.length f s.length s (Nat.le_refl _) h (Nat.le_refl _)
section
variable {lt : Nat → Option Fd} {n : Nat} {L : Store}
theorem c_rows_in_broken {bs : List Int} (hb : ∀ x ∈ bs, 0 ≤ x ∧ x ≤ 255) (hl : bs.length ≤ 16000000) (h : scan bs.length bs = none) : ∃ c, call (tab lt) (n + 7) f_rows_in [tupI bs] L = .ex "Broken" (L ++ [c]) := by
  have i := c_rows_in (lt := lt) (n := n) (L := L) hb hl
  rw [h] at i
  exact i
end
end I
set_option Elab.async false
set_option linter.all false
set_option maxRecDepth 100000
set_option maxHeartbeats 4000000
/-! P13: what rows make. -/
namespace I
open PySem PySem.Spec PyProof.Rows L2 G
abbrev Letter := List Int × Int
abbrev Mail := List (Int × Letter)
def letD (v : Letter) : D := .tup [tupI v.1, .int v.2]
def mapA {α : Type} (f : α → D) (m : List (Int × α)) : List (Key × D) := m.map fun p => (.inl p.1, f p.2)
abbrev mailD (m : Mail) : List (Key × D) := mapA letD m
def partD (p : Int × List Int) : D := .tup [.int p.1, tupI p.2]
theorem mapA_len {α : Type} (f : α → D) (m : List (Int × α)) : (mapA f m).length = m.length := by simp [mapA]
theorem mapA_lk {α : Type} (f : α → D) (n : Int) : ∀ m : List (Int × α), lkA (Sum.inl n : Key) (mapA f m) = (lkA n m).map f
  | [] => rfl
  | (a, x) :: r => by
    show (if (Sum.inl a : Key) = Sum.inl n then some (f x) else lkA (Sum.inl n : Key) (mapA f r)) = _
    rw [mapA_lk f n r, show lkA n ((a, x) :: r) = if a = n then some x else lkA n r from rfl]
    by_cases h : a = n
    · rw [if_pos (by rw [h]), if_pos h]
      rfl
    · rw [if_neg (by intro q; injection q with q; exact h q), if_neg h]
theorem mapA_any {α : Type} (f : α → D) (n : Int) : ∀ m : List (Int × α), ((mapA f m).any fun p => decide (p.1 = (Sum.inl n : Key))) = m.any fun p => decide (p.1 = n)
  | [] => rfl
  | (a, x) :: r => by
    show (decide ((Sum.inl a : Key) = Sum.inl n) || (mapA f r).any _) = (decide (a = n) || _)
    rw [mapA_any f n r]
    congr 1
    simp
theorem mapA_put {α : Type} (f : α → D) (n : Int) (v : α) (m : List (Int × α)) : putA (Sum.inl n : Key) (f v) (mapA f m) = mapA f (putA n v m) := by
  unfold putA
  rw [mapA_any]
  by_cases h : (m.any fun p => decide (p.1 = n)) = true
  · rw [if_pos h, if_pos h]
    unfold mapA
    rw [List.map_map, List.map_map]
    refine List.map_congr_left fun p _ => ?_
    show (if (Sum.inl p.1 : Key) = Sum.inl n then _ else _) = _
    by_cases q : p.1 = n
    · rw [if_pos (by rw [q])]
      simp [q]
    · rw [if_neg (by intro z; injection z with z; exact q z)]
      simp [q]
  · rw [if_neg h, if_neg h]
    simp [mapA]
theorem mapA_del {α : Type} (f : α → D) (n : Int) (m : List (Int × α)) : delA (Sum.inl n : Key) (mapA f m) = mapA f (delA n m) := by
  unfold delA mapA
  rw [List.filter_map]
  congr 1
  refine List.filter_congr fun p _ => ?_
  simp
structure St where
  mail : Mail
  after : Int
  parts : List (Int × List Int)
def St.put (s : St) (n : Int) (b : List Int) : Option St := if n < s.after then none else some ⟨putA n (b, 0) s.mail, n + 1, s.parts⟩
def St.puts : List (Int × List Int) → St → Option St
  | [], s => some s
  | p :: r, s => (s.put p.1 p.2).bind (St.puts r)
def St.deal (s : St) (first many : Int) : Option St :=
  if s.parts.map (·.1) = (List.range many.toNat).map (fun i : Nat => first + (i : Int)) then (St.puts s.parts s).map fun t => ⟨t.mail, t.after, []⟩ else none
def St.carry (s : St) (n : Int) (b : List Int) : St := ⟨putA n (b.drop 1, b.headD 0) s.mail, max s.after (n + 1), s.parts⟩
def St.about (s : St) (k : Str) (n : Int) : St := match lkA n s.mail with
  | none => s
  | some v => if k = "out" then ⟨putA n (v.1, v.2 + 1) s.mail, s.after, s.parts⟩
    else if k = "new" then ⟨putA n (v.1, 0) s.mail, s.after, s.parts⟩
    else if k = "done" then ⟨delA n s.mail, s.after, s.parts⟩
    else s
def St.change (s : St) (k : Str) (n : Int) (b : List Int) : St := if k = "carried" then s.carry n b else s.about k n
def St.follow (s : St) (r : Row) : Option St :=
  if r.k = "part" then some ⟨s.mail, s.after, s.parts ++ [(r.n, r.b)]⟩
  else if r.k = "deal" then s.deal r.n (r.b.headD 0)
  else if s.parts ≠ [] then none
  else if r.k = "put" then s.put r.n r.b
  else if r.k = "from" then some ⟨s.mail, max s.after r.n, s.parts⟩
  else some (s.change r.k r.n r.b)
def St.all : List Row → St → Option St
  | [], s => some s
  | r :: q, s => (s.follow r).bind (St.all q)
def St.new : St := ⟨[], 0, []⟩
/-! ### sizes -/
theorem putA_len {κ α : Type} [DecidableEq κ] (k : κ) (v : α) (l : List (κ × α)) : (putA k v l).length ≤ l.length + 1 := by
  unfold putA
  split
  · simp
  · simp
theorem delA_len {κ α : Type} [DecidableEq κ] (k : κ) (l : List (κ × α)) : (delA k l).length ≤ l.length := by
  unfold delA
  exact List.length_filter_le _ _
/-! ### in the store -/
def stFs (m p : Nat) (a : Int) : List (Str × D) := [("mail", .ref m), ("after", .int a), ("parts", .ref p)]
structure SRep (L : Store) (k m p : Nat) (s : St) : Prop where
  ins : L[k]? = some (.ins "State" (stFs m p s.after))
  mail : L[m]? = some (.dict (mailD s.mail))
  parts : L[p]? = some (.list (s.parts.map partD))
theorem SRep.ne {L : Store} {k m p : Nat} {s : St} (h : SRep L k m p s) : k ≠ m ∧ k ≠ p ∧ m ≠ p := by
  refine ⟨fun e => ?_, fun e => ?_, fun e => ?_⟩
  · have := h.ins; rw [e, h.mail] at this; cases this
  · have := h.ins; rw [e, h.parts] at this; cases this
  · have := h.mail; rw [e, h.parts] at this; cases this
/-- what else is there stays -/
structure Keep (k m p : Nat) (L L' : Store) : Prop where
  len : L.length ≤ L'.length
  at_ : ∀ i c, i ≠ k → i ≠ m → i ≠ p → L[i]? = some c → L'[i]? = some c
theorem Keep.refl {k m p : Nat} {L : Store} : Keep k m p L L := ⟨Nat.le_refl _, fun _ _ _ _ _ h => h⟩
section
variable {lt : Nat → Option Fd} {n : Nat} {L : Store}
theorem get_set {α : Type} {L : List α} {i j : Nat} {c a : α} (h : L[j]? = some a) : (L.set i c)[j]? = if i = j then some c else some a := by
  rw [List.getElem?_set]
  have := (List.getElem?_eq_some_iff.mp h).1
  split
  · rename_i e
    subst e
    rw [if_pos this]
  · exact h
theorem c_St_put {k m p : Nat} {s : St} {x : Int} {b : List Int} (h : SRep L k m p s) (hl : s.mail.length ≤ 1000000) : match s.put x b with
    | some s' => call (tab lt) (n + 1) f_State_put [.ref k, .int x, tupI b] L = .ok .non ((L.set m (.dict (mailD s'.mail))).set k (.ins "State" (stFs m p s'.after)))
    | none => call (tab lt) (n + 1) f_State_put [.ref k, .int x, tupI b] L = .ex "Broken" L := by
  have hne := h.ne
  have h1 := h.ins
  have h2 := h.mail
  unfold stFs at h1
  rw [call_of (fd := d_State_put) rfl rfl]
  unfold St.put
  by_cases q : x < s.after
  · rw [if_pos q]
    simp [d_State_put, h1, q, List.lookup]
  · rw [if_neg q]
    have hs : (mailD s.mail).length < 16777216 := by rw [mapA_len]; omega
    have hk : k < L.length := (List.getElem?_eq_some_iff.mp h1).1
    have hp : putA (Sum.inl x : Key) (D.tup [tupI b, D.int 0]) (mailD s.mail) = mailD (putA x (b, 0) s.mail) := mapA_put letD x (b, 0) s.mail
    have g1 : ∀ c, (L.set m c)[k]? = some (.ins "State" [("mail", .ref m), ("after", .int s.after), ("parts", .ref p)]) := fun c => by
      rw [List.getElem?_set_ne (fun e => hne.1 e.symm)]
      exact h1
    simp [d_State_put, h1, h2, q, List.lookup, hs, hp, g1, fldA, stFs]
theorem SRep.upd {k m p : Nat} {s : St} (h : SRep L k m p s) (ml : Mail) (a : Int) : SRep ((L.set m (.dict (mailD ml))).set k (.ins "State" (stFs m p a))) k m p ⟨ml, a, s.parts⟩ ∧ Keep k m p L ((L.set m (.dict (mailD ml))).set k (.ins "State" (stFs m p a))) := by
  have ⟨n1, n2, n3⟩ := h.ne
  have hk := (List.getElem?_eq_some_iff.mp h.ins).1
  have hm := (List.getElem?_eq_some_iff.mp h.mail).1
  refine ⟨⟨?_, ?_, ?_⟩, ⟨by simp, fun i c h1 h2 h3 hc => ?_⟩⟩
  · rw [List.getElem?_set_self (by simpa using hk)]
  · rw [List.getElem?_set_ne n1, List.getElem?_set_self hm]
  · rw [List.getElem?_set_ne n2, List.getElem?_set_ne n3]
    exact h.parts
  · rw [List.getElem?_set_ne (Ne.symm h1), List.getElem?_set_ne (Ne.symm h2)]
    exact hc
theorem Keep.trans {k m p : Nat} {L L1 L2 : Store} (h : Keep k m p L L1) (h2 : Keep k m p L1 L2) : Keep k m p L L2 := ⟨Nat.le_trans h.len h2.len, fun i c a b d e => h2.at_ i c a b d (h.at_ i c a b d e)⟩
/-- what a method of a state gives -/
def StOk (k m p : Nat) (L : Store) (r : R D) (s : St) : Prop := ∃ L' p', r = .ok .non L' ∧ SRep L' k m p' s ∧ (p' = p ∨ L.length ≤ p') ∧ Keep k m p L L'
def StEx (k m p : Nat) (L : Store) (r : R D) : Prop := ∃ L', r = .ex "Broken" L' ∧ Keep k m p L L'
theorem c_St_put2 {k m p : Nat} {s : St} {x : Int} {b : List Int} (h : SRep L k m p s) (hl : s.mail.length ≤ 1000000) : match s.put x b with
    | some s' => ∃ L', call (tab lt) (n + 1) f_State_put [.ref k, .int x, tupI b] L = .ok .non L' ∧ SRep L' k m p s' ∧ Keep k m p L L'
    | none => call (tab lt) (n + 1) f_State_put [.ref k, .int x, tupI b] L = .ex "Broken" L := by
  have c := c_St_put (lt := lt) (n := n) (x := x) (b := b) h hl
  cases q : s.put x b with
  | none => rw [q] at c; exact c
  | some s' =>
    rw [q] at c
    have e : s'.parts = s.parts := by
      unfold St.put at q
      split at q
      · cases q
      · cases q
        rfl
    have u := h.upd s'.mail s'.after
    rw [← e] at u
    exact ⟨_, c, u.1, u.2⟩
theorem lay_lints (ns : List Int) : lay 40 (.lst (ns.map D.int)) = true := by
  show (ns.map D.int).all (lay 39) = true
  rw [List.all_eq_true]
  intro x hx
  obtain ⟨i, _, rfl⟩ := List.mem_map.mp hx
  rfl
theorem eqR_lints (ns ms : List Int) : eqR L (.lst (ns.map D.int)) (.lst (ms.map D.int)) = some (decide (ns = ms)) := by
  show (if _ then _ else _) = _
  rw [if_pos ⟨lay_lints ns, lay_lints ms⟩]
  simp only [eqvD, eqvL_ints]
theorem rngD_ints (i : Int) (n : Nat) : rngD i n = ((List.range n).map fun j : Nat => i + (j : Int)).map D.int := by
  simp [rngD]
def dealBody : Ss := match d_State_deal.body with
  | .cons _ (.cons (.for_ _ _ _ b) _) => b
  | _ => .nil
theorem deal_loop {k m p : Nat} {o1 o2 : Option D} {qs : List (Int × List Int)} : ∀ (ps : List (Int × List Int)) (s : St) (L : Store) (x y : Option D), SRep L k m p s → s.parts = qs → s.mail.length + ps.length ≤ 1000000 →
    match St.puts ps s with
    | some s' => ∃ L' x' y', fork ⟨call (tab lt) (n + 1), call (tab lt) n⟩ [3, 4] true dealBody (fun L => L[p]? = some (.list (qs.map partD))) (ps.map partD) [some (.ref k), o1, o2, x, y] L = .nx [some (.ref k), o1, o2, x', y'] L' ∧ SRep L' k m p s' ∧ Keep k m p L L' ∧ s'.parts = qs ∧ s'.mail.length ≤ s.mail.length + ps.length
    | none => ∃ δ' L', fork ⟨call (tab lt) (n + 1), call (tab lt) n⟩ [3, 4] true dealBody (fun L => L[p]? = some (.list (qs.map partD))) (ps.map partD) [some (.ref k), o1, o2, x, y] L = .ex "Broken" δ' L' ∧ Keep k m p L L'
  | [], s, L, x, y, h, hq, hl => ⟨L, x, y, by simp [fork_nil], h, .refl, hq, Nat.le_refl _⟩
  | (i, b) :: ps, s, L, x, y, h, hq, hl => by
    rw [List.length_cons] at hl
    have c := c_St_put2 (lt := lt) (n := n) (x := i) (b := b) h (by omega)
    have hk := h.ins
    unfold stFs at hk
    cases q : s.put i b with
    | none =>
      rw [q] at c
      have e : St.puts ((i, b) :: ps) s = none := by
        show (s.put i b).bind _ = none
        rw [q]
        rfl
      rw [e]
      refine ⟨[some (.ref k), o1, o2, some (.int i), some (tupI b)], L, ?_, .refl⟩
      rw [List.map_cons, fork_ex (δ1 := [some (.ref k), o1, o2, some (.int i), some (tupI b)]) (C := "Broken") (δ2 := [some (.ref k), o1, o2, some (.int i), some (tupI b)]) (L2 := L) (by simp [partD]) (by simp [dealBody, d_State_deal, hk, List.lookup, c])]
    | some s1 =>
      rw [q] at c
      obtain ⟨L1, c, r1, k1⟩ := c
      have e : St.puts ((i, b) :: ps) s = St.puts ps s1 := by
        show (s.put i b).bind _ = _
        rw [q]
        rfl
      have hs1 : s1.parts = qs ∧ s1.mail.length ≤ s.mail.length + 1 := by
        unfold St.put at q
        split at q
        · cases q
        · cases q
          exact ⟨hq, putA_len _ _ _⟩
      have ih := deal_loop (k := k) (m := m) (p := p) (o1 := o1) (o2 := o2) (qs := qs) ps s1 L1 (some (.int i)) (some (tupI b)) r1 hs1.1 (by omega)
      have hstep : fork ⟨call (tab lt) (n + 1), call (tab lt) n⟩ [3, 4] true dealBody (fun L => L[p]? = some (.list (qs.map partD))) (((i, b) :: ps).map partD) [some (.ref k), o1, o2, x, y] L = fork ⟨call (tab lt) (n + 1), call (tab lt) n⟩ [3, 4] true dealBody (fun L => L[p]? = some (.list (qs.map partD))) (ps.map partD) [some (.ref k), o1, o2, some (.int i), some (tupI b)] L1 := by
        rw [List.map_cons, fork_cons (δ1 := [some (.ref k), o1, o2, some (.int i), some (tupI b)]) (δ2 := [some (.ref k), o1, o2, some (.int i), some (tupI b)]) (L2 := L1) (by simp [partD]) (by simp [dealBody, d_State_deal, hk, List.lookup, c]) (by rw [← hs1.1]; exact r1.parts)]
      rw [e]
      cases q2 : St.puts ps s1 with
      | none =>
        rw [q2] at ih
        obtain ⟨δ', L', ih, ik⟩ := ih
        exact ⟨δ', L', by rw [hstep, ih], k1.trans ik⟩
      | some s' =>
        rw [q2] at ih
        obtain ⟨L', x', y', ih, ir, ik, ip, il⟩ := ih
        exact ⟨L', x', y', by rw [hstep, ih], ir, k1.trans ik, ip, by rw [List.length_cons]; omega⟩
end
end I
set_option Elab.async false
set_option linter.all false
set_option maxRecDepth 100000
set_option maxHeartbeats 4000000
/-! P14: a state follows rows. -/
namespace I
open PySem PySem.Spec PyProof.Rows L2 G
def fstD : D → D
  | .tup (x :: _) => x
  | _ => .non
section
variable {lt : Nat → Option Fd} {n : Nat} {L : Store}
theorem parts_fst (ps : List (Int × List Int)) : (ps.map partD).map fstD = (ps.map (·.1)).map D.int := by
  rw [List.map_map, List.map_map]
  rfl
theorem SRep.newp {k m p : Nat} {s : St} (h : SRep L k m p s) : SRep ((L ++ [Cell.list []]).set k (.ins "State" (stFs m L.length s.after))) k m L.length ⟨s.mail, s.after, []⟩ ∧ Keep k m p L ((L ++ [Cell.list []]).set k (.ins "State" (stFs m L.length s.after))) := by
  have ⟨n1, n2, n3⟩ := h.ne
  have hk := (List.getElem?_eq_some_iff.mp h.ins).1
  have hm := (List.getElem?_eq_some_iff.mp h.mail).1
  refine ⟨⟨?_, ?_, ?_⟩, ⟨by simp, fun i c h1 h2 h3 hc => ?_⟩⟩
  · rw [List.getElem?_set_self (by simp; omega)]
  · rw [List.getElem?_set_ne n1, List.getElem?_append_left hm]
    exact h.mail
  · rw [List.getElem?_set_ne (by omega)]
    simp
  · have hi := (List.getElem?_eq_some_iff.mp hc).1
    rw [List.getElem?_set_ne (Ne.symm h1), List.getElem?_append_left hi]
    exact hc
theorem c_State_deal {k m p : Nat} {s : St} {first many : Int} (h : SRep L k m p s) (hf : 0 ≤ first ∧ first ≤ 2000000) (hm : 0 ≤ many ∧ many ≤ 1000) (hp : s.parts.length ≤ 100000) (hl : s.mail.length ≤ 100000) : match s.deal first many with
    | some s' => StOk k m p L (call (tab lt) (n + 2) f_State_deal [.ref k, .int first, .int many] L) s'
    | none => StEx k m p L (call (tab lt) (n + 2) f_State_deal [.ref k, .int first, .int many] L) := by
  have h1 := h.ins
  unfold stFs at h1
  have h3 := h.parts
  have hq : (s.parts.map partD).length ≤ 16777216 := by simp; omega
  have it := items_list h3
  have hpl : s.parts.length ≤ 16777216 := by omega
  have e1 : first + many - first = many := by omega
  have hr : -4611686018427387904 ≤ first ∧ first < 4611686018427387904 ∧ -4611686018427387904 ≤ first + many ∧ first + many < 4611686018427387904 ∧ (first + many - first).toNat ≤ 16777216 := by omega
  have q1 := eqR_lints (L := L) (s.parts.map (·.1)) ((List.range many.toNat).map fun i : Nat => first + (i : Int))
  rw [← parts_fst, ← rngD_ints] at q1
  have lp := deal_loop (lt := lt) (n := n) (k := k) (m := m) (p := p) (o1 := some (.int first)) (o2 := some (.int many)) (qs := s.parts) s.parts s L none none h rfl (by omega)
  rw [call_of (fd := d_State_deal) rfl rfl]
  unfold St.deal
  have hc : ev ⟨call (tab lt) (n + 1), call (tab lt) n⟩ (E.lc (E.var 3) [3, 4] true (It.val (E.fld "State" (E.var 0) "parts")) Oe.none [3, 4]) [some (.ref k), some (.int first), some (.int many), none, none] L = .ok (.lst ((s.parts.map partD).map fstD)) L := by
    simp only [e_lc, ei_val, e_fld, e_var, ec_none]
    simp [h1, List.lookup, it]
    rw [if_pos ⟨by rw [sizeLine_eq]; omega, h3⟩, lcL_map (g := fstD)]
    · simp
    · intro d hd
      obtain ⟨x, _, rfl⟩ := List.mem_map.mp hd
      simp [lcStep, partD, fstD]
  have hrn : ev ⟨call (tab lt) (n + 1), call (tab lt) n⟩ (E.lrng (E.var 1) (E.bin .add (E.var 1) (E.var 2))) [some (.ref k), some (.int first), some (.int many), none, none] L = .ok (.lst (rngD first many.toNat)) L := by
    simp only [e_lrng, e_bin, e_var]
    simp
    rw [if_pos ⟨hr.1, hr.2.1, hr.2.2.1, hr.2.2.2.1, by first | omega | (rw [sizeLine_eq]; omega)⟩, e1]
  by_cases q : s.parts.map (·.1) = (List.range many.toNat).map fun i : Nat => first + (i : Int)
  · rw [if_pos q]
    rw [decide_eq_true q] at q1
    cases q2 : St.puts s.parts s with
    | none =>
      rw [q2] at lp
      obtain ⟨δ', L', lp, lk⟩ := lp
      refine ⟨L', ?_, lk⟩
      simp only [dealBody, d_State_deal] at lp
      simp [d_State_deal, h1, List.lookup, it, hc, hrn, q1, lp, h3, -e_lc, -e_lrng, -List.map_map]
    | some s' =>
      rw [q2] at lp
      obtain ⟨L', x', y', lp, lr, lk, lq, ll⟩ := lp
      have u := lr.newp
      have h4 : (L' ++ [Cell.list []])[k]? = some (.ins "State" (stFs m p s'.after)) := by
        rw [List.getElem?_append_left (List.getElem?_eq_some_iff.mp lr.ins).1]
        exact lr.ins
      unfold stFs at h4
      refine ⟨_, L'.length, ?_, u.1, .inr lk.len, lk.trans u.2⟩
      simp only [dealBody, d_State_deal] at lp
      simp [d_State_deal, h1, List.lookup, it, hc, hrn, q1, lp, h3, h4, stFs, fldA, -e_lc, -e_lrng, -List.map_map]
  · rw [if_neg q]
    rw [decide_eq_false q] at q1
    refine ⟨L, ?_, .refl⟩
    simp [d_State_deal, hc, hrn, q1, -e_lc, -e_lrng, -List.map_map]
theorem SRep.updm {k m p : Nat} {s : St} (h : SRep L k m p s) (ml : Mail) : SRep (L.set m (.dict (mailD ml))) k m p ⟨ml, s.after, s.parts⟩ ∧ Keep k m p L (L.set m (.dict (mailD ml))) := by
  have ⟨n1, n2, n3⟩ := h.ne
  have hm := (List.getElem?_eq_some_iff.mp h.mail).1
  refine ⟨⟨?_, ?_, ?_⟩, ⟨by simp, fun i c h1 h2 h3 hc => ?_⟩⟩
  · rw [List.getElem?_set_ne (Ne.symm n1)]
    exact h.ins
  · rw [List.getElem?_set_self hm]
  · rw [List.getElem?_set_ne n3]
    exact h.parts
  · rw [List.getElem?_set_ne (Ne.symm h2)]
    exact hc
theorem in_dict {m : Nat} {kvs} (h : L[m]? = some (.dict kvs)) (x : Int) : inR L (.int x) (.ref m) = some (lkA (Sum.inl x : Key) kvs).isSome := by simp [inR, h]
theorem lk_put {α : Type} (n : Int) (v : α) : ∀ m : List (Int × α), lkA n (putA n v m) = some v := by
  intro m
  unfold putA
  induction m with
  | nil => simp [lkA]
  | cons p r ih =>
    obtain ⟨a, x⟩ := p
    by_cases h : a = n
    · subst h
      simp [lkA]
    · rw [List.any_cons, decide_eq_false h, Bool.false_or]
      split
      · rename_i q
        rw [if_pos q] at ih
        rw [List.map_cons]
        simp only [h, ↓reduceIte]
        show (if a = n then some x else lkA n _) = _
        rw [if_neg h]
        exact ih
      · rename_i q
        rw [if_neg q] at ih
        show (if a = n then some x else lkA n (r ++ [(n, v)])) = _
        rw [if_neg h]
        exact ih
theorem c_change_carried {k m p : Nat} {s : St} {i x : Int} {b : List Int} (h : SRep L k m p s) (hl : s.mail.length ≤ 100000) : StOk k m p L (call (tab lt) (n + 1) f_State_change [.ref k, .str "carried", .int i, tupI (x :: b)] L) (s.carry i (x :: b)) := by
  have h1 := h.ins
  have h2 := h.mail
  unfold stFs at h1
  have u := h.upd (putA i (b, x) s.mail) (max s.after (i + 1))
  refine ⟨_, p, ?_, u.1, .inl rfl, u.2⟩
  have u1 := u.1.ins
  have u2 := u.1.mail
  unfold stFs at u1 u2 ⊢
  have hne := h.ne
  have hs : (mailD s.mail).length < 16777216 := by rw [mapA_len]; omega
  have hp : putA (Sum.inl i : Key) (D.tup [tupI b, D.int x]) (mailD s.mail) = mailD (putA i (b, x) s.mail) := mapA_put letD i (b, x) s.mail
  have g1 : ∀ c, (L.set m c)[k]? = some (.ins "State" [("mail", .ref m), ("after", .int s.after), ("parts", .ref p)]) := fun c => by
    rw [List.getElem?_set_ne (fun e => hne.1 e.symm)]
    exact h1
  have g2 := in_dict u2 i
  have g3 := fun j => ix_dict u2 j
  rw [mapA_lk, lk_put] at g2
  have g4 : lkA (Sum.inl i : Key) (mailD (putA i (b, x) s.mail)) = some (letD (b, x)) := by rw [mapA_lk, lk_put]; rfl
  have ct : G.cutD (D.int x :: b.map D.int) (some 1) none = b.map D.int := cutD_tail _ _
  simp only at u1 u2 g2 g3
  rw [call_of (fd := d_State_change) rfl rfl]
  simp [d_State_change, h1, h2, List.lookup, hs, ct, hp, g1, fldA, u1, u2, g2, g3, g4, letD]
theorem c_change_about {k m p : Nat} {s : St} {i : Int} {b : List Int} {c : Str} (hc : c = "out" ∨ c = "new" ∨ c = "done") (h : SRep L k m p s) (hl : s.mail.length ≤ 100000) : StOk k m p L (call (tab lt) (n + 1) f_State_change [.ref k, .str c, .int i, tupI b] L) (s.about c i) := by
  have h1 := h.ins
  have h2 := h.mail
  unfold stFs at h1
  have hs : (mailD s.mail).length < 16777216 := by rw [mapA_len]; omega
  have g2 := in_dict h2 i
  have g3 := fun j => ix_dict h2 j
  have g4 := mapA_lk letD i s.mail
  rw [call_of (fd := d_State_change) rfl rfl]
  unfold St.about
  cases q : lkA i s.mail with
  | none =>
    rw [q] at g4
    refine ⟨L, p, ?_, h, .inl rfl, .refl⟩
    rcases hc with rfl | rfl | rfl <;> simp [d_State_change, h1, h2, List.lookup, g2, g4]
  | some v =>
    rw [q] at g4
    obtain ⟨w, t⟩ := v
    rcases hc with rfl | rfl | rfl
    · have u := h.updm (putA i (w, t + 1) s.mail)
      have hp : putA (Sum.inl i : Key) (D.tup [tupI w, D.int (t + 1)]) (mailD s.mail) = mailD (putA i (w, t + 1) s.mail) := mapA_put letD i (w, t + 1) s.mail
      refine ⟨_, p, ?_, u.1, .inl rfl, u.2⟩
      simp [d_State_change, h1, h2, List.lookup, g2, g3, g4, letD, hs, hp]
    · have u := h.updm (putA i (w, 0) s.mail)
      have hp : putA (Sum.inl i : Key) (D.tup [tupI w, D.int 0]) (mailD s.mail) = mailD (putA i (w, 0) s.mail) := mapA_put letD i (w, 0) s.mail
      refine ⟨_, p, ?_, u.1, .inl rfl, u.2⟩
      simp [d_State_change, h1, h2, List.lookup, g2, g3, g4, letD, hs, hp]
    · have u := h.updm (delA i s.mail)
      have hp : delA (Sum.inl i : Key) (mailD s.mail) = mailD (delA i s.mail) := mapA_del letD i s.mail
      refine ⟨_, p, ?_, u.1, .inl rfl, u.2⟩
      simp [d_State_change, h1, h2, List.lookup, g2, g3, g4, letD, hs, hp, bmD]
end
end I
set_option Elab.async false
set_option linter.all false
set_option maxRecDepth 100000
set_option maxHeartbeats 4000000
/-! P15: follow; made. -/
namespace I
open PySem PySem.Spec PyProof.Rows L2 G
theorem Row.Good.deal {r : Row} (h : r.Good) (e : r.k = "deal") : ∃ x, r.b = [x] ∧ 1 ≤ x ∧ x ≤ 9 := by
  have ht := h.all.2.2.2
  rw [e] at ht
  cases hb : r.b with
  | nil => rw [hb] at ht; exact absurd ht (by decide)
  | cons x q =>
    cases q with
    | nil =>
      rw [hb] at ht
      obtain ⟨i, e2, h1, h2⟩ := within_int (d := .int x) (lo := 1) (hi := 9) ht
      cases e2
      exact ⟨x, rfl, h1, h2⟩
    | cons y q =>
      rw [hb] at ht
      exact absurd ht (by simp [rowTail])
theorem Row.Good.carried {r : Row} (h : r.Good) (e : r.k = "carried") : ∃ x q, r.b = x :: q ∧ x ≤ 9 := by
  have ht := h.all.2.2.2
  rw [e] at ht
  cases hb : r.b with
  | nil => rw [hb] at ht; exact absurd ht (by decide)
  | cons x q =>
    rw [hb] at ht
    have ht : (decide (x ≤ 9) && isBody (tupI q)) = true := ht
    rw [Bool.and_eq_true] at ht
    exact ⟨x, q, rfl, of_decide_eq_true ht.1⟩
section
variable {lt : Nat → Option Fd} {n : Nat} {L : Store}
theorem SRep.app {k m p : Nat} {s : St} (h : SRep L k m p s) (x : Int × List Int) : SRep (L.set p (.list (s.parts.map partD ++ [partD x]))) k m p ⟨s.mail, s.after, s.parts ++ [x]⟩ ∧ Keep k m p L (L.set p (.list (s.parts.map partD ++ [partD x]))) := by
  have ⟨n1, n2, n3⟩ := h.ne
  have hp := (List.getElem?_eq_some_iff.mp h.parts).1
  refine ⟨⟨?_, ?_, ?_⟩, ⟨by simp, fun i c h1 h2 h3 hc => ?_⟩⟩
  · rw [List.getElem?_set_ne (Ne.symm n2)]
    exact h.ins
  · rw [List.getElem?_set_ne (Ne.symm n3)]
    exact h.mail
  · rw [List.getElem?_set_self hp, List.map_append]
    rfl
  · rw [List.getElem?_set_ne (Ne.symm h3)]
    exact hc
theorem SRep.updk {k m p : Nat} {s : St} (h : SRep L k m p s) (a : Int) : SRep (L.set k (.ins "State" (stFs m p a))) k m p ⟨s.mail, a, s.parts⟩ ∧ Keep k m p L (L.set k (.ins "State" (stFs m p a))) := by
  have ⟨n1, n2, n3⟩ := h.ne
  have hk := (List.getElem?_eq_some_iff.mp h.ins).1
  refine ⟨⟨?_, ?_, ?_⟩, ⟨by simp, fun i c h1 h2 h3 hc => ?_⟩⟩
  · rw [List.getElem?_set_self hk]
  · rw [List.getElem?_set_ne n1]
    exact h.mail
  · rw [List.getElem?_set_ne n2]
    exact h.parts
  · rw [List.getElem?_set_ne (Ne.symm h1)]
    exact hc
theorem truth_parts {p : Nat} {ps : List (Int × List Int)} (h : L[p]? = some (.list (ps.map partD))) : (D.ref p).truth L = some (!ps.isEmpty) := by
  rw [truth_list h]
  cases ps <;> rfl
theorem c_State_follow {k m p : Nat} {s : St} {r : Row} (h : SRep L k m p s) (hr : r.Good) (hl : s.mail.length ≤ 100000) (hp : s.parts.length ≤ 100000) : match s.follow r with
    | some s' => StOk k m p L (call (tab lt) (n + 3) f_State_follow [.ref k, rowD r] L) s'
    | none => StEx k m p L (call (tab lt) (n + 3) f_State_follow [.ref k, rowD r] L) := by
  obtain ⟨hk, hn, hb, _⟩ := hr.all
  obtain ⟨c, i, b⟩ := r
  have hn : 0 ≤ i ∧ i ≤ 999999 := hn
  have h1 := h.ins
  have h2 := h.mail
  have h3 := h.parts
  unfold stFs at h1
  have tp := truth_parts h3
  have hpl : s.parts.length < 16777216 := by omega
  rw [call_of (fd := d_State_follow) rfl rfl]
  simp only [kinds, List.mem_cons, List.not_mem_nil, or_false] at hk
  unfold St.follow
  simp only [rowD]
  rcases hk with rfl | rfl | rfl | rfl | rfl | rfl | rfl | rfl
  · -- put
    simp only [ofS_inj, reduceCtorEq, String.reduceEq, ↓reduceIte]
    cases hps : s.parts with
    | cons x q =>
      rw [hps] at tp
      simp
      refine ⟨L, ?_, .refl⟩
      simp [d_State_follow, h1, List.lookup, tp]
    | nil =>
      rw [hps] at tp
      simp
      have c := c_St_put2 (lt := lt) (n := n + 1) (x := i) (b := b) h (by omega)
      cases q : s.put i b with
      | none =>
        rw [q] at c
        refine ⟨L, ?_, .refl⟩
        simp [d_State_follow, h1, List.lookup, tp, c]
      | some s' =>
        rw [q] at c
        obtain ⟨L', c, r1, k1⟩ := c
        refine ⟨L', p, ?_, r1, .inl rfl, k1⟩
        simp [d_State_follow, h1, List.lookup, tp, c]
  · -- out
    cases hps : s.parts with
    | cons x q =>
      rw [hps] at tp
      simp
      refine ⟨L, ?_, .refl⟩
      simp [d_State_follow, h1, List.lookup, tp]
    | nil =>
      rw [hps] at tp
      obtain ⟨L', p', c, r1, k1⟩ := c_change_about (lt := lt) (n := n + 1) (b := b) (i := i) (c := "out") (.inl rfl) h hl
      simp [St.change]
      refine ⟨L', p', ?_, r1, k1⟩
      simp [d_State_follow, h1, List.lookup, tp, c]
  · -- done
    cases hps : s.parts with
    | cons x q =>
      rw [hps] at tp
      simp
      refine ⟨L, ?_, .refl⟩
      simp [d_State_follow, h1, List.lookup, tp]
    | nil =>
      rw [hps] at tp
      obtain ⟨L', p', c, r1, k1⟩ := c_change_about (lt := lt) (n := n + 1) (b := b) (i := i) (c := "done") (.inr (.inr rfl)) h hl
      simp [St.change]
      refine ⟨L', p', ?_, r1, k1⟩
      simp [d_State_follow, h1, List.lookup, tp, c]
  · -- from
    cases hps : s.parts with
    | cons x q =>
      rw [hps] at tp
      simp
      refine ⟨L, ?_, .refl⟩
      simp [d_State_follow, h1, List.lookup, tp]
    | nil =>
      have u := h.updk (max s.after i)
      rw [hps] at tp u
      simp
      refine ⟨_, p, ?_, u.1, .inl rfl, u.2⟩
      simp [d_State_follow, h1, List.lookup, tp, fldA, stFs]
  · -- part
    simp
    have u := h.app (i, b)
    refine ⟨_, p, ?_, u.1, .inl rfl, u.2⟩
    simp [d_State_follow, h1, List.lookup, h3, bmD, hpl, partD]
  · -- deal
    obtain ⟨x, rfl, x1, x2⟩ := hr.deal rfl
    have c := c_State_deal (lt := lt) (n := n) (first := i) (many := x) h (by omega) (by omega) hp hl
    simp
    cases q : s.deal i x with
    | none =>
      rw [q] at c
      obtain ⟨L', c, k1⟩ := c
      refine ⟨L', ?_, k1⟩
      simp [d_State_follow, h1, List.lookup, c]
    | some s' =>
      rw [q] at c
      obtain ⟨L', p', c, r1, k1⟩ := c
      refine ⟨L', p', ?_, r1, k1⟩
      simp [d_State_follow, h1, List.lookup, c]
  · -- carried
    cases hps : s.parts with
    | cons x q =>
      rw [hps] at tp
      simp
      refine ⟨L, ?_, .refl⟩
      simp [d_State_follow, h1, List.lookup, tp]
    | nil =>
      rw [hps] at tp
      obtain ⟨x, q, rfl, _⟩ := hr.carried rfl
      obtain ⟨L', p', c, r1, k1⟩ := c_change_carried (lt := lt) (n := n + 1) (b := q) (x := x) (i := i) h hl
      simp [St.change]
      refine ⟨L', p', ?_, r1, k1⟩
      simp [d_State_follow, h1, List.lookup, tp, c]
  · -- new
    cases hps : s.parts with
    | cons x q =>
      rw [hps] at tp
      simp
      refine ⟨L, ?_, .refl⟩
      simp [d_State_follow, h1, List.lookup, tp]
    | nil =>
      rw [hps] at tp
      obtain ⟨L', p', c, r1, k1⟩ := c_change_about (lt := lt) (n := n + 1) (b := b) (i := i) (c := "new") (.inr (.inl rfl)) h hl
      simp [St.change]
      refine ⟨L', p', ?_, r1, k1⟩
      simp [d_State_follow, h1, List.lookup, tp, c]
end
end I
set_option Elab.async false
set_option linter.all false
set_option maxRecDepth 100000
set_option maxHeartbeats 4000000
/-! P16: made. -/
namespace I
open PySem PySem.Spec PyProof.Rows L2 G
def St.size (s : St) : Nat := s.mail.length + s.parts.length
theorem St.put_size {s s' : St} {i : Int} {b : List Int} (h : s.put i b = some s') : s'.mail.length ≤ s.mail.length + 1 ∧ s'.parts = s.parts := by
  unfold St.put at h
  split at h
  · cases h
  · cases h
    exact ⟨putA_len _ _ _, rfl⟩
theorem St.puts_size : ∀ {ps : List (Int × List Int)} {s s' : St}, St.puts ps s = some s' → s'.mail.length ≤ s.mail.length + ps.length
  | [], s, s', h => by cases h; exact Nat.le_refl _
  | (i, b) :: ps, s, s', h => by
    have h : (s.put i b).bind (St.puts ps) = some s' := h
    cases q : s.put i b with
    | none => rw [q] at h; cases h
    | some s1 =>
      rw [q] at h
      have h1 := St.put_size q
      have h2 := St.puts_size (s := s1) (s' := s') h
      rw [List.length_cons]
      omega
theorem St.follow_size {s s' : St} {r : Row} (h : s.follow r = some s') : s'.size ≤ s.size + 1 := by
  unfold St.follow at h
  unfold St.size
  split at h
  · cases h
    simp
    omega
  · split at h
    · unfold St.deal at h
      split at h
      · cases q : St.puts s.parts s with
        | none => rw [q] at h; cases h
        | some t =>
          rw [q] at h
          cases h
          have := St.puts_size q
          simp
          omega
      · cases h
    · split at h
      · cases h
      · split at h
        · have := St.put_size h
          rw [this.2]
          omega
        · split at h
          · cases h
            simp
          · cases h
            unfold St.change
            split
            · have := putA_len r.n (r.b.drop 1, r.b.headD 0) s.mail
              simp only [St.carry]
              omega
            · unfold St.about
              cases q : lkA r.n s.mail with
              | none => simp
              | some v =>
                simp only
                have h1 := putA_len r.n (v.1, v.2 + 1) s.mail
                have h2 := putA_len r.n (v.1, (0 : Int)) s.mail
                have h3 := delA_len r.n s.mail
                split
                · simp only; omega
                · split
                  · simp only; omega
                  · split
                    · simp only; omega
                    · omega
/-- a list, of either kind -/
def IsL (L : Store) (d : D) (ds : List D) : Prop := d = .lst ds ∨ ∃ k, d = .ref k ∧ L[k]? = some (.list ds)
/-- more cells -/
def Ext (L L' : Store) : Prop := ∀ (i : Nat) (c : Cell), L[i]? = some c → L'[i]? = some c
theorem Ext.refl {L : Store} : Ext L L := fun _ _ h => h
theorem Ext.trans {L M N : Store} (h : Ext L M) (h2 : Ext M N) : Ext L N := fun i c q => h2 i c (h i c q)
theorem Ext.add {L : Store} (M : Store) : Ext L (L ++ M) := fun i c q => by
  rw [List.getElem?_append_left (List.getElem?_eq_some_iff.mp q).1]
  exact q
theorem IsL.ext {L M : Store} {d : D} {ds : List D} (h : IsL L d ds) (e : Ext L M) : IsL M d ds := h.imp id fun ⟨k, h1, h2⟩ => ⟨k, h1, e k _ h2⟩
theorem IsL.is {L : Store} {d : D} {ds : List D} (h : IsL L d ds) : isiD L d "list" = some true := by
  rcases h with rfl | ⟨k, rfl, h⟩
  · simp
  · show (match L[k]? with
      | some (.list _) => kitB "list" "list"
      | some (.dict _) => kitB "dict" "list"
      | _ => none) = _
    rw [h]
    show kitB "list" "list" = some true
    decide +kernel
/-- what holds of the store while a list is walked -/
def IsL.P (d : D) (ds : List D) (L : Store) : Prop := match d with
  | .ref k => L[k]? = some (.list ds)
  | _ => True
theorem IsL.items {L : Store} {d : D} {ds : List D} (h : IsL L d ds) : itemsOf L d = some ⟨ds, IsL.P d ds⟩ := by
  rcases h with rfl | ⟨k, rfl, h⟩
  · rfl
  · rw [items_list h]
    rfl
theorem IsL.p {L : Store} {d : D} {ds : List D} (h : IsL L d ds) : IsL.P d ds L := by
  rcases h with rfl | ⟨k, rfl, h⟩
  · trivial
  · exact h
def letRow (m : Mail) (i : Int) : D := .tup [.int i, tupI ((lkA i m).getD ([], 0)).1, .int ((lkA i m).getD ([], 0)).2]
def keysM (m : Mail) : List Int := sortI (m.map (·.1))
def madeD (s : St) : D := .tup [.lst ((keysM s.mail).map (letRow s.mail)), .int s.after]
/-- what made tells -/
def St.made (rs : List Row) : Option St := (St.all rs St.new).bind fun s => if s.parts = [] then some s else none
theorem lk_key {α : Type} {i : Int} : ∀ {m : List (Int × α)}, i ∈ m.map (·.1) → ∃ v, lkA i m = some v
  | [], h => by cases h
  | (a, x) :: r, h => by
    show ∃ v, (if a = i then some x else lkA i r) = some v
    by_cases e : a = i
    · exact ⟨x, if_pos e⟩
    · rw [if_neg e]
      rw [List.map_cons] at h
      rcases List.mem_cons.mp h with h | h
      · exact absurd h.symm e
      · exact lk_key h
theorem keysM_mem {m : Mail} {i : Int} (h : i ∈ keysM m) : ∃ v, lkA i m = some v := lk_key ((List.mergeSort_perm _ _).mem_iff.mp h)
theorem keysM_len (m : Mail) : (keysM m).length = m.length := by simp [keysM, sortI]
def madeBody : Ss := match d_made.body with
  | .cons _ (.cons _ (.cons (.for_ _ _ _ b) _)) => b
  | _ => .nil
section
variable {lt : Nat → Option Fd} {n : Nat} {L : Store}
theorem made_loop {k m : Nat} {d : D} {all : List Row} {o3 : Option D} : ∀ (rs : List Row) (s : St) (p : Nat) (L : Store) (x : Option D), SRep L k m p s → IsL L d (all.map rowD) → (∀ j, d = .ref j → j < k) → k < m → k < p → (∀ r ∈ rs, r.Good) → s.size + rs.length ≤ 100000 →
    match St.all rs s with
    | some s' => ∃ L' p' x', fork ⟨call (tab lt) (n + 3), call (tab lt) (n + 2)⟩ [1] false madeBody (IsL.P d (all.map rowD)) (rs.map rowD) [some d, x, some (.ref k), o3] L = .nx [some d, x', some (.ref k), o3] L' ∧ SRep L' k m p' s' ∧ s'.size ≤ s.size + rs.length ∧ L.length ≤ L'.length ∧ (∀ i c, i < k → L[i]? = some c → L'[i]? = some c)
    | none => ∃ δ' L', fork ⟨call (tab lt) (n + 3), call (tab lt) (n + 2)⟩ [1] false madeBody (IsL.P d (all.map rowD)) (rs.map rowD) [some d, x, some (.ref k), o3] L = .ex "Broken" δ' L' ∧ (∀ i c, i < k → L[i]? = some c → L'[i]? = some c)
  | [], s, p, L, x, h, hd, hj, km, kp, hg, hs => ⟨L, p, x, by simp [fork_nil], h, Nat.le_refl _, Nat.le_refl _, fun _ _ _ h => h⟩
  | r :: rs, s, p, L, x, h, hd, hj, km, kp, hg, hs => by
    rw [List.length_cons] at hs
    have hsz : s.mail.length ≤ 100000 ∧ s.parts.length ≤ 100000 := by unfold St.size at hs; omega
    have c := c_State_follow (lt := lt) (n := n) (r := r) h (hg r List.mem_cons_self) hsz.1 hsz.2
    have hk := h.ins
    cases q : s.follow r with
    | none =>
      rw [q] at c
      obtain ⟨L1, c, k1⟩ := c
      have e : St.all (r :: rs) s = none := by
        show (s.follow r).bind _ = none
        rw [q]
        rfl
      rw [e]
      refine ⟨[some d, some (rowD r), some (.ref k), o3], L1, ?_, fun i c hi hc => k1.at_ i c (by omega) (by omega) (by omega) hc⟩
      rw [List.map_cons, fork_ex (δ1 := [some d, some (rowD r), some (.ref k), o3]) (C := "Broken") (δ2 := [some d, some (rowD r), some (.ref k), o3]) (L2 := L1) (by simp) (by simp [madeBody, d_made, hk, stFs, List.lookup, c])]
    | some s1 =>
      rw [q] at c
      obtain ⟨L1, p1, c, r1, hp1, k1⟩ := c
      have e : St.all (r :: rs) s = St.all rs s1 := by
        show (s.follow r).bind _ = _
        rw [q]
        rfl
      have kp1 : k < p1 := by
        rcases hp1 with rfl | hp1
        · exact kp
        · have := (List.getElem?_eq_some_iff.mp hk).1
          omega
      have keep : ∀ i c, i < k → L[i]? = some c → L1[i]? = some c := fun i c hi hc => k1.at_ i c (by omega) (by omega) (by omega) hc
      have hd1 : IsL L1 d (all.map rowD) := by
        rcases hd with hd | ⟨j, hd, hd2⟩
        · exact .inl hd
        · exact .inr ⟨j, hd, keep j _ (hj j hd) hd2⟩
      have hsz1 := St.follow_size q
      have ih := made_loop (k := k) (m := m) (d := d) (all := all) (o3 := o3) rs s1 p1 L1 (some (rowD r)) r1 hd1 hj km kp1 (fun x hx => hg x (List.mem_cons_of_mem _ hx)) (by omega)
      have hstep : fork ⟨call (tab lt) (n + 3), call (tab lt) (n + 2)⟩ [1] false madeBody (IsL.P d (all.map rowD)) ((r :: rs).map rowD) [some d, x, some (.ref k), o3] L = fork ⟨call (tab lt) (n + 3), call (tab lt) (n + 2)⟩ [1] false madeBody (IsL.P d (all.map rowD)) (rs.map rowD) [some d, some (rowD r), some (.ref k), o3] L1 := by
        rw [List.map_cons, fork_cons (δ1 := [some d, some (rowD r), some (.ref k), o3]) (δ2 := [some d, some (rowD r), some (.ref k), o3]) (L2 := L1) (by simp) (by simp [madeBody, d_made, hk, stFs, List.lookup, c]) hd1.p]
      rw [e]
      cases q2 : St.all rs s1 with
      | none =>
        rw [q2] at ih
        obtain ⟨δ', L', ih, ik⟩ := ih
        exact ⟨δ', L', by rw [hstep, ih], fun i c hi hc => ik i c hi (keep i c hi hc)⟩
      | some s' =>
        rw [q2] at ih
        obtain ⟨L', p', x', ih, ir, is, il, ik⟩ := ih
        refine ⟨L', p', x', by rw [hstep, ih], ir, ?_, Nat.le_trans k1.len il, fun i c hi hc => ik i c hi (keep i c hi hc)⟩
        rw [List.length_cons]
        omega
theorem c_State_init : call (tab lt) (n + 1) f_State_init [.ref L.length] (L ++ [.ins "State" []]) = .ok .non (L ++ [.ins "State" (stFs (L.length + 1) (L.length + 2) 0), .dict [], .list []]) := by
  rw [call_of (fd := d_State_init) rfl rfl]
  simp [d_State_init, fldA, stFs]
theorem new_rep (L : Store) : SRep (L ++ [.ins "State" (stFs (L.length + 1) (L.length + 2) 0), .dict [], .list []]) L.length (L.length + 1) (L.length + 2) St.new := by
  refine ⟨?_, ?_, ?_⟩
  · rw [List.getElem?_append_right (Nat.le_refl _), Nat.sub_self]
    rfl
  · rw [List.getElem?_append_right (by omega), Nat.add_sub_cancel_left]
    rfl
  · rw [List.getElem?_append_right (by omega), Nat.add_sub_cancel_left]
    rfl
theorem sorted_keys {m : Nat} {ml : Mail} (h : L[m]? = some (.dict (mailD ml))) : biD .sorted [.ref m] L = .ok (.lst ((keysM ml).map D.int)) L := by
  have e : keysD (mailD ml) = (ml.map (·.1)).map D.int := by
    unfold keysD mailD mapA
    rw [List.map_map, List.map_map]
    rfl
  show R.op ((sortOf L (.ref m)).bind sortD) L = _
  have e2 : sortOf L (.ref m) = some (keysD (mailD ml)) := by
    simp [sortOf, h]
  rw [e2, e]
  show R.op (sortD ((ml.map (·.1)).map D.int)) L = _
  unfold sortD
  rw [intsOf_map]
  rfl
theorem c_made {d : D} {rs : List Row} (hd : IsL L d (rs.map rowD)) (hg : ∀ r ∈ rs, r.Good) (hl : rs.length ≤ 90000) : match St.made rs with
    | some s => ∃ L', call (tab lt) (n + 5) f_made [d] L = .ok (madeD s) L' ∧ Ext L L'
    | none => ∃ L', call (tab lt) (n + 5) f_made [d] L = .ex "Broken" L' ∧ Ext L L' := by
  have hrw := fun (L : Store) r hr => c_is_row (lt := lt) (n := n) (L := L) (rowD r) (ok2_row (by have := (hg r hr).len; omega))
  have hc : ev ⟨call (tab lt) (n + 4), call (tab lt) (n + 3)⟩ (E.lc (E.var 1) [1] false (It.val (E.var 0)) (Oe.some (E.not (E.fn f_is_row (Es.cons (E.var 1) Es.nil)))) [1]) [some d, none, none, none] L = .ok (.lst []) L := by
    simp only [e_lc, ei_val, e_var, ec_some]
    simp [hd.items]
    rw [if_pos ⟨by rw [sizeLine_eq, List.length_map]; omega, hd.p⟩, lcL_of (f := fun _ => none)]
    · simp
    · intro x hx
      obtain ⟨r, hr, rfl⟩ := List.mem_map.mp hx
      have := hrw L r hr
      rw [(hg r hr).is] at this
      simp [lcStep, this]
  have hi := c_State_init (lt := lt) (n := n + 2) (L := L)
  have hrep := new_rep L
  have hex : Ext L (L ++ [.ins "State" (stFs (L.length + 1) (L.length + 2) 0), .dict [], .list []]) := .add _
  have hj : ∀ j, d = .ref j → j < L.length := fun j e => by
    rcases hd with hd | ⟨k, hd, hd2⟩
    · rw [e] at hd; cases hd
    · rw [e] at hd
      cases hd
      exact (List.getElem?_eq_some_iff.mp hd2).1
  have lp := made_loop (lt := lt) (n := n + 1) (k := L.length) (m := L.length + 1) (d := d) (all := rs) (o3 := none) rs St.new (L.length + 2) _ none hrep (hd.ext hex) hj (by omega) (by omega) hg (by simp [St.size, St.new]; omega)
  have his := hd.is
  have hit := (hd.ext hex).items
  have hp := (hd.ext hex).p
  rw [call_of (fd := d_made) rfl rfl]
  unfold St.made
  simp only [madeBody, d_made] at lp
  cases q : St.all rs St.new with
  | none =>
    rw [q] at lp
    obtain ⟨δ', L', lp, lk⟩ := lp
    refine ⟨L', ?_, fun i c hc => lk i c (List.getElem?_eq_some_iff.mp hc).1 (hex i c hc)⟩
    simp [d_made, his, hc, hi, hit, hp, lp, -e_lc]
  | some s =>
    rw [q] at lp
    obtain ⟨L', p', x', lp, lr, ls, ll, lk⟩ := lp
    have ext : Ext L L' := fun i c hc => lk i c (List.getElem?_eq_some_iff.mp hc).1 (hex i c hc)
    have h1 := lr.ins
    unfold stFs at h1
    have tp := truth_parts lr.parts
    cases hps : s.parts with
    | cons x r =>
      rw [hps] at tp
      have e : ((some s).bind fun s => if s.parts = [] then some s else none) = none := by
        show (if s.parts = [] then some s else none) = none
        rw [hps]
        rfl
      rw [e]
      refine ⟨L', ?_, ext⟩
      simp [d_made, his, hc, hi, hit, hp, lp, h1, List.lookup, tp, -e_lc]
    | nil =>
      rw [hps] at tp
      have e : ((some s).bind fun s => if s.parts = [] then some s else none) = some s := by
        show (if s.parts = [] then some s else none) = some s
        rw [hps]
        rfl
      rw [e]
      refine ⟨L', ?_, ext⟩
      have so := sorted_keys lr.mail
      have hkl : (keysM s.mail).length ≤ 16777216 := by
        rw [keysM_len]
        unfold St.size at ls
        have : St.new.mail.length + St.new.parts.length = 0 := rfl
        omega
      have hc2 : ev ⟨call (tab lt) (n + 4), call (tab lt) (n + 3)⟩ (E.lc (E.bin .add (E.tup (Es.cons (E.var 3) Es.nil)) (E.ix (E.fld "State" (E.var 2) "mail") (E.var 3))) [3] false (It.val (E.bi .sorted (Es.cons (E.fld "State" (E.var 2) "mail") Es.nil))) Oe.none [3]) [some d, x', some (.ref L.length), none] L' = .ok (.lst ((keysM s.mail).map (letRow s.mail))) L' := by
        simp only [e_lc, ei_val, e_bi, es_cons, es_nil, e_fld, e_var, ec_none]
        simp [h1, List.lookup, so]
        rw [if_pos (by first | exact hkl | (rw [sizeLine_eq]; exact hkl)), lcL_map (g := fun d => match d with
          | .int i => letRow s.mail i
          | _ => .non)]
        · simp
        · intro y hy
          obtain ⟨i, hi, rfl⟩ := List.mem_map.mp hy
          obtain ⟨v, hv⟩ := keysM_mem hi
          have g3 := ix_dict lr.mail
          have g4 := mapA_lk letD i s.mail
          rw [hv] at g4
          simp [lcStep, h1, List.lookup, g3, g4, letRow, hv, letD, op_catT]
      simp [d_made, his, hc, hi, hit, hp, lp, h1, List.lookup, tp, hc2, madeD, -e_lc]
end
end I
set_option Elab.async false
set_option linter.all false
set_option maxRecDepth 100000
set_option maxHeartbeats 4000000
/-! P17: rows as a queue may write them. -/
namespace I
open PySem PySem.Spec PyProof.Rows L2 G
def rngF : Nat → Nat → List D
  | _, 0 => []
  | j, c + 1 => .int (j : Int) :: rngF (j + 1) c
theorem rngF_range : ∀ (j c : Nat), (List.range' j c).map (fun i : Nat => D.int (i : Int)) = rngF j c
  | _, 0 => rfl
  | j, c + 1 => by
    rw [List.range'_succ, List.map_cons, rngF_range (j + 1) c]
    rfl
theorem rngD_F (n : Nat) : rngD 0 n = rngF 0 n := by
  rw [← rngF_range, ← List.range_eq_range']
  simp [rngD]
def genPick (s : Int) (k : Nat) : Int := pickOf (seedOf s k) 10
def genNum (s : Int) (k : Nat) (a : Int) : Int := seedOf s k / 7 % (a + 2)
def genPutAt (s : Int) (k : Nat) (a : Int) : Int := a + if seedOf s k / 11 % 3 = 2 then 2 else 0
def genSize (s : Int) (k : Nat) : Int := 1 + seedOf s k / 11 % 4
def genPart (o a : Int) (j : Nat) : Row := ⟨"part", a + (j : Int), bytesOf (seedOf o j) 6⟩
/-- one turn's rows, and the next number -/
def genStep (s : Int) (k : Nat) (a : Int) : List Row × Int :=
  if genPick s k < 3 then ([⟨"put", genPutAt s k a, bytesOf (seedOf s k) 9⟩], genPutAt s k a + 1)
  else if genPick s k < 4 then ((List.range (genSize s k).toNat).map (genPart (seedOf s k) a) ++ [⟨"deal", a, [genSize s k]⟩], a + genSize s k)
  else if genPick s k = 9 then
    (if seedOf s k / 17 % 2 = 0 then ([⟨"from", genNum s k a, []⟩], max a (genNum s k a)) else ([⟨"carried", genNum s k a, seedOf s k / 13 % 10 :: bytesOf (seedOf s k) 6⟩], max a (genNum s k a + 1)))
  else ([⟨if genPick s k = 4 ∨ genPick s k = 7 then "out" else if genPick s k = 6 then "new" else "done", genNum s k a, []⟩], a)
def gen (s : Int) : Nat → Nat → Int → List Row × Int
  | _, 0, a => ([], a)
  | k, c + 1, a => ((genStep s k a).1 ++ (gen s (k + 1) c (genStep s k a).2).1, (gen s (k + 1) c (genStep s k a).2).2)
theorem genStep_bd {s a : Int} {k : Nat} (ha : 0 ≤ a) : a ≤ (genStep s k a).2 ∧ (genStep s k a).2 ≤ a + 4 ∧ (genStep s k a).1.length ≤ 5 := by
  have sb := seed_bd s k
  unfold genStep genPick genNum genPutAt genSize
  generalize seedOf s k = o at *
  have hn : 0 ≤ o / 7 % (a + 2) ∧ o / 7 % (a + 2) < a + 2 := ⟨Int.emod_nonneg _ (by omega), Int.emod_lt_of_pos _ (by omega)⟩
  generalize o / 7 % (a + 2) = v at *
  split
  · refine ⟨?_, ?_, by simp⟩
    · simp only
      split <;> omega
    · simp only
      split <;> omega
  · split
    · exact ⟨by simp only; omega, by simp only; omega, by simp; omega⟩
    · split
      · split <;> exact ⟨by simp only; omega, by simp only; omega, by simp⟩
      · exact ⟨by simp only; omega, by simp only; omega, by simp⟩
def genBody : Ss := match d_law_rows.body with
  | .cons _ (.cons _ (.cons (.for_ _ _ _ b) _)) => b
  | _ => .nil
def partBody : Ss := match genBody with
  | .cons _ (.cons _ (.cons _ (.cons (.ite _ _ (.cons (.ite _ (.cons _ (.cons (.for_ _ _ _ b) _)) _) _)) _))) => b
  | _ => .nil
section
variable {lt : Nat → Option Fd} {n : Nat} {L : Store}
theorem part_loop {o0 o1 o2 o5 o7 o8 o9 o11 o12 o13 : Option D} {o a : Int} : ∀ (c j : Nat) (ds : List D) (x : Option D), ds.length + c ≤ 100000 → ∃ x', fork ⟨call (tab lt) (n + 2), call (tab lt) (n + 1)⟩ [10] false partBody (fun _ => True) (rngF j c) [o0, o1, o2, some (.ref L.length), some (.int a), o5, some (.int o), o7, o8, o9, x, o11, o12, o13] (L ++ [.list ds]) = .nx [o0, o1, o2, some (.ref L.length), some (.int a), o5, some (.int o), o7, o8, o9, x', o11, o12, o13] (L ++ [.list (ds ++ (List.range' j c).map fun i => rowD (genPart o a i))])
  | 0, j, ds, x, _ => ⟨x, by simp [fork_nil, rngF]⟩
  | c + 1, j, ds, x, hl => by
    have hd : ds.length < 16777216 := by omega
    obtain ⟨x', ih⟩ := part_loop (o0 := o0) (o1 := o1) (o2 := o2) (o5 := o5) (o7 := o7) (o8 := o8) (o9 := o9) (o11 := o11) (o12 := o12) (o13 := o13) (o := o) (a := a) c (j + 1) (ds ++ [rowD (genPart o a j)]) (some (.int (j : Int))) (by simp; omega)
    refine ⟨x', ?_⟩
    rw [rngF, fork_cons (δ1 := [o0, o1, o2, some (.ref L.length), some (.int a), o5, some (.int o), o7, o8, o9, some (.int (j : Int)), o11, o12, o13]) (δ2 := [o0, o1, o2, some (.ref L.length), some (.int a), o5, some (.int o), o7, o8, o9, some (.int (j : Int)), o11, o12, o13]) (L2 := L ++ [.list (ds ++ [rowD (genPart o a j)])]) (by simp) (by
      simp (disch := first | assumption | (simp; done) | omega) [partBody, genBody, d_law_rows, c_law_seed, c_law_bytes, bmD, hd, rowD, genPart]) trivial, ih]
    simp [List.range'_succ]
theorem gen_step {s many spoil a : Int} {k : Nat} {o12 o13 : Option D} (ds : List D) (x6 x7 x8 x9 x10 x11 : Option D) (ha : 0 ≤ a) (hl : ds.length ≤ 50000) : ∃ y6 y7 y8 y9 y10 y11, runs ⟨call (tab lt) (n + 2), call (tab lt) (n + 1)⟩ genBody [some (.int s), some (.int many), some (.int spoil), some (.ref L.length), some (.int a), some (.int (k : Int)), x6, x7, x8, x9, x10, x11, o12, o13] (L ++ [.list ds]) = .nx [some (.int s), some (.int many), some (.int spoil), some (.ref L.length), some (.int (genStep s k a).2), some (.int (k : Int)), y6, y7, y8, y9, y10, y11, o12, o13] (L ++ [.list (ds ++ (genStep s k a).1.map rowD)]) := by
  have hd : ds.length < 16777216 := by omega
  have cs : ∀ L, call (tab lt) (n + 2) f_law_seed [.int s, .int (k : Int)] L = .ok (.int (seedOf s k)) L := fun L => c_law_seed _ _
  have sb := seed_bd s k
  unfold genStep genPick genNum genPutAt genSize
  generalize seedOf s k = o at *
  have cp : ∀ L, call (tab lt) (n + 2) f_law_pick [.int o, .int 10] L = .ok (.int (pickOf o 10)) L := fun L => c_law_pick _ _ (by omega)
  have pb : 0 ≤ pickOf o 10 ∧ pickOf o 10 < 10 := by unfold pickOf; omega
  generalize pickOf o 10 = pk at *
  have hm7 : ∀ L, opD .mod L (.int (o / 7)) (.int (a + 2)) = some (.int (o / 7 % (a + 2))) := fun L => op_mod (by omega)
  have pk3 : ∀ x y z : Int, atI [D.int x, D.int y, D.int z] (o / 11 % 3) = some (D.int (if o / 11 % 3 = 0 then x else if o / 11 % 3 = 1 then y else z)) := fun x y z => by
    rw [pick3]
    congr 1
    split
    · rfl
    · split <;> rfl
  by_cases h3 : pk < 3
  · rw [if_pos h3]
    have e3 : a + (if o / 11 % 3 = 0 then 0 else if o / 11 % 3 = 1 then 0 else 2) = a + if o / 11 % 3 = 2 then 2 else 0 := by
      split
      · rw [if_neg (by omega)]
      · split
        · rw [if_neg (by omega)]
        · rw [if_pos (by omega)]
    refine ⟨some (.int o), some (.int pk), some (.int (o / 7 % (a + 2))), x9, x10, x11, ?_⟩
    simp (disch := first | assumption | (simp; done) | omega) [genBody, d_law_rows, cs, cp, op_div, hm7, h3, op_mod, pk3, e3, c_law_bytes, bmD, hd, rowD]
  · rw [if_neg h3]
    by_cases h4 : pk < 4
    · rw [if_pos h4]
      have hr := rng_of (i := 0) (j := 1 + o / 11 % 4) (by omega)
      rw [Int.sub_zero, rngD_F] at hr
      obtain ⟨y10, hf⟩ := part_loop (lt := lt) (n := n) (L := L) (o0 := some (.int s)) (o1 := some (.int many)) (o2 := some (.int spoil)) (o5 := some (.int (k : Int))) (o7 := some (.int pk)) (o8 := some (.int (o / 7 % (a + 2)))) (o9 := some (.int (1 + o / 11 % 4))) (o11 := x11) (o12 := o12) (o13 := o13) (o := o) (a := a) (1 + o / 11 % 4).toNat 0 ds x10 (by omega)
      simp only [partBody, genBody, d_law_rows] at hf
      have hl2 : (ds ++ (List.range' 0 (1 + o / 11 % 4).toNat).map fun i => rowD (genPart o a i)).length < 16777216 := by
        simp
        omega
      have hl3 : ds.length + (1 + o / 11 % 4).toNat < 16777216 := by omega
      refine ⟨some (.int o), some (.int pk), some (.int (o / 7 % (a + 2))), some (.int (1 + o / 11 % 4)), y10, x11, ?_⟩
      simp (disch := first | assumption | (simp; done) | omega) [genBody, d_law_rows, cs, cp, op_div, hm7, h3, h4, op_mod, hr, hf, bmD, hl3, List.range_eq_range', rowD]
    · rw [if_neg h4]
      have c := fun L => c_law_bytes (lt := lt) (n := n) (L := L) o 6 (by omega) (by omega)
      have hbl := bytesOf_len (s := o) (most := 6) (by omega)
      by_cases h9 : pk = 9
      · rw [if_pos h9]
        refine ⟨some (.int o), some (.int pk), some (.int (o / 7 % (a + 2))), x9, x10, some (rowD ⟨"carried", o / 7 % (a + 2), o / 13 % 10 :: bytesOf o 6⟩), ?_⟩
        have hp2 : ∀ x y : D, atI [x, y] (o / 17 % 2) = some (if o / 17 % 2 = 0 then x else y) := fun x y => pick2 x y _
        by_cases hz : o / 17 % 2 = 0
        · rw [if_pos hz]
          simp (disch := first | assumption | (simp; done) | (simp; omega) | omega) [genBody, d_law_rows, cs, cp, op_div, hm7, h3, h4, h9, op_mod, c, hp2, hz, bmD, hd, op_catT, rowD]
        · rw [if_neg hz]
          have hz1 : o / 17 % 2 = 1 := by omega
          simp (disch := first | assumption | (simp; done) | (simp; omega) | omega) [genBody, d_law_rows, cs, cp, op_div, hm7, h3, h4, h9, op_mod, c, hp2, hz1, bmD, hd, op_catT, rowD]
      · rw [if_neg h9]
        refine ⟨some (.int o), some (.int pk), some (.int (o / 7 % (a + 2))), x9, x10, x11, ?_⟩
        have h : pk = 4 ∨ pk = 5 ∨ pk = 6 ∨ pk = 7 ∨ pk = 8 := by omega
        rcases h with rfl | rfl | rfl | rfl | rfl <;> simp (disch := first | assumption | (simp; done) | omega) [genBody, d_law_rows, cs, cp, op_div, hm7, op_mod, bmD, hd, rowD]
theorem gen_loop {s many spoil : Int} {o12 o13 : Option D} : ∀ (c k : Nat) (a : Int) (ds : List D) (x5 x6 x7 x8 x9 x10 x11 : Option D), 0 ≤ a → ds.length + 10 * c ≤ 40000 → a + 4 * c ≤ 900000 → ∃ y5 y6 y7 y8 y9 y10 y11, fork ⟨call (tab lt) (n + 2), call (tab lt) (n + 1)⟩ [5] false genBody (fun _ => True) (rngF k c) [some (.int s), some (.int many), some (.int spoil), some (.ref L.length), some (.int a), x5, x6, x7, x8, x9, x10, x11, o12, o13] (L ++ [.list ds]) = .nx [some (.int s), some (.int many), some (.int spoil), some (.ref L.length), some (.int (gen s k c a).2), y5, y6, y7, y8, y9, y10, y11, o12, o13] (L ++ [.list (ds ++ (gen s k c a).1.map rowD)])
  | 0, k, a, ds, x5, x6, x7, x8, x9, x10, x11, _, _, _ => ⟨x5, x6, x7, x8, x9, x10, x11, by simp [fork_nil, rngF, gen]⟩
  | c + 1, k, a, ds, x5, x6, x7, x8, x9, x10, x11, ha, hl, h9 => by
    obtain ⟨z6, z7, z8, z9, z10, z11, hs⟩ := gen_step (lt := lt) (n := n) (L := L) (s := s) (many := many) (spoil := spoil) (a := a) (k := k) (o12 := o12) (o13 := o13) ds x6 x7 x8 x9 x10 x11 ha (by omega)
    have g := genStep_bd (s := s) (k := k) ha
    obtain ⟨y5, y6, y7, y8, y9, y10, y11, ih⟩ := gen_loop (s := s) (many := many) (spoil := spoil) (o12 := o12) (o13 := o13) c (k + 1) (genStep s k a).2 (ds ++ (genStep s k a).1.map rowD) (some (.int (k : Int))) z6 z7 z8 z9 z10 z11 (by omega) (by simp; omega) (by omega)
    refine ⟨y5, y6, y7, y8, y9, y10, y11, ?_⟩
    rw [rngF, fork_cons (δ1 := [some (.int s), some (.int many), some (.int spoil), some (.ref L.length), some (.int a), some (.int (k : Int)), x6, x7, x8, x9, x10, x11, o12, o13]) (by simp) hs trivial, ih]
    simp [gen]
end
end I
set_option Elab.async false
set_option linter.all false
set_option maxRecDepth 100000
set_option maxHeartbeats 4000000
/-! P18: such rows are good. -/
namespace I
open PySem PySem.Spec PyProof.Rows L2 G
theorem Row.good_of {k : Str} {n : Int} {b : List Int} (h1 : decide (k ∈ kinds) = true) (h2 : 0 ≤ n ∧ n ≤ 999999) (h3 : ∀ x ∈ b, 0 ≤ x ∧ x ≤ 255) (h4 : rowTail k (tupI b) = true) : Row.Good ⟨k, n, b⟩ := ⟨by
  unfold rowD
  have hw : isWithin (.int n) 0 999999 = true := by simp [isWithin, h2]
  rw [isRow_at, h1, hw, areBytes_ints h3, h4]
  rfl⟩
theorem good_put {n : Int} {b : List Int} (h2 : 0 ≤ n ∧ n ≤ 999999) (h3 : ∀ x ∈ b, 0 ≤ x ∧ x ≤ 255) (h4 : b.length ≤ 60) : Row.Good ⟨"put", n, b⟩ := Row.good_of (by decide) h2 h3 (isBody_of h3 h4)
theorem good_part {n : Int} {b : List Int} (h2 : 0 ≤ n ∧ n ≤ 999999) (h3 : ∀ x ∈ b, 0 ≤ x ∧ x ≤ 255) (h4 : b.length ≤ 60) : Row.Good ⟨"part", n, b⟩ := Row.good_of (by decide) h2 h3 (isBody_of h3 h4)
theorem good_carried {n x : Int} {b : List Int} (h2 : 0 ≤ n ∧ n ≤ 999999) (hx : 0 ≤ x ∧ x ≤ 9) (h3 : ∀ x ∈ b, 0 ≤ x ∧ x ≤ 255) (h4 : b.length ≤ 60) : Row.Good ⟨"carried", n, x :: b⟩ := Row.good_of (by decide) h2 (fun y hy => by
  rcases List.mem_cons.mp hy with rfl | hy
  · omega
  · exact h3 y hy) (by
  show (decide (x ≤ 9) && isBody (tupI b)) = true
  rw [isBody_of h3 h4, decide_eq_true hx.2]
  rfl)
theorem good_deal {n x : Int} (h2 : 0 ≤ n ∧ n ≤ 999999) (hx : 1 ≤ x ∧ x ≤ 9) : Row.Good ⟨"deal", n, [x]⟩ := Row.good_of (by decide) h2 (fun y hy => by
  rw [List.mem_singleton.mp hy]
  omega) (by
  show isWithin (.int x) 1 9 = true
  simp [isWithin, hx])
theorem good_out {n : Int} (h2 : 0 ≤ n ∧ n ≤ 999999) : Row.Good ⟨"out", n, []⟩ := Row.good_of (by decide) h2 nofun (by rfl)
theorem good_done {n : Int} (h2 : 0 ≤ n ∧ n ≤ 999999) : Row.Good ⟨"done", n, []⟩ := Row.good_of (by decide) h2 nofun (by rfl)
theorem good_new {n : Int} (h2 : 0 ≤ n ∧ n ≤ 999999) : Row.Good ⟨"new", n, []⟩ := Row.good_of (by decide) h2 nofun (by rfl)
theorem good_from {n : Int} (h2 : 0 ≤ n ∧ n ≤ 999999) : Row.Good ⟨"from", n, []⟩ := Row.good_of (by decide) h2 nofun (by rfl)
theorem bytes_good {s m : Int} (h : 3 ≤ m) (h2 : m ≤ 60) : (∀ x ∈ bytesOf s m, 0 ≤ x ∧ x ≤ 255) ∧ (bytesOf s m).length ≤ 60 := ⟨fun x hx => bytesOf_bd hx, by
  have := bytesOf_len (s := s) h
  omega⟩
theorem genStep_good {s a : Int} {k : Nat} (ha : 0 ≤ a ∧ a ≤ 900000) : (∀ r ∈ (genStep s k a).1, r.Good) ∧ a ≤ (genStep s k a).2 ∧ (genStep s k a).2 ≤ a + 4 ∧ (genStep s k a).1.length ≤ 5 := by
  have sb := seed_bd s k
  unfold genStep genPick genNum genPutAt genSize
  generalize seedOf s k = o at *
  have hn : 0 ≤ o / 7 % (a + 2) ∧ o / 7 % (a + 2) < a + 2 := ⟨Int.emod_nonneg _ (by omega), Int.emod_lt_of_pos _ (by omega)⟩
  generalize o / 7 % (a + 2) = v at *
  have pb : 0 ≤ pickOf o 10 ∧ pickOf o 10 < 10 := by unfold pickOf; omega
  split
  · have h := bytes_good (s := o) (m := 9) (by omega) (by omega)
    refine ⟨fun r hr => ?_, ?_, ?_, by simp⟩
    · rw [List.mem_singleton.mp hr]
      refine good_put ?_ h.1 h.2
      split <;> omega
    · simp only
      split <;> omega
    · simp only
      split <;> omega
  · split
    · refine ⟨fun r hr => ?_, by simp only; omega, by simp only; omega, by simp; omega⟩
      rcases List.mem_append.mp hr with hr | hr
      · obtain ⟨j, hj, rfl⟩ := List.mem_map.mp hr
        have hj := List.mem_range.mp hj
        have h := bytes_good (s := seedOf o j) (m := 6) (by omega) (by omega)
        exact good_part (by omega) h.1 h.2
      · rw [List.mem_singleton.mp hr]
        exact good_deal (by omega) (by omega)
    · split
      · split
        · refine ⟨fun r hr => ?_, by simp only; omega, by simp only; omega, by simp⟩
          rw [List.mem_singleton.mp hr]
          exact good_from (by omega)
        · have h := bytes_good (s := o) (m := 6) (by omega) (by omega)
          refine ⟨fun r hr => ?_, by simp only; omega, by simp only; omega, by simp⟩
          rw [List.mem_singleton.mp hr]
          exact good_carried (by omega) (by omega) h.1 h.2
      · refine ⟨fun r hr => ?_, by simp only; omega, by simp only; omega, by simp⟩
        rw [List.mem_singleton.mp hr]
        have hv : 0 ≤ v ∧ v ≤ 999999 := by omega
        split
        · exact good_out hv
        · split
          · exact good_new hv
          · exact good_done hv
theorem gen_good {s : Int} : ∀ (c k : Nat) (a : Int), 0 ≤ a → a + 4 * c ≤ 900000 → (∀ r ∈ (gen s k c a).1, r.Good) ∧ a ≤ (gen s k c a).2 ∧ (gen s k c a).2 ≤ a + 4 * c ∧ (gen s k c a).1.length ≤ 5 * c
  | 0, k, a, h, h2 => ⟨nofun, by simp [gen], by simp [gen], by simp [gen]⟩
  | c + 1, k, a, h, h2 => by
    obtain ⟨h3, h4, h5, h6⟩ := genStep_good (s := s) (k := k) (a := a) (by omega)
    obtain ⟨i1, i2, i3, i4⟩ := gen_good (s := s) c (k + 1) (genStep s k a).2 (by omega) (by omega)
    unfold gen
    refine ⟨fun r hr => ?_, by simp only; omega, by simp only; omega, by simp only [List.length_append]; omega⟩
    rcases List.mem_append.mp hr with hr | hr
    · exact h3 r hr
    · exact i1 r hr
end I
set_option Elab.async false
set_option linter.all false
set_option maxRecDepth 100000
set_option maxHeartbeats 4000000
/-! P19: rows as laws draw them. -/
namespace I
open PySem PySem.Spec PyProof.Rows L2 G
def drawn (s : Int) : List Row × Int := gen s 0 (s / 7 % 21).toNat 0
def oddRow (s sp a : Int) : Row := if sp % 4 = 0 then ⟨"put", s / 13 % (a + 1), []⟩ else if sp % 4 = 1 then ⟨"deal", 0, [1]⟩ else if sp % 4 = 2 then ⟨"part", a, []⟩ else ⟨"from", 3, []⟩
def oddAt (s : Int) (rs : List Row) : Nat := (s / 19 % ((rs.length : Int) + 1)).toNat
def spoilt (s sp : Int) : List Row := (drawn s).1.take (oddAt s (drawn s).1) ++ [oddRow s sp (drawn s).2] ++ (drawn s).1.drop (oddAt s (drawn s).1)
theorem pick4 (a b c d : D) (i : Int) : atI [a, b, c, d] (i % 4) = some (if i % 4 = 0 then a else if i % 4 = 1 then b else if i % 4 = 2 then c else d) := by
  have h : i % 4 = 0 ∨ i % 4 = 1 ∨ i % 4 = 2 ∨ i % 4 = 3 := by omega
  rcases h with h | h | h | h <;> rw [h] <;> rfl
theorem drawn_good (s : Int) : (∀ r ∈ (drawn s).1, r.Good) ∧ 0 ≤ (drawn s).2 ∧ (drawn s).2 ≤ 80 ∧ (drawn s).1.length ≤ 100 := by
  have := gen_good (s := s) (s / 7 % 21).toNat 0 0 (by omega) (by omega)
  unfold drawn
  exact ⟨this.1, this.2.1, by omega, by omega⟩
theorem spoilt_good (s sp : Int) : (∀ r ∈ spoilt s sp, r.Good) ∧ (spoilt s sp).length ≤ 101 := by
  obtain ⟨h1, h2, h3, h4⟩ := drawn_good s
  unfold spoilt
  generalize drawn s = p at *
  obtain ⟨rs, a⟩ := p
  simp only at *
  refine ⟨fun r hr => ?_, by simp; omega⟩
  rw [List.append_assoc] at hr
  rcases List.mem_append.mp hr with hr | hr
  · exact h1 r (List.mem_of_mem_take hr)
  · rcases List.mem_append.mp hr with hr | hr
    · rw [List.mem_singleton.mp hr]
      unfold oddRow
      have hm := Int.emod_nonneg (s / 13) (by omega : a + 1 ≠ 0)
      have hm2 := Int.emod_lt_of_pos (s / 13) (by omega : 0 < a + 1)
      split
      · exact good_put (by omega) nofun (by simp)
      · split
        · exact good_deal (by omega) (by omega)
        · split
          · exact good_part (by omega) nofun (by simp)
          · exact good_from (by omega)
    · exact h1 r (List.mem_of_mem_drop hr)
section
variable {lt : Nat → Option Fd} {n : Nat} {L : Store}
theorem sl_cell {k : Nat} {ds : List D} (h : L[k]? = some (.list ds)) (i j : Option Int) : slD L (.ref k) i j = some (.lst (cutD ds i j)) := sl_list h i j
theorem c_law_rows (s sp : Int) (hsp : 0 ≤ sp) : call (tab lt) (n + 3) f_law_rows [.int s, .int 20, .int sp] L = .ok (if 0 < sp then .lst ((spoilt s sp).map rowD) else .ref L.length) (L ++ [.list ((drawn s).1.map rowD)]) := by
  rw [call_of (fd := d_law_rows) rfl rfl]
  have hr := rng_of (i := 0) (j := s / 7 % 21) (by omega)
  rw [Int.sub_zero, rngD_F] at hr
  obtain ⟨y5, y6, y7, y8, y9, y10, y11, hf⟩ := gen_loop (lt := lt) (n := n) (L := L) (s := s) (many := 20) (spoil := sp) (o12 := none) (o13 := none) (s / 7 % 21).toNat 0 0 [] none none none none none none none (by omega) (by simp; omega) (by omega)
  obtain ⟨h1, h2, h3, h4⟩ := drawn_good s
  simp only [genBody, d_law_rows] at hf
  have e : gen s 0 (s / 7 % 21).toNat 0 = drawn s := rfl
  rw [e] at hf
  unfold spoilt oddAt oddRow
  generalize drawn s = p at *
  obtain ⟨rs, a⟩ := p
  simp only at *
  by_cases hz : 0 < sp
  · rw [if_pos hz]
    have hat := Int.emod_nonneg (s / 19) (by omega : (rs.length : Int) + 1 ≠ 0)
    have hat2 := Int.emod_lt_of_pos (s / 19) (by omega : 0 < (rs.length : Int) + 1)
    have hs := fun i j => sl_cell (L := L ++ [.list (rs.map rowD)]) (get_last L _) i j
    have hm : opD .mod (L ++ [.list (rs.map rowD)]) (.int (s / 19)) (.int ((rs.length : Int) + 1)) = some (.int (s / 19 % ((rs.length : Int) + 1))) := op_mod (by omega)
    have hm2 : opD .mod (L ++ [.list (rs.map rowD)]) (.int (s / 13)) (.int (a + 1)) = some (.int (s / 13 % (a + 1))) := op_mod (by omega)
    generalize s / 19 % ((rs.length : Int) + 1) = at_ at *
    have hlen := len_list (L := L ++ [.list (rs.map rowD)]) (get_last L _)
    have c1 := cutD_upto (ds := rs.map rowD) (j := at_) hat (by simp; omega)
    have c2 := cutD_from (ds := rs.map rowD) (j := at_) hat (by simp; omega)
    simp (disch := first | assumption | (simp; done) | (simp; omega) | omega) [d_law_rows, op_div, op_mod, hr, hf, hz, hlen, hm, hm2, pick4, hs, c1, c2, op_catL, rowD, -List.map_take, -List.map_drop]
    rw [List.map_take, List.map_drop]
    by_cases a1 : sp % 4 = 0
    · simp only [a1, ↓reduceIte]
      rfl
    · by_cases a2 : sp % 4 = 1
      · simp only [a1, a2, ↓reduceIte]
        rfl
      · by_cases a3 : sp % 4 = 2
        · simp only [a1, a2, a3, ↓reduceIte]
          rfl
        · simp only [a1, a2, a3, ↓reduceIte]
          rfl
  · rw [if_neg hz]
    have hz0 : sp = 0 := by omega
    subst hz0
    simp (disch := first | assumption | (simp; done) | omega) [d_law_rows, op_div, op_mod, hr, hf]
end
end I
set_option Elab.async false
set_option linter.all false
set_option maxRecDepth 100000
set_option maxHeartbeats 4000000
/-! D_k08: printed by lawgen.py. -/
namespace Q
open PySem PySem.Spec PyProof.Rows L2 G I
def l_whole : Nat := 200
def l_made : Nat := 201
def l_about : Nat := 202
def l_law : Nat := 203
/-- _law_whole: 0 _law_found -/
def dl_whole : Fd := ⟨1, 1, Ss.cons (S.ret (E.bop true (Es.cons (E.isi (E.var 0) "int") (Es.cons (E.not (E.isi (E.var 0) "bool")) Es.nil)))) Ss.nil⟩
/-- _law_made: 0 _law_rows_here, 1 _law_letters, 2 _law_after, 3 _law_parts, 4 _law_kind, 5 _law_number, 6 _law_body, 7 _law_other, 8 _law_text, 9 _law_one, 10 _law_k -/
def dl_made : Fd := ⟨1, 11, Ss.cons (S.set [1] false (E.dict [] (Es.nil))) (Ss.cons (S.set [2] false (E.int 0)) (Ss.cons (S.set [3] false (E.lst (Es.nil))) (Ss.cons (S.for_ [4, 5, 6] true (It.val (E.var 0)) (Ss.cons (S.ite (E.cmp .eq (E.var 4) (E.str "part")) (Ss.cons (S.set [3] false (E.bin .add (E.var 3) (E.lst (Es.cons (E.tup (Es.cons (E.var 5) (Es.cons (E.var 6) Es.nil))) Es.nil)))) Ss.nil) (Ss.cons (S.ite (E.cmp .eq (E.var 4) (E.str "deal")) (Ss.cons (S.ite (E.cmp .ne (E.lc (E.ix (E.var 9) (E.int 0)) [9] false (It.val (E.var 3)) Oe.none [9]) (E.lc (E.bin .add (E.var 5) (E.var 10)) [10] false (It.rng (E.ix (E.var 6) (E.int 0))) Oe.none [10])) (Ss.cons (S.ret E.non) Ss.nil) (Ss.nil)) (Ss.cons (S.for_ [7, 8] true (It.val (E.var 3)) (Ss.cons (S.ite (E.cmp .lt (E.var 7) (E.var 2)) (Ss.cons (S.ret E.non) Ss.nil) (Ss.nil)) (Ss.cons (S.dset (E.var 1) (E.var 7) (E.tup (Es.cons (E.var 8) (Es.cons (E.int 0) Es.nil)))) (Ss.cons (S.set [2] false (E.bin .add (E.var 7) (E.int 1))) Ss.nil)))) (Ss.cons (S.set [3] false (E.lst (Es.nil))) Ss.nil))) (Ss.cons (S.ite (E.bop false (Es.cons (E.cmp .ne (E.var 3) (E.lst (Es.nil))) (Es.cons (E.bop true (Es.cons (E.cmp .eq (E.var 4) (E.str "put")) (Es.cons (E.cmp .lt (E.var 5) (E.var 2)) Es.nil))) Es.nil))) (Ss.cons (S.ret E.non) Ss.nil) (Ss.cons (S.ite (E.cmp .eq (E.var 4) (E.str "put")) (Ss.cons (S.dset (E.var 1) (E.var 5) (E.tup (Es.cons (E.var 6) (Es.cons (E.int 0) Es.nil)))) (Ss.cons (S.set [2] false (E.bin .add (E.var 5) (E.int 1))) Ss.nil)) (Ss.cons (S.ite (E.cmp .eq (E.var 4) (E.str "from")) (Ss.cons (S.set [2] false (E.bi .max (Es.cons (E.var 2) (Es.cons (E.var 5) Es.nil)))) Ss.nil) (Ss.cons (S.set [2] false (E.fn l_about (Es.cons (E.var 1) (Es.cons (E.var 2) (Es.cons (E.var 4) (Es.cons (E.var 5) (Es.cons (E.var 6) Es.nil))))))) Ss.nil)) Ss.nil)) Ss.nil)) Ss.nil)) Ss.nil)) Ss.nil)) (Ss.cons (S.ret (E.tup (Es.cons (E.var 1) (Es.cons (E.var 2) (Es.cons (E.var 3) Es.nil))))) Ss.nil))))⟩
/-- _law_about: 0 _law_letters, 1 _law_after, 2 _law_kind, 3 _law_number, 4 _law_body, 5 _law_text, 6 _law_times -/
def dl_about : Fd := ⟨5, 7, Ss.cons (S.ite (E.cmp .eq (E.var 2) (E.str "carried")) (Ss.cons (S.dset (E.var 0) (E.var 3) (E.tup (Es.cons (E.sl (E.var 4) (Oe.some (E.int 1)) Oe.none) (Es.cons (E.ix (E.var 4) (E.int 0)) Es.nil)))) (Ss.cons (S.ret (E.bi .max (Es.cons (E.var 1) (Es.cons (E.bin .add (E.var 3) (E.int 1)) Es.nil)))) Ss.nil)) (Ss.nil)) (Ss.cons (S.ite (E.bop true (Es.cons (E.cmp .mem (E.var 3) (E.var 0)) (Es.cons (E.cmp .eq (E.var 2) (E.str "done")) Es.nil))) (Ss.cons (S.expr (E.bm .pop (E.var 0) (Es.cons (E.var 3) Es.nil))) Ss.nil) (Ss.cons (S.ite (E.cmp .mem (E.var 3) (E.var 0)) (Ss.cons (S.set [5, 6] true (E.ix (E.var 0) (E.var 3))) (Ss.cons (S.dset (E.var 0) (E.var 3) (E.tup (Es.cons (E.var 5) (Es.cons (E.ite (E.cmp .eq (E.var 2) (E.str "out")) (E.bin .add (E.var 6) (E.int 1)) (E.int 0)) Es.nil)))) Ss.nil)) (Ss.nil)) Ss.nil)) (Ss.cons (S.ret (E.var 1)) Ss.nil))⟩
/-- law: 0 _law_script, 1 _law_rows_here, 2 _law_due, 3 _law_found, 4 _law_letters, 5 _law_after, 6 _law_parts, 7 _law_number -/
def dl_law : Fd := ⟨1, 8, Ss.cons (S.set [1] false (E.fn f_law_rows (Es.cons (E.fn f_law_seed (Es.cons (E.fn f_law_cell (Es.cons (E.var 0) (Es.cons (E.int 0) Es.nil))) (Es.cons (E.int 0) Es.nil))) (Es.cons (E.int 20) (Es.cons (E.bin .mul (E.bin .mod (E.fn f_law_cell (Es.cons (E.var 0) (Es.cons (E.int 1) Es.nil))) (E.int 2)) (E.bin .add (E.int 1) (E.bin .mod (E.fn f_law_cell (Es.cons (E.var 0) (Es.cons (E.int 2) Es.nil))) (E.int 4)))) Es.nil))))) (Ss.cons (S.set [2] false (E.fn l_made (Es.cons (E.var 1) Es.nil))) (Ss.cons (S.set [3] false E.non) (Ss.cons (S.try_ (Ss.cons (S.set [3] false (E.fn f_made (Es.cons (E.var 1) Es.nil))) Ss.nil) [("Broken", Hb.set 3 (E.non))]) (Ss.cons (S.ite (E.bop false (Es.cons (E.isN (E.var 2)) (Es.cons (E.cmp .ne (E.ix (E.var 2) (E.int 2)) (E.lst (Es.nil))) Es.nil))) (Ss.cons (S.ret (E.isN (E.var 3))) Ss.nil) (Ss.nil)) (Ss.cons (S.set [4, 5, 6] true (E.var 2)) (Ss.cons (S.ite (E.bop false (Es.cons (E.isN (E.var 3)) (Es.cons (E.not (E.isi (E.var 3) "tuple")) (Es.cons (E.not (E.isi (E.ix (E.var 3) (E.int 0)) "list")) (Es.cons (E.not (E.fn l_whole (Es.cons (E.ix (E.var 3) (E.int 1)) Es.nil))) Es.nil))))) (Ss.cons (S.ret (E.bl false)) Ss.nil) (Ss.nil)) (Ss.cons (S.ret (E.cmp .eq (E.var 3) (E.tup (Es.cons (E.lc (E.bin .add (E.tup (Es.cons (E.var 7) Es.nil)) (E.ix (E.var 4) (E.var 7))) [7] false (It.val (E.bi .sorted (Es.cons (E.var 4) Es.nil))) Oe.none [7]) (Es.cons (E.var 5) Es.nil))))) Ss.nil)))))))⟩
def own : List Fd := [dl_whole, dl_made, dl_about, dl_law]
def ownN : List (Option Str × Str) := [((none, ("_law_whole" : Str)) : Option Str × Str), ((none, ("_law_made" : Str)) : Option Str × Str), ((none, ("_law_about" : Str)) : Option Str × Str), ((none, ("law" : Str)) : Option Str × Str)]
def lt : Nat → Option Fd := fun i => own[i]?
end Q
set_option Elab.async false
set_option linter.all false
set_option maxRecDepth 100000
set_option maxHeartbeats 4000000
/-! T_k08: printed by lawgen.py. -/
namespace Q
open PySem PySem.Spec PyProof.Rows L2 G I
def top (i : Nat) : Stmt := PySem.Challenge.pw_queuehold_k08_made.main.body.getD i (.Pass ⟨0, 0, 0, 0⟩)
abbrev s_is_within : Stmt := top 5
abbrev s_are_bytes : Stmt := top 6
abbrev s_is_body : Stmt := top 13
abbrev s_is_row : Stmt := top 14
abbrev s_State_init : Stmt := inClass (top 16) 0
abbrev s_State_put : Stmt := inClass (top 16) 1
abbrev s_State_deal : Stmt := inClass (top 16) 2
abbrev s_State_change : Stmt := inClass (top 16) 3
abbrev s_State_follow : Stmt := inClass (top 16) 4
abbrev s_made : Stmt := top 17
abbrev s__law_cell : Stmt := top 19
abbrev s__law_whole : Stmt := top 20
abbrev s__law_seed : Stmt := top 21
abbrev s__law_pick : Stmt := top 22
abbrev s__law_bytes : Stmt := top 23
abbrev s__law_made : Stmt := top 24
abbrev s__law_about : Stmt := top 25
abbrev s__law_rows : Stmt := top 26
abbrev s_law : Stmt := top 27
def fn : List He.DefD := ([
  ⟨("is_within", none), "is_within", "is_within", defArgs s_is_within, defBody s_is_within, defScope s_is_within, [], []⟩,
  ⟨("are_bytes", none), "are_bytes", "are_bytes", defArgs s_are_bytes, defBody s_are_bytes, defScope s_are_bytes, [], []⟩,
  ⟨("is_body", none), "is_body", "is_body", defArgs s_is_body, defBody s_is_body, defScope s_is_body, [], []⟩,
  ⟨("is_row", none), "is_row", "is_row", defArgs s_is_row, defBody s_is_row, defScope s_is_row, [], []⟩,
  ⟨("State", some "__init__"), "__init__", "State.__init__", defArgs s_State_init, defBody s_State_init, defScope s_State_init, [], []⟩,
  ⟨("State", some "put"), "put", "State.put", defArgs s_State_put, defBody s_State_put, defScope s_State_put, [], []⟩,
  ⟨("State", some "deal"), "deal", "State.deal", defArgs s_State_deal, defBody s_State_deal, defScope s_State_deal, [], []⟩,
  ⟨("State", some "change"), "change", "State.change", defArgs s_State_change, defBody s_State_change, defScope s_State_change, [], []⟩,
  ⟨("State", some "follow"), "follow", "State.follow", defArgs s_State_follow, defBody s_State_follow, defScope s_State_follow, [], []⟩,
  ⟨("made", none), "made", "made", defArgs s_made, defBody s_made, defScope s_made, [], []⟩,
  ⟨("_law_cell", none), "_law_cell", "_law_cell", defArgs s__law_cell, defBody s__law_cell, defScope s__law_cell, [], []⟩,
  ⟨("_law_whole", none), "_law_whole", "_law_whole", defArgs s__law_whole, defBody s__law_whole, defScope s__law_whole, [], []⟩,
  ⟨("_law_seed", none), "_law_seed", "_law_seed", defArgs s__law_seed, defBody s__law_seed, defScope s__law_seed, [], []⟩,
  ⟨("_law_pick", none), "_law_pick", "_law_pick", defArgs s__law_pick, defBody s__law_pick, defScope s__law_pick, [], []⟩,
  ⟨("_law_bytes", none), "_law_bytes", "_law_bytes", defArgs s__law_bytes, defBody s__law_bytes, defScope s__law_bytes, [], []⟩,
  ⟨("_law_made", none), "_law_made", "_law_made", defArgs s__law_made, defBody s__law_made, defScope s__law_made, [], []⟩,
  ⟨("_law_about", none), "_law_about", "_law_about", defArgs s__law_about, defBody s__law_about, defScope s__law_about, [], []⟩,
  ⟨("_law_rows", none), "_law_rows", "_law_rows", defArgs s__law_rows, defBody s__law_rows, defScope s__law_rows, [], []⟩,
  ⟨("law", none), "law", "law", defArgs s_law, defBody s_law, defScope s_law, [], []⟩] : List He.DefD)
def hd : Hd where
  fns := ([("is_within" : Str), ("are_bytes" : Str), ("is_body" : Str), ("is_row" : Str), ("made" : Str), ("_law_cell" : Str), ("_law_whole" : Str), ("_law_seed" : Str), ("_law_pick" : Str), ("_law_bytes" : Str), ("_law_made" : Str), ("_law_about" : Str), ("_law_rows" : Str), ("law" : Str)])
  mts := ([(("State", "__init__") : Str × Str), (("State", "put") : Str × Str), (("State", "deal") : Str × Str), (("State", "change") : Str × Str), (("State", "follow") : Str × Str)])
  excs := [("QueueError" : Str), ("Broken" : Str), ("BadRow" : Str)]
  cls := [("State" : Str)]
  flds := [(("State", "after") : Str × Str), (("State", "mail") : Str × Str), (("State", "parts") : Str × Str)]
  gi := [(("MOST_BODY", 60) : Str × Int), (("MOST_NUMBER", 999999) : Str × Int), (("MOST_DEAL", 9) : Str × Int), (("MOST_TRIES", 9) : Str × Int)]
  gs := []
  gt := [(("KINDS", [("put" : Str), ("out" : Str), ("done" : Str), ("from" : Str), ("part" : Str), ("deal" : Str), ("carried" : Str), ("new" : Str)]) : Str × List Str)]
  gk := []
  free := [("isinstance" : Str), ("int" : Str), ("bool" : Str), ("str" : Str), ("tuple" : Str), ("list" : Str), ("len" : Str), ("sorted" : Str), ("sum" : Str), ("max" : Str), ("min" : Str), ("range" : Str), ("enumerate" : Str), ("dict" : Str), ("set" : Str)]
def name : Nat → Option (Option Str × Str) := fun i => if i < 200 then baseN[i]? else ownN[i - 200]?
def hereL : List Nat := ([f_is_within, f_are_bytes, f_is_body, f_is_row, f_State_init, f_State_put, f_State_deal, f_State_change, f_State_follow, f_made, f_law_cell, l_whole, f_law_seed, f_law_pick, f_law_bytes, l_made, l_about, f_law_rows, l_law])
def here : Nat → Bool := fun i => hereL.contains i
def cfg : Cfg := cfgOf hd name here
section
variable {T : Sta}
theorem sc_f_is_within : FnScope ["thing", "low", "high"] ["thing", "low", "high"] (defScope s_is_within) := ⟨rfl, rfl, rfl, by decide +kernel, rfl, by decide +kernel, by decide +kernel⟩
theorem df_f_is_within (h : Tx hd fn T) : Df T (He.ga T.K "is_within") "is_within" "is_within" s_is_within := ⟨h.s.d.def_ 0 rfl⟩
theorem dk_f_is_within (h : Tx hd fn T) : DefAt T cfg (tab lt) f_is_within := def_fn (n := "is_within") h (by decide +kernel) (by decide +kernel) ⟨df_f_is_within h, d_is_within, ["thing", "low", "high"], ["thing", "low", "high"], rfl, sc_f_is_within, rfl, rfl, by decide +kernel, fun g F => F.bindsN fun _ _ _ _ _ _ us hl => match us, hl with | [_, _, _], _ => rfl⟩
theorem sc_f_are_bytes : FnScope ["thing", "one"] ["thing"] (defScope s_are_bytes) := ⟨rfl, rfl, rfl, by decide +kernel, rfl, by decide +kernel, by decide +kernel⟩
theorem df_f_are_bytes (h : Tx hd fn T) : Df T (He.ga T.K "are_bytes") "are_bytes" "are_bytes" s_are_bytes := ⟨h.s.d.def_ 1 rfl⟩
theorem dk_f_are_bytes (h : Tx hd fn T) : DefAt T cfg (tab lt) f_are_bytes := def_fn (n := "are_bytes") h (by decide +kernel) (by decide +kernel) ⟨df_f_are_bytes h, d_are_bytes, ["thing", "one"], ["thing"], rfl, sc_f_are_bytes, rfl, rfl, by decide +kernel, fun g F => F.bindsN fun _ _ _ _ _ _ us hl => match us, hl with | [_], _ => rfl⟩
theorem sc_f_is_body : FnScope ["thing"] ["thing"] (defScope s_is_body) := ⟨rfl, rfl, rfl, by decide +kernel, rfl, by decide +kernel, by decide +kernel⟩
theorem df_f_is_body (h : Tx hd fn T) : Df T (He.ga T.K "is_body") "is_body" "is_body" s_is_body := ⟨h.s.d.def_ 2 rfl⟩
theorem dk_f_is_body (h : Tx hd fn T) : DefAt T cfg (tab lt) f_is_body := def_fn (n := "is_body") h (by decide +kernel) (by decide +kernel) ⟨df_f_is_body h, d_is_body, ["thing"], ["thing"], rfl, sc_f_is_body, rfl, rfl, by decide +kernel, fun g F => F.bindsN fun _ _ _ _ _ _ us hl => match us, hl with | [_], _ => rfl⟩
theorem sc_f_is_row : FnScope ["thing"] ["thing"] (defScope s_is_row) := ⟨rfl, rfl, rfl, by decide +kernel, rfl, by decide +kernel, by decide +kernel⟩
theorem df_f_is_row (h : Tx hd fn T) : Df T (He.ga T.K "is_row") "is_row" "is_row" s_is_row := ⟨h.s.d.def_ 3 rfl⟩
theorem dk_f_is_row (h : Tx hd fn T) : DefAt T cfg (tab lt) f_is_row := def_fn (n := "is_row") h (by decide +kernel) (by decide +kernel) ⟨df_f_is_row h, d_is_row, ["thing"], ["thing"], rfl, sc_f_is_row, rfl, rfl, by decide +kernel, fun g F => F.bindsN fun _ _ _ _ _ _ us hl => match us, hl with | [_], _ => rfl⟩
theorem sc_f_State_init : FnScope ["self"] ["self"] (defScope s_State_init) := ⟨rfl, rfl, rfl, by decide +kernel, rfl, by decide +kernel, by decide +kernel⟩
theorem df_f_State_init (h : Tx hd fn T) : Df T (He.ma T.K (He.ga T.K "State") "__init__") "__init__" "State.__init__" s_State_init := ⟨h.s.d.def_ 4 rfl⟩
theorem dk_f_State_init (h : Tx hd fn T) : DefAt T cfg (tab lt) f_State_init := def_mt (X := "State") (m := "__init__") h (by decide +kernel) (by decide +kernel) (by decide +kernel) ⟨df_f_State_init h, d_State_init, ["self"], ["self"], rfl, sc_f_State_init, rfl, rfl, by decide +kernel, fun g F => F.bindsN fun _ _ _ _ _ _ us hl => match us, hl with | [_], _ => rfl⟩
theorem sc_f_State_put : FnScope ["self", "number", "body"] ["self", "number", "body"] (defScope s_State_put) := ⟨rfl, rfl, rfl, by decide +kernel, rfl, by decide +kernel, by decide +kernel⟩
theorem df_f_State_put (h : Tx hd fn T) : Df T (He.ma T.K (He.ga T.K "State") "put") "put" "State.put" s_State_put := ⟨h.s.d.def_ 5 rfl⟩
theorem dk_f_State_put (h : Tx hd fn T) : DefAt T cfg (tab lt) f_State_put := def_mt (X := "State") (m := "put") h (by decide +kernel) (by decide +kernel) (by decide +kernel) ⟨df_f_State_put h, d_State_put, ["self", "number", "body"], ["self", "number", "body"], rfl, sc_f_State_put, rfl, rfl, by decide +kernel, fun g F => F.bindsN fun _ _ _ _ _ _ us hl => match us, hl with | [_, _, _], _ => rfl⟩
theorem sc_f_State_deal : FnScope ["self", "first", "many", "number", "body"] ["self", "first", "many"] (defScope s_State_deal) := ⟨rfl, rfl, rfl, by decide +kernel, rfl, by decide +kernel, by decide +kernel⟩
theorem df_f_State_deal (h : Tx hd fn T) : Df T (He.ma T.K (He.ga T.K "State") "deal") "deal" "State.deal" s_State_deal := ⟨h.s.d.def_ 6 rfl⟩
theorem dk_f_State_deal (h : Tx hd fn T) : DefAt T cfg (tab lt) f_State_deal := def_mt (X := "State") (m := "deal") h (by decide +kernel) (by decide +kernel) (by decide +kernel) ⟨df_f_State_deal h, d_State_deal, ["self", "first", "many", "number", "body"], ["self", "first", "many"], rfl, sc_f_State_deal, rfl, rfl, by decide +kernel, fun g F => F.bindsN fun _ _ _ _ _ _ us hl => match us, hl with | [_, _, _], _ => rfl⟩
theorem sc_f_State_change : FnScope ["self", "kind", "number", "body", "old", "times"] ["self", "kind", "number", "body"] (defScope s_State_change) := ⟨rfl, rfl, rfl, by decide +kernel, rfl, by decide +kernel, by decide +kernel⟩
theorem df_f_State_change (h : Tx hd fn T) : Df T (He.ma T.K (He.ga T.K "State") "change") "change" "State.change" s_State_change := ⟨h.s.d.def_ 7 rfl⟩
theorem dk_f_State_change (h : Tx hd fn T) : DefAt T cfg (tab lt) f_State_change := def_mt (X := "State") (m := "change") h (by decide +kernel) (by decide +kernel) (by decide +kernel) ⟨df_f_State_change h, d_State_change, ["self", "kind", "number", "body", "old", "times"], ["self", "kind", "number", "body"], rfl, sc_f_State_change, rfl, rfl, by decide +kernel, fun g F => F.bindsN fun _ _ _ _ _ _ us hl => match us, hl with | [_, _, _, _], _ => rfl⟩
theorem sc_f_State_follow : FnScope ["self", "row", "kind", "number", "body"] ["self", "row"] (defScope s_State_follow) := ⟨rfl, rfl, rfl, by decide +kernel, rfl, by decide +kernel, by decide +kernel⟩
theorem df_f_State_follow (h : Tx hd fn T) : Df T (He.ma T.K (He.ga T.K "State") "follow") "follow" "State.follow" s_State_follow := ⟨h.s.d.def_ 8 rfl⟩
theorem dk_f_State_follow (h : Tx hd fn T) : DefAt T cfg (tab lt) f_State_follow := def_mt (X := "State") (m := "follow") h (by decide +kernel) (by decide +kernel) (by decide +kernel) ⟨df_f_State_follow h, d_State_follow, ["self", "row", "kind", "number", "body"], ["self", "row"], rfl, sc_f_State_follow, rfl, rfl, by decide +kernel, fun g F => F.bindsN fun _ _ _ _ _ _ us hl => match us, hl with | [_, _], _ => rfl⟩
theorem sc_f_made : FnScope ["rows", "row", "state", "number"] ["rows"] (defScope s_made) := ⟨rfl, rfl, rfl, by decide +kernel, rfl, by decide +kernel, by decide +kernel⟩
theorem df_f_made (h : Tx hd fn T) : Df T (He.ga T.K "made") "made" "made" s_made := ⟨h.s.d.def_ 9 rfl⟩
theorem dk_f_made (h : Tx hd fn T) : DefAt T cfg (tab lt) f_made := def_fn (n := "made") h (by decide +kernel) (by decide +kernel) ⟨df_f_made h, d_made, ["rows", "row", "state", "number"], ["rows"], rfl, sc_f_made, rfl, rfl, by decide +kernel, fun g F => F.bindsN fun _ _ _ _ _ _ us hl => match us, hl with | [_], _ => rfl⟩
theorem sc_f__law_cell : FnScope ["_law_script", "_law_k"] ["_law_script", "_law_k"] (defScope s__law_cell) := ⟨rfl, rfl, rfl, by decide +kernel, rfl, by decide +kernel, by decide +kernel⟩
theorem df_f__law_cell (h : Tx hd fn T) : Df T (He.ga T.K "_law_cell") "_law_cell" "_law_cell" s__law_cell := ⟨h.s.d.def_ 10 rfl⟩
theorem dk_f__law_cell (h : Tx hd fn T) : DefAt T cfg (tab lt) f_law_cell := def_fn (n := "_law_cell") h (by decide +kernel) (by decide +kernel) ⟨df_f__law_cell h, d_law_cell, ["_law_script", "_law_k"], ["_law_script", "_law_k"], rfl, sc_f__law_cell, rfl, rfl, by decide +kernel, fun g F => F.bindsN fun _ _ _ _ _ _ us hl => match us, hl with | [_, _], _ => rfl⟩
theorem sc_f__law_whole : FnScope ["_law_found"] ["_law_found"] (defScope s__law_whole) := ⟨rfl, rfl, rfl, by decide +kernel, rfl, by decide +kernel, by decide +kernel⟩
theorem df_f__law_whole (h : Tx hd fn T) : Df T (He.ga T.K "_law_whole") "_law_whole" "_law_whole" s__law_whole := ⟨h.s.d.def_ 11 rfl⟩
theorem dk_f__law_whole (h : Tx hd fn T) : DefAt T cfg (tab lt) l_whole := def_fn (n := "_law_whole") h (by decide +kernel) (by decide +kernel) ⟨df_f__law_whole h, dl_whole, ["_law_found"], ["_law_found"], rfl, sc_f__law_whole, rfl, rfl, by decide +kernel, fun g F => F.bindsN fun _ _ _ _ _ _ us hl => match us, hl with | [_], _ => rfl⟩
theorem sc_f__law_seed : FnScope ["_law_seed_here", "_law_k"] ["_law_seed_here", "_law_k"] (defScope s__law_seed) := ⟨rfl, rfl, rfl, by decide +kernel, rfl, by decide +kernel, by decide +kernel⟩
theorem df_f__law_seed (h : Tx hd fn T) : Df T (He.ga T.K "_law_seed") "_law_seed" "_law_seed" s__law_seed := ⟨h.s.d.def_ 12 rfl⟩
theorem dk_f__law_seed (h : Tx hd fn T) : DefAt T cfg (tab lt) f_law_seed := def_fn (n := "_law_seed") h (by decide +kernel) (by decide +kernel) ⟨df_f__law_seed h, d_law_seed, ["_law_seed_here", "_law_k"], ["_law_seed_here", "_law_k"], rfl, sc_f__law_seed, rfl, rfl, by decide +kernel, fun g F => F.bindsN fun _ _ _ _ _ _ us hl => match us, hl with | [_, _], _ => rfl⟩
theorem sc_f__law_pick : FnScope ["_law_seed_here", "_law_many"] ["_law_seed_here", "_law_many"] (defScope s__law_pick) := ⟨rfl, rfl, rfl, by decide +kernel, rfl, by decide +kernel, by decide +kernel⟩
theorem df_f__law_pick (h : Tx hd fn T) : Df T (He.ga T.K "_law_pick") "_law_pick" "_law_pick" s__law_pick := ⟨h.s.d.def_ 13 rfl⟩
theorem dk_f__law_pick (h : Tx hd fn T) : DefAt T cfg (tab lt) f_law_pick := def_fn (n := "_law_pick") h (by decide +kernel) (by decide +kernel) ⟨df_f__law_pick h, d_law_pick, ["_law_seed_here", "_law_many"], ["_law_seed_here", "_law_many"], rfl, sc_f__law_pick, rfl, rfl, by decide +kernel, fun g F => F.bindsN fun _ _ _ _ _ _ us hl => match us, hl with | [_, _], _ => rfl⟩
theorem sc_f__law_bytes : FnScope ["_law_seed_here", "_law_most", "_law_many", "_law_k"] ["_law_seed_here", "_law_most"] (defScope s__law_bytes) := ⟨rfl, rfl, rfl, by decide +kernel, rfl, by decide +kernel, by decide +kernel⟩
theorem df_f__law_bytes (h : Tx hd fn T) : Df T (He.ga T.K "_law_bytes") "_law_bytes" "_law_bytes" s__law_bytes := ⟨h.s.d.def_ 14 rfl⟩
theorem dk_f__law_bytes (h : Tx hd fn T) : DefAt T cfg (tab lt) f_law_bytes := def_fn (n := "_law_bytes") h (by decide +kernel) (by decide +kernel) ⟨df_f__law_bytes h, d_law_bytes, ["_law_seed_here", "_law_most", "_law_many", "_law_k"], ["_law_seed_here", "_law_most"], rfl, sc_f__law_bytes, rfl, rfl, by decide +kernel, fun g F => F.bindsN fun _ _ _ _ _ _ us hl => match us, hl with | [_, _], _ => rfl⟩
theorem sc_f__law_made : FnScope ["_law_rows_here", "_law_letters", "_law_after", "_law_parts", "_law_kind", "_law_number", "_law_body", "_law_other", "_law_text", "_law_one", "_law_k"] ["_law_rows_here"] (defScope s__law_made) := ⟨rfl, rfl, rfl, by decide +kernel, rfl, by decide +kernel, by decide +kernel⟩
theorem df_f__law_made (h : Tx hd fn T) : Df T (He.ga T.K "_law_made") "_law_made" "_law_made" s__law_made := ⟨h.s.d.def_ 15 rfl⟩
theorem dk_f__law_made (h : Tx hd fn T) : DefAt T cfg (tab lt) l_made := def_fn (n := "_law_made") h (by decide +kernel) (by decide +kernel) ⟨df_f__law_made h, dl_made, ["_law_rows_here", "_law_letters", "_law_after", "_law_parts", "_law_kind", "_law_number", "_law_body", "_law_other", "_law_text", "_law_one", "_law_k"], ["_law_rows_here"], rfl, sc_f__law_made, rfl, rfl, by decide +kernel, fun g F => F.bindsN fun _ _ _ _ _ _ us hl => match us, hl with | [_], _ => rfl⟩
theorem sc_f__law_about : FnScope ["_law_letters", "_law_after", "_law_kind", "_law_number", "_law_body", "_law_text", "_law_times"] ["_law_letters", "_law_after", "_law_kind", "_law_number", "_law_body"] (defScope s__law_about) := ⟨rfl, rfl, rfl, by decide +kernel, rfl, by decide +kernel, by decide +kernel⟩
theorem df_f__law_about (h : Tx hd fn T) : Df T (He.ga T.K "_law_about") "_law_about" "_law_about" s__law_about := ⟨h.s.d.def_ 16 rfl⟩
theorem dk_f__law_about (h : Tx hd fn T) : DefAt T cfg (tab lt) l_about := def_fn (n := "_law_about") h (by decide +kernel) (by decide +kernel) ⟨df_f__law_about h, dl_about, ["_law_letters", "_law_after", "_law_kind", "_law_number", "_law_body", "_law_text", "_law_times"], ["_law_letters", "_law_after", "_law_kind", "_law_number", "_law_body"], rfl, sc_f__law_about, rfl, rfl, by decide +kernel, fun g F => F.bindsN fun _ _ _ _ _ _ us hl => match us, hl with | [_, _, _, _, _], _ => rfl⟩
theorem sc_f__law_rows : FnScope ["_law_seed_here", "_law_many", "_law_spoil", "_law_found", "_law_after", "_law_k", "_law_one", "_law_pick_here", "_law_number", "_law_size", "_law_j", "_law_carried", "_law_odd", "_law_at"] ["_law_seed_here", "_law_many", "_law_spoil"] (defScope s__law_rows) := ⟨rfl, rfl, rfl, by decide +kernel, rfl, by decide +kernel, by decide +kernel⟩
theorem df_f__law_rows (h : Tx hd fn T) : Df T (He.ga T.K "_law_rows") "_law_rows" "_law_rows" s__law_rows := ⟨h.s.d.def_ 17 rfl⟩
theorem dk_f__law_rows (h : Tx hd fn T) : DefAt T cfg (tab lt) f_law_rows := def_fn (n := "_law_rows") h (by decide +kernel) (by decide +kernel) ⟨df_f__law_rows h, d_law_rows, ["_law_seed_here", "_law_many", "_law_spoil", "_law_found", "_law_after", "_law_k", "_law_one", "_law_pick_here", "_law_number", "_law_size", "_law_j", "_law_carried", "_law_odd", "_law_at"], ["_law_seed_here", "_law_many", "_law_spoil"], rfl, sc_f__law_rows, rfl, rfl, by decide +kernel, fun g F => F.bindsN fun _ _ _ _ _ _ us hl => match us, hl with | [_, _, _], _ => rfl⟩
theorem sc_f_law : FnScope ["_law_script", "_law_rows_here", "_law_due", "_law_found", "_law_letters", "_law_after", "_law_parts", "_law_number"] ["_law_script"] (defScope s_law) := ⟨rfl, rfl, rfl, by decide +kernel, rfl, by decide +kernel, by decide +kernel⟩
theorem df_f_law (h : Tx hd fn T) : Df T (He.ga T.K "law") "law" "law" s_law := ⟨h.s.d.def_ 18 rfl⟩
theorem dk_f_law (h : Tx hd fn T) : DefAt T cfg (tab lt) l_law := def_fn (n := "law") h (by decide +kernel) (by decide +kernel) ⟨df_f_law h, dl_law, ["_law_script", "_law_rows_here", "_law_due", "_law_found", "_law_letters", "_law_after", "_law_parts", "_law_number"], ["_law_script"], rfl, sc_f_law, rfl, rfl, by decide +kernel, fun g F => F.bindsN fun _ _ _ _ _ _ us hl => match us, hl with | [_], _ => rfl⟩
theorem part_0 (h : Tx hd fn T) : ∀ f ∈ [f_is_within, f_are_bytes, f_is_body, f_is_row, f_State_init, f_State_put, f_State_deal, f_State_change, f_State_follow, f_made, f_law_cell, l_whole, f_law_seed, f_law_pick, f_law_bytes, l_made, l_about, f_law_rows, l_law], DefAt T cfg (tab lt) f := List.forall_mem_cons.2 ⟨dk_f_is_within h, List.forall_mem_cons.2 ⟨dk_f_are_bytes h, List.forall_mem_cons.2 ⟨dk_f_is_body h, List.forall_mem_cons.2 ⟨dk_f_is_row h, List.forall_mem_cons.2 ⟨dk_f_State_init h, List.forall_mem_cons.2 ⟨dk_f_State_put h, List.forall_mem_cons.2 ⟨dk_f_State_deal h, List.forall_mem_cons.2 ⟨dk_f_State_change h, List.forall_mem_cons.2 ⟨dk_f_State_follow h, List.forall_mem_cons.2 ⟨dk_f_made h, List.forall_mem_cons.2 ⟨dk_f__law_cell h, List.forall_mem_cons.2 ⟨dk_f__law_whole h, List.forall_mem_cons.2 ⟨dk_f__law_seed h, List.forall_mem_cons.2 ⟨dk_f__law_pick h, List.forall_mem_cons.2 ⟨dk_f__law_bytes h, List.forall_mem_cons.2 ⟨dk_f__law_made h, List.forall_mem_cons.2 ⟨dk_f__law_about h, List.forall_mem_cons.2 ⟨dk_f__law_rows h, List.forall_mem_cons.2 ⟨dk_f_law h, List.forall_mem_nil _⟩⟩⟩⟩⟩⟩⟩⟩⟩⟩⟩⟩⟩⟩⟩⟩⟩⟩⟩
theorem prg (h : Tx hd fn T) : Prg T cfg (tab lt) := prg_of (l := hereL) (fun f hf => contains_mem hf) (by
  unfold hereL
  exact part_0 h)
theorem good (h : Tx hd fn T) : Good T cfg := h.good (by decide +kernel)
end
end Q
set_option Elab.async false
set_option linter.all false
set_option maxRecDepth 100000
set_option maxHeartbeats 4000000
/-! W_k08: the law. -/
namespace I
open PySem PySem.Spec PyProof.Rows L2 G Q
section
variable {n : Nat} {L : Store}
theorem lk_mail (m : Mail) (i : Int) : (lkA (Sum.inl i : Key) (mailD m)).isSome = (lkA i m).isSome := by
  rw [mapA_lk]
  simp
theorem c_about {s : St} {k : Str} {i : Int} {b : List Int} (hr : Row.Good ⟨k, i, b⟩) (hk : k = "carried" ∨ k = "out" ∨ k = "done" ∨ k = "new") (hl : s.mail.length ≤ 100000) : call (tab lt) (n + 1) l_about [.ref L.length, .int s.after, .str k, .int i, tupI b] (L ++ [.dict (mailD s.mail)]) = .ok (.int (s.change k i b).after) (L ++ [.dict (mailD (s.change k i b).mail)]) := by
  rw [call_of (fd := dl_about) rfl rfl]
  have hs : (mailD s.mail).length < 16777216 := by rw [mapA_len]; omega
  have hn := fun d => in_dict (L := L ++ [.dict (mailD s.mail)]) (get_last L _) d
  have hg := mapA_lk letD i s.mail
  have hx := fun d => ix_dict (L := L ++ [.dict (mailD s.mail)]) (get_last L _) d
  rcases hk with rfl | hk
  · obtain ⟨x, q, e, hx9⟩ := hr.carried rfl
    have e : b = x :: q := e
    subst e
    have hp : putA (Sum.inl i : Key) (D.tup [tupI q, D.int x]) (mailD s.mail) = mailD (putA i (q, x) s.mail) := mapA_put letD i (q, x) s.mail
    have ct : G.cutD (D.int x :: q.map D.int) (some 1) none = q.map D.int := cutD_tail _ _
    simp [dl_about, hs, St.change, St.carry, ct, hp]
  · cases q : lkA i s.mail with
    | none =>
      rw [q] at hg
      rcases hk with rfl | rfl | rfl <;> simp [dl_about, hs, hn, hg, St.change, St.about, q]
    | some v =>
      rw [q] at hg
      obtain ⟨w, t⟩ := v
      rcases hk with rfl | rfl | rfl
      · have hp : putA (Sum.inl i : Key) (D.tup [tupI w, D.int (t + 1)]) (mailD s.mail) = mailD (putA i (w, t + 1) s.mail) := mapA_put letD i (w, t + 1) s.mail
        simp [dl_about, hs, hn, hx, hg, St.change, St.about, q, letD, hp]
      · have hp : delA (Sum.inl i : Key) (mailD s.mail) = mailD (delA i s.mail) := mapA_del letD i s.mail
        simp [dl_about, hs, hn, hx, hg, St.change, St.about, q, letD, hp, bmD]
      · have hp : putA (Sum.inl i : Key) (D.tup [tupI w, D.int 0]) (mailD s.mail) = mailD (putA i (w, 0) s.mail) := mapA_put letD i (w, 0) s.mail
        simp [dl_about, hs, hn, hx, hg, St.change, St.about, q, letD, hp]
theorem St.change_parts (s : St) (k : Str) (i : Int) (b : List Int) : (s.change k i b).parts = s.parts := by
  unfold St.change
  split
  · rfl
  · unfold St.about
    split
    · rfl
    · split
      · rfl
      · split
        · rfl
        · split <;> rfl
def mBody : Ss := match dl_made.body with
  | .cons _ (.cons _ (.cons _ (.cons (.for_ _ _ _ b) _))) => b
  | _ => .nil
def mDeal : Ss := match mBody with
  | .cons (.ite _ _ (.cons (.ite _ (.cons _ (.cons (.for_ _ _ _ b) _)) _) _)) _ => b
  | _ => .nil
theorem m_deal {Φ : Calls} {o0 o4 o5 o6 o9 o10 o3 : Option D} : ∀ (ps : List (Int × List Int)) (s : St) (x y : Option D), s.mail.length + ps.length ≤ 200000 →
    match St.puts ps s with
    | some s' => ∃ x' y', fork Φ [7, 8] true mDeal (fun _ => True) (ps.map partD) [o0, some (.ref L.length), some (.int s.after), o3, o4, o5, o6, x, y, o9, o10] (L ++ [.dict (mailD s.mail)]) = .nx [o0, some (.ref L.length), some (.int s'.after), o3, o4, o5, o6, x', y', o9, o10] (L ++ [.dict (mailD s'.mail)])
    | none => ∃ c, fork Φ [7, 8] true mDeal (fun _ => True) (ps.map partD) [o0, some (.ref L.length), some (.int s.after), o3, o4, o5, o6, x, y, o9, o10] (L ++ [.dict (mailD s.mail)]) = .rt .non (L ++ [c])
  | [], s, x, y, _ => ⟨x, y, by simp [fork_nil]⟩
  | (i, b) :: ps, s, x, y, hl => by
    rw [List.length_cons] at hl
    have hs : (mailD s.mail).length < 16777216 := by rw [mapA_len]; omega
    have e : St.puts ((i, b) :: ps) s = (s.put i b).bind (St.puts ps) := rfl
    rw [e]
    by_cases q : i < s.after
    · have e1 : s.put i b = none := if_pos q
      rw [e1]
      refine ⟨.dict (mailD s.mail), ?_⟩
      rw [List.map_cons, fork_rt (δ1 := [o0, some (.ref L.length), some (.int s.after), o3, o4, o5, o6, some (.int i), some (tupI b), o9, o10]) (e := .non) (L2 := L ++ [.dict (mailD s.mail)]) (by simp [partD]) (by simp [mDeal, mBody, dl_made, q])]
    · have e1 : s.put i b = some ⟨putA i (b, 0) s.mail, i + 1, s.parts⟩ := if_neg q
      rw [e1]
      have hp : putA (Sum.inl i : Key) (D.tup [tupI b, D.int 0]) (mailD s.mail) = mailD (putA i (b, 0) s.mail) := mapA_put letD i (b, 0) s.mail
      have hpl := putA_len i (b, (0 : Int)) s.mail
      have ih := m_deal (Φ := Φ) (o0 := o0) (o3 := o3) (o4 := o4) (o5 := o5) (o6 := o6) (o9 := o9) (o10 := o10) ps ⟨putA i (b, 0) s.mail, i + 1, s.parts⟩ (some (.int i)) (some (tupI b)) (by simp only; omega)
      have st : fork Φ [7, 8] true mDeal (fun _ => True) (((i, b) :: ps).map partD) [o0, some (.ref L.length), some (.int s.after), o3, o4, o5, o6, x, y, o9, o10] (L ++ [.dict (mailD s.mail)]) = fork Φ [7, 8] true mDeal (fun _ => True) (ps.map partD) [o0, some (.ref L.length), some (.int (i + 1)), o3, o4, o5, o6, some (.int i), some (tupI b), o9, o10] (L ++ [.dict (mailD (putA i (b, 0) s.mail))]) := by
        rw [List.map_cons, fork_cons (δ1 := [o0, some (.ref L.length), some (.int s.after), o3, o4, o5, o6, some (.int i), some (tupI b), o9, o10]) (by simp [partD]) (by simp [mDeal, mBody, dl_made, q, hs, hp]; exact ⟨rfl, rfl⟩) trivial]
      rw [st]
      exact ih
theorem eq_lst_nil (ps : List (Int × List Int)) (h : ps.length ≤ 100000) : eqR L (.lst (ps.map partD)) (.lst []) = some ps.isEmpty := by
  have l1 : lay 40 (.lst (ps.map partD)) = true := by
    show (ps.map partD).all (lay 39) = true
    rw [List.all_eq_true]
    intro x hx
    obtain ⟨p, _, rfl⟩ := List.mem_map.mp hx
    show [D.int p.1, tupI p.2].all (lay 38) = true
    have : lay 38 (tupI p.2) = true := by
      show (p.2.map D.int).all (lay 37) = true
      rw [List.all_eq_true]
      intro y hy
      obtain ⟨i, _, rfl⟩ := List.mem_map.mp hy
      rfl
    simp only [List.all_cons, this]
    rfl
  show (if _ then _ else _) = _
  rw [if_pos ⟨l1, rfl⟩]
  cases ps with
  | nil => simp [eqvD, eqvL]
  | cons p r => simp [eqvD, eqvL]
theorem m_step {d : D} {s : St} {r : Row} {x7 x8 x9 x10 : Option D} (hr : r.Good) (hl : s.mail.length + s.parts.length ≤ 99000) :
    match s.follow r with
    | some s' => ∃ y7 y8, runs ⟨call (tab lt) (n + 2), call (tab lt) (n + 1)⟩ mBody [some d, some (.ref L.length), some (.int s.after), some (.lst (s.parts.map partD)), some (.str r.k), some (.int r.n), some (tupI r.b), x7, x8, x9, x10] (L ++ [.dict (mailD s.mail)]) = .nx [some d, some (.ref L.length), some (.int s'.after), some (.lst (s'.parts.map partD)), some (.str r.k), some (.int r.n), some (tupI r.b), y7, y8, x9, x10] (L ++ [.dict (mailD s'.mail)])
    | none => ∃ c, runs ⟨call (tab lt) (n + 2), call (tab lt) (n + 1)⟩ mBody [some d, some (.ref L.length), some (.int s.after), some (.lst (s.parts.map partD)), some (.str r.k), some (.int r.n), some (tupI r.b), x7, x8, x9, x10] (L ++ [.dict (mailD s.mail)]) = .rt .non (L ++ [c]) := by
  obtain ⟨hk, hn, hb, _⟩ := hr.all
  obtain ⟨c, i, b⟩ := r
  have hn : 0 ≤ i ∧ i ≤ 999999 := hn
  have hs : (mailD s.mail).length < 16777216 := by rw [mapA_len]; omega
  have en := eq_lst_nil (L := L ++ [.dict (mailD s.mail)]) s.parts (by omega)
  have ab := fun k => c_about (n := n + 1) (L := L) (s := s) (k := k) (i := i) (b := b)
  simp only [kinds, List.mem_cons, List.not_mem_nil, or_false] at hk
  unfold St.follow
  simp only
  have e0 : s.parts = [] → s.parts.isEmpty = true := fun h => by rw [h]; rfl
  have e1 : ¬ s.parts = [] → s.parts.isEmpty = false := fun h => by simpa using h
  rcases hk with rfl | rfl | rfl | rfl | rfl | rfl | rfl | rfl
  · -- put
    simp only [ofS_inj, reduceCtorEq, String.reduceEq, ↓reduceIte]
    by_cases hps : s.parts = []
    · rw [if_neg (fun h => h hps)]
      rw [(e0 hps)] at en
      have hp : putA (Sum.inl i : Key) (D.tup [tupI b, D.int 0]) (mailD s.mail) = mailD (putA i (b, 0) s.mail) := mapA_put letD i (b, 0) s.mail
      simp only [St.put]
      by_cases q : i < s.after
      · rw [if_pos q]
        exact ⟨.dict (mailD s.mail), by simp [mBody, dl_made, en, q]⟩
      · rw [if_neg q]
        refine ⟨x7, x8, ?_⟩
        simp [mBody, dl_made, en, q, hs, hp]
    · rw [if_pos hps]
      rw [(e1 hps)] at en
      exact ⟨.dict (mailD s.mail), by simp [mBody, dl_made, en]⟩
  · -- out
    simp only [ofS_inj, reduceCtorEq, String.reduceEq, ↓reduceIte]
    by_cases hps : s.parts = []
    · rw [if_neg (fun h => h hps)]
      rw [(e0 hps)] at en
      have ab := ab "out" hr (.inr (.inl rfl)) (by omega)
      refine ⟨x7, x8, ?_⟩
      simp [mBody, dl_made, en, ab, St.change_parts]
    · rw [if_pos hps]
      rw [(e1 hps)] at en
      exact ⟨.dict (mailD s.mail), by simp [mBody, dl_made, en]⟩
  · -- done
    simp only [ofS_inj, reduceCtorEq, String.reduceEq, ↓reduceIte]
    by_cases hps : s.parts = []
    · rw [if_neg (fun h => h hps)]
      rw [(e0 hps)] at en
      have ab := ab "done" hr (.inr (.inr (.inl rfl))) (by omega)
      refine ⟨x7, x8, ?_⟩
      simp [mBody, dl_made, en, ab, St.change_parts]
    · rw [if_pos hps]
      rw [(e1 hps)] at en
      exact ⟨.dict (mailD s.mail), by simp [mBody, dl_made, en]⟩
  · -- from
    simp only [ofS_inj, reduceCtorEq, String.reduceEq, ↓reduceIte]
    by_cases hps : s.parts = []
    · rw [if_neg (fun h => h hps)]
      rw [(e0 hps)] at en
      refine ⟨x7, x8, ?_⟩
      simp [mBody, dl_made, en]
    · rw [if_pos hps]
      rw [(e1 hps)] at en
      exact ⟨.dict (mailD s.mail), by simp [mBody, dl_made, en]⟩
  · -- part
    simp only [ofS_inj, reduceCtorEq, String.reduceEq, ↓reduceIte]
    refine ⟨x7, x8, ?_⟩
    have hc : opD .add (L ++ [.dict (mailD s.mail)]) (.lst (s.parts.map partD)) (.lst [.tup [.int i, tupI b]]) = some (.lst (s.parts.map partD ++ [.tup [.int i, tupI b]])) := op_catL (by simp; omega)
    simp [mBody, dl_made, hc, partD]
  · -- deal
    simp only [ofS_inj, reduceCtorEq, String.reduceEq, ↓reduceIte]
    obtain ⟨x, e, x1, x2⟩ := hr.deal rfl
    have e : b = [x] := e
    subst e
    have hq := eqR_lints (L := L ++ [.dict (mailD s.mail)]) (s.parts.map (·.1)) ((List.range x.toNat).map fun j : Nat => i + (j : Int))
    rw [← parts_fst] at hq
    have hlc1 : ev ⟨call (tab lt) (n + 2), call (tab lt) (n + 1)⟩ (E.lc (E.ix (E.var 9) (E.int 0)) [9] false (It.val (E.var 3)) Oe.none [9]) [some d, some (.ref L.length), some (.int s.after), some (.lst (s.parts.map partD)), some (.str "deal"), some (.int i), some (tupI [x]), x7, x8, x9, x10] (L ++ [.dict (mailD s.mail)]) = .ok (.lst ((s.parts.map partD).map fstD)) (L ++ [.dict (mailD s.mail)]) := by
      simp only [e_lc, ei_val, e_var, ec_none]
      simp
      rw [if_pos (by first | omega | (rw [sizeLine_eq]; omega)), lcL_map (g := fstD)]
      · simp
      · intro d hd
        obtain ⟨x, _, rfl⟩ := List.mem_map.mp hd
        simp [lcStep, partD, fstD]
    have hr2 := rng_of (i := 0) (j := x) (by omega)
    rw [Int.sub_zero] at hr2
    have hlc2 : ev ⟨call (tab lt) (n + 2), call (tab lt) (n + 1)⟩ (E.lc (E.bin .add (E.var 5) (E.var 10)) [10] false (It.rng (E.ix (E.var 6) (E.int 0))) Oe.none [10]) [some d, some (.ref L.length), some (.int s.after), some (.lst (s.parts.map partD)), some (.str "deal"), some (.int i), some (tupI [x]), x7, x8, x9, x10] (L ++ [.dict (mailD s.mail)]) = .ok (.lst (((List.range x.toNat).map fun j : Nat => i + (j : Int)).map D.int)) (L ++ [.dict (mailD s.mail)]) := by
      simp only [e_lc, ei_rng, e_var, ec_none, e_ix, e_int]
      simp [hr2]
      rw [if_pos (by rw [rngD_len]; first | omega | (rw [sizeLine_eq]; omega)), lcL_at (ys := ((List.range x.toNat).map fun j : Nat => i + (j : Int)).map D.int)]
      · simp
      · simp [rngD_len]
      · intro j d y hd hy
        obtain ⟨rfl, hj⟩ := rngD_at hd
        rw [List.getElem?_map, List.getElem?_map, List.getElem?_range hj] at hy
        cases hy
        simp [lcStep]
    have dl := m_deal (L := L) (Φ := ⟨call (tab lt) (n + 2), call (tab lt) (n + 1)⟩) (o0 := some d) (o3 := some (.lst (s.parts.map partD))) (o4 := some (.str "deal")) (o5 := some (.int i)) (o6 := some (tupI [x])) (o9 := x9) (o10 := x10) s.parts s x7 x8 (by omega)
    simp only [mDeal, mBody, dl_made] at dl
    by_cases q : s.parts.map (·.1) = (List.range x.toNat).map fun j : Nat => i + (j : Int)
    · have hdl : s.deal i ([x].headD 0) = (St.puts s.parts s).map fun t => ⟨t.mail, t.after, []⟩ := if_pos q
      rw [hdl]
      rw [decide_eq_true q] at hq
      cases q2 : St.puts s.parts s with
      | none =>
        rw [q2] at dl
        obtain ⟨c, dl⟩ := dl
        refine ⟨c, ?_⟩
        simp [mBody, dl_made, hlc1, hlc2, hq, dl, -e_lc, -List.map_map]
      | some s' =>
        rw [q2] at dl
        obtain ⟨y7, y8, dl⟩ := dl
        refine ⟨y7, y8, ?_⟩
        simp [mBody, dl_made, hlc1, hlc2, hq, dl, -e_lc, -List.map_map]
    · have hdl : s.deal i ([x].headD 0) = none := if_neg q
      rw [hdl]
      rw [decide_eq_false q] at hq
      exact ⟨.dict (mailD s.mail), by simp [mBody, dl_made, hlc1, hlc2, hq, -e_lc, -List.map_map]⟩
  · -- carried
    simp only [ofS_inj, reduceCtorEq, String.reduceEq, ↓reduceIte]
    by_cases hps : s.parts = []
    · rw [if_neg (fun h => h hps)]
      rw [(e0 hps)] at en
      have ab := ab "carried" hr (.inl rfl) (by omega)
      refine ⟨x7, x8, ?_⟩
      simp [mBody, dl_made, en, ab, St.change_parts]
    · rw [if_pos hps]
      rw [(e1 hps)] at en
      exact ⟨.dict (mailD s.mail), by simp [mBody, dl_made, en]⟩
  · -- new
    simp only [ofS_inj, reduceCtorEq, String.reduceEq, ↓reduceIte]
    by_cases hps : s.parts = []
    · rw [if_neg (fun h => h hps)]
      rw [(e0 hps)] at en
      have ab := ab "new" hr (.inr (.inr (.inr rfl))) (by omega)
      refine ⟨x7, x8, ?_⟩
      simp [mBody, dl_made, en, ab, St.change_parts]
    · rw [if_pos hps]
      rw [(e1 hps)] at en
      exact ⟨.dict (mailD s.mail), by simp [mBody, dl_made, en]⟩
theorem m_loop {d : D} {all : List Row} {x9 x10 : Option D} (hp : ∀ c, IsL.P d (all.map rowD) (L ++ [c])) : ∀ (rs : List Row) (s : St) (x4 x5 x6 x7 x8 : Option D), (∀ r ∈ rs, r.Good) → s.size + rs.length ≤ 90000 →
    match St.all rs s with
    | some s' => ∃ y4 y5 y6 y7 y8, fork ⟨call (tab lt) (n + 2), call (tab lt) (n + 1)⟩ [4, 5, 6] true mBody (IsL.P d (all.map rowD)) (rs.map rowD) [some d, some (.ref L.length), some (.int s.after), some (.lst (s.parts.map partD)), x4, x5, x6, x7, x8, x9, x10] (L ++ [.dict (mailD s.mail)]) = .nx [some d, some (.ref L.length), some (.int s'.after), some (.lst (s'.parts.map partD)), y4, y5, y6, y7, y8, x9, x10] (L ++ [.dict (mailD s'.mail)])
    | none => ∃ c, fork ⟨call (tab lt) (n + 2), call (tab lt) (n + 1)⟩ [4, 5, 6] true mBody (IsL.P d (all.map rowD)) (rs.map rowD) [some d, some (.ref L.length), some (.int s.after), some (.lst (s.parts.map partD)), x4, x5, x6, x7, x8, x9, x10] (L ++ [.dict (mailD s.mail)]) = .rt .non (L ++ [c])
  | [], s, x4, x5, x6, x7, x8, _, _ => ⟨x4, x5, x6, x7, x8, by simp [fork_nil]⟩
  | r :: rs, s, x4, x5, x6, x7, x8, hg, hs => by
    rw [List.length_cons] at hs
    have st := m_step (n := n) (L := L) (d := d) (s := s) (r := r) (x7 := x7) (x8 := x8) (x9 := x9) (x10 := x10) (hg r List.mem_cons_self) (by unfold St.size at hs; omega)
    have e : St.all (r :: rs) s = (s.follow r).bind (St.all rs) := rfl
    rw [e]
    cases q : s.follow r with
    | none =>
      rw [q] at st
      obtain ⟨c, st⟩ := st
      refine ⟨c, ?_⟩
      rw [List.map_cons, fork_rt (δ1 := [some d, some (.ref L.length), some (.int s.after), some (.lst (s.parts.map partD)), some (.str r.k), some (.int r.n), some (tupI r.b), x7, x8, x9, x10]) (by simp [rowD]) st]
    | some s1 =>
      rw [q] at st
      obtain ⟨y7, y8, st⟩ := st
      have hz := St.follow_size q
      have ih := m_loop (x9 := x9) (x10 := x10) hp rs s1 (some (.str r.k)) (some (.int r.n)) (some (tupI r.b)) y7 y8 (fun x hx => hg x (List.mem_cons_of_mem _ hx)) (by omega)
      rw [List.map_cons, fork_cons (δ1 := [some d, some (.ref L.length), some (.int s.after), some (.lst (s.parts.map partD)), some (.str r.k), some (.int r.n), some (tupI r.b), x7, x8, x9, x10]) (by simp [rowD]) st (hp _)]
      exact ih
theorem IsL.P_add {d : D} {ds : List D} {M : Store} (h : IsL M d ds) : ∀ c, IsL.P d ds (M ++ [c]) := fun c => (h.ext (.add [c])).p
theorem c_l_made {d : D} {rs : List Row} (hd : IsL L d (rs.map rowD)) (hg : ∀ r ∈ rs, r.Good) (hl : rs.length ≤ 90000) : match St.all rs St.new with
    | some s => call (tab lt) (n + 3) l_made [d] L = .ok (.tup [.ref L.length, .int s.after, .lst (s.parts.map partD)]) (L ++ [.dict (mailD s.mail)])
    | none => ∃ c, call (tab lt) (n + 3) l_made [d] L = .ok .non (L ++ [c]) := by
  have lp := m_loop (n := n) (L := L) (d := d) (all := rs) (x9 := none) (x10 := none) hd.P_add rs St.new none none none none none hg (by simp [St.size, St.new]; omega)
  have hit := (hd.ext (.add [.dict []])).items
  have hp := hd.P_add (.dict [])
  rw [call_of (fd := dl_made) rfl rfl]
  simp only [mBody, dl_made, St.new, List.map_nil] at lp
  cases q : St.all rs St.new with
  | none =>
    have q' : St.all rs ⟨[], 0, []⟩ = none := q
    rw [q'] at lp
    obtain ⟨c, lp⟩ := lp
    refine ⟨c, ?_⟩
    simp [dl_made, hit, hp]
    rw [show mailD [] = [] from rfl] at lp
    simp [lp]
  | some s =>
    have q' : St.all rs ⟨[], 0, []⟩ = some s := q
    rw [q'] at lp
    obtain ⟨y4, y5, y6, y7, y8, lp⟩ := lp
    simp [dl_made, hit, hp]
    rw [show mailD [] = [] from rfl] at lp
    simp [lp]
end
theorem lay_letRow {m : Mail} {i : Int} (n : Nat) : lay (n + 2) (letRow m i) = true := by
  show [D.int i, tupI ((lkA i m).getD ([], 0)).1, .int ((lkA i m).getD ([], 0)).2].all (lay (n + 1)) = true
  have : lay (n + 1) (tupI ((lkA i m).getD ([], 0)).1) = true := by
    show (((lkA i m).getD ([], 0)).1.map D.int).all (lay n) = true
    rw [List.all_eq_true]
    intro y hy
    obtain ⟨i, _, rfl⟩ := List.mem_map.mp hy
    cases n <;> rfl
  simp only [List.all_cons, this]
  cases n <;> rfl
theorem lay_made (s : St) : lay 40 (madeD s) = true := by
  show (lay 39 (.lst ((keysM s.mail).map (letRow s.mail))) && (lay 39 (.int s.after) && true)) = true
  have : lay 39 (.lst ((keysM s.mail).map (letRow s.mail))) = true := by
    show ((keysM s.mail).map (letRow s.mail)).all (lay 38) = true
    rw [List.all_eq_true]
    intro x hx
    obtain ⟨i, _, rfl⟩ := List.mem_map.mp hx
    exact lay_letRow 36
  rw [this]
  rfl
theorem c_whole {n : Nat} {L : Store} (i : Int) : call (tab lt) (n + 1) l_whole [.int i] L = .ok (.bl true) L := by
  rw [call_of (fd := dl_whole) rfl rfl]
  simp [dl_whole]
theorem St.all_bd {rs : List Row} {s : St} (h : St.all rs St.new = some s) : s.mail.length + s.parts.length ≤ rs.length := by
  have : ∀ (rs : List Row) (s s' : St), St.all rs s = some s' → s'.size ≤ s.size + rs.length := by
    intro rs
    induction rs with
    | nil => intro s s' h; cases h; simp
    | cons r rs ih =>
      intro s s' h
      have h : (s.follow r).bind (St.all rs) = some s' := h
      cases q : s.follow r with
      | none => rw [q] at h; cases h
      | some s1 =>
        rw [q] at h
        have h1 := St.follow_size q
        have h2 := ih s1 s' h
        rw [List.length_cons]
        omega
  have := this rs St.new s h
  unfold St.size St.new at this
  simpa using this
def spOf (ns : List Int) : Int := cellOf ns 1 % 2 * (1 + cellOf ns 2 % 4)
theorem sp_bd (ns : List Int) : 0 ≤ spOf ns := by
  unfold spOf
  have h : cellOf ns 1 % 2 = 0 ∨ cellOf ns 1 % 2 = 1 := by omega
  rcases h with h | h <;> rw [h] <;> omega
theorem _root_.Q.law_ok (ns : List Int) : ∃ L' : Store, call (tab lt) 40 l_law [.scr ns] [] = .ok (.bl true) L' := by
  show yes _
  have hsp := sp_bd ns
  have cr := fun L => c_law_rows (lt := lt) (n := 36) (L := L) (seedOf (cellOf ns 0) 0) (spOf ns) hsp
  obtain ⟨d1, d2, d3, d4⟩ := drawn_good (seedOf (cellOf ns 0) 0)
  obtain ⟨e1, e2⟩ := spoilt_good (seedOf (cellOf ns 0) 0) (spOf ns)
  obtain ⟨d, rs, hd, hdd, hg, hrl⟩ : ∃ (d : D) (rs : List Row), (∀ L : Store, (if 0 < spOf ns then D.lst ((spoilt (seedOf (cellOf ns 0) 0) (spOf ns)).map rowD) else .ref ([] : Store).length) = d) ∧ IsL [.list ((drawn (seedOf (cellOf ns 0) 0)).1.map rowD)] d (rs.map rowD) ∧ (∀ r ∈ rs, r.Good) ∧ rs.length ≤ 101 := by
    by_cases hz : 0 < spOf ns
    · exact ⟨_, spoilt (seedOf (cellOf ns 0) 0) (spOf ns), fun _ => if_pos hz, .inl rfl, e1, e2⟩
    · exact ⟨_, (drawn (seedOf (cellOf ns 0) 0)).1, fun _ => if_neg hz, .inr ⟨0, rfl, rfl⟩, d1, by omega⟩
  have cr0 := cr []
  rw [hd []] at cr0
  have hmul : ∀ L, opD .mul L (.int (cellOf ns 1 % 2)) (.int (1 + cellOf ns 2 % 4)) = some (.int (spOf ns)) := fun L => op_mulL (by omega)
  rw [call_of (fd := dl_law) rfl rfl]
  have lm := c_l_made (n := 36) hdd hg (by omega)
  simp only [List.nil_append, Nat.reduceAdd] at cr0 lm
  have hm0 := c_made (lt := lt) (n := 34) (L := [.list ((drawn (seedOf (cellOf ns 0) 0)).1.map rowD)]) hdd hg (by omega)
  cases q : St.all rs St.new with
  | none =>
    rw [q] at lm
    obtain ⟨c, lm⟩ := lm
    have hm := c_made (lt := lt) (n := 34) (hdd.ext (.add [c])) hg (by omega)
    have hmn : St.made rs = none := by unfold St.made; rw [q]; rfl
    rw [hmn] at hm
    obtain ⟨L', hm, _⟩ := hm
    simp only [Nat.reduceAdd, List.cons_append, List.nil_append] at hm lm
    simp (disch := first | assumption | (simp; done) | omega) [dl_law, c_law_cell, c_law_seed, op_mod, hmul, cr0, lm, hm, hdR, takes, hbR]
  | some s =>
    rw [q] at lm
    simp only at lm
    have hb := St.all_bd q
    have hm := c_made (lt := lt) (n := 34) (hdd.ext (.add [.dict (mailD s.mail)])) hg (by omega)
    have hmn : St.made rs = if s.parts = [] then some s else none := by unfold St.made; rw [q]; rfl
    rw [hmn] at hm
    have en := fun L => eq_lst_nil (L := L) s.parts (by omega)
    by_cases hps : s.parts = []
    · rw [if_pos hps] at hm
      obtain ⟨L', hm, hx⟩ := hm
      have hmail : L'[1]? = some (.dict (mailD s.mail)) := hx 1 _ rfl
      have so := sorted_keys hmail
      have hkl : (keysM s.mail).length ≤ 16777216 := by rw [keysM_len]; omega
      have hself := fun L => eqR_self (L := L) (lay_made s)
      have e0 : s.parts.isEmpty = true := by rw [hps]; rfl
      simp only [e0] at en
      have hc2 : ev ⟨call (tab lt) 39, call (tab lt) 38⟩ (E.lc (E.bin .add (E.tup (Es.cons (E.var 7) Es.nil)) (E.ix (E.var 4) (E.var 7))) [7] false (It.val (E.bi .sorted (Es.cons (E.var 4) Es.nil))) Oe.none [7]) [some (.scr ns), some d, some (.tup [.ref 1, .int s.after, .lst (s.parts.map partD)]), some (madeD s), some (.ref 1), some (.int s.after), some (.lst (s.parts.map partD)), none] L' = .ok (.lst ((keysM s.mail).map (letRow s.mail))) L' := by
        simp only [e_lc, ei_val, e_bi, es_cons, es_nil, e_var, ec_none]
        simp [so]
        rw [if_pos (by first | exact hkl | (rw [sizeLine_eq]; exact hkl)), lcL_map (g := fun d => match d with
          | .int i => letRow s.mail i
          | _ => .non)]
        · simp
        · intro y hy
          obtain ⟨i, hi, rfl⟩ := List.mem_map.mp hy
          obtain ⟨v, hv⟩ := keysM_mem hi
          have g3 := ix_dict hmail
          have g4 := mapA_lk letD i s.mail
          rw [hv] at g4
          simp [lcStep, g3, g4, letRow, hv, letD, op_catT]
      simp only [Nat.reduceAdd, List.cons_append, List.nil_append, List.length_singleton] at hm lm
      have hmd : madeD s = .tup [.lst ((keysM s.mail).map (letRow s.mail)), .int s.after] := rfl
      rw [hmd] at hm hc2 hself
      simp (disch := first | assumption | (simp; done) | omega) [dl_law, c_law_cell, c_law_seed, op_mod, hmul, cr0, lm, hm, hdR, takes, hbR, en, c_whole, hc2, hself, -e_lc]
    · rw [if_neg hps] at hm
      obtain ⟨L', hm, hx⟩ := hm
      have e0 : s.parts.isEmpty = false := by simpa using hps
      simp only [e0] at en
      simp only [Nat.reduceAdd, List.cons_append, List.nil_append, List.length_singleton] at hm lm
      simp (disch := first | assumption | (simp; done) | omega) [dl_law, c_law_cell, c_law_seed, op_mod, hmul, cr0, lm, hm, hdR, takes, hbR, en]
end I
set_option Elab.async false
set_option linter.all false
set_option maxRecDepth 100000
set_option maxHeartbeats 0
/-! H_k08: printed by lawgen.py. -/
namespace Q
open PySem PySem.Spec PyProof.Rows L2 G I
abbrev R : PySem.W.OpenRow := PySem.W.OpenLaw.row PySem.Challenge.rw_queuehold_k08_made
def loose : List PySem.Str := (["QueueError", "Broken", "BadRow", "is_within", "are_bytes", "KINDS", "MOST_BODY", "MOST_NUMBER", "MOST_DEAL", "MOST_TRIES", "is_body", "is_row", "State", "made", "_law_cell", "_law_whole", "_law_seed", "_law_pick", "_law_bytes", "_law_made", "_law_about", "_law_rows"] : List PySem.Str)
/-! ### the hook: the objects that the module's names reach, by a short way -/
def valRefs (es : Array DictEntry) : List Addr := es.toList.flatMap fun e => He.refV e.val
def subsM (g : Addr → Option Obj) (a : Addr) : List Addr := match g a with
  | some ⟨_, _, .func fd, _⟩ => He.refV fd.code
  | some ⟨_, _, .cls cd, _⟩ => cd.ns :: (match g cd.ns with
    | some ⟨_, _, .dict es _, _⟩ => (valRefs es).flatMap fun f => f :: (match g f with
      | some ⟨_, _, .func fd, _⟩ => He.refV fd.code
      | _ => [])
    | _ => [])
  | _ => []
def asM (g : Addr → Option Obj) : List Addr := match g mainGlobals with
  | some ⟨_, _, .dict es _, _⟩ => mainGlobals :: (valRefs es ++ (valRefs es).flatMap (subsM g))
  | _ => []
abbrev AlM : Type := He.AlT × Bool
def obsM (fa : List He.Fa) (fn : List He.DefD) (ts : List He.Tab) (ex : PySem.W.Frag → Bool) (g : Addr → Option Obj) : AlM := (He.obsT fa fn ts (He.frG g (asM g)), ex (He.frG g (asM g)))
def hookM (fa : List He.Fa) (fn : List He.DefD) (ts : List He.Tab) (ex : PySem.W.Frag → Bool) : PySem.W.Hook where
  α := AlM
  obs := fun s => obsM fa fn ts ex s.heap.get?
  val := fun w => (He.valT fn ts w, true)
  says := fun w h => ∃ K : PySem.W.Frag, K.In h ∧ He.SaysT fa fn ts w K ∧ ex K = true
  of := fun _ _ e => ⟨_, He.frG_in, congrArg (fun z : AlM => z.1) e, congrArg (fun z : AlM => z.2) e⟩
  keeps := fun _ _ _ ⟨K, hK, c⟩ k => ⟨K, PySem.W.Frag.In.keeps hK k, c⟩
abbrev hk : PySem.W.Hook := hookM hd.fa fn hd.ts hd.ex
def ob (s : PySem.W.SharedT) : AlM := obsM hd.fa fn hd.ts hd.ex (HandSHeadRun.getT s)
theorem ob_eq (s : PySem.W.SharedT) : ob s = hk.obs s.abs := by
  have e : HandSHeadRun.getT s = s.abs.heap.get? := funext (HandSHeadRun.getT_eq s)
  show obsM hd.fa fn hd.ts hd.ex (HandSHeadRun.getT s) = obsM hd.fa fn hd.ts hd.ex s.abs.heap.get?
  rw [e]

theorem run0 (w : World) (os : OsState) : (HandSHeadRun.endF (HandSHeadRun.stepQ (HandSHeadRun.denQ HandSHeadRun.tabQ) R.prog w) 8000 R.prog w os).map (fun s => (HandSHeadRun.looksF R.prog (PySem.W.boot_heap (World.params w)) s.abs, HandSHeadRun.seenQ (PySem.W.view R.prog [27]) loose (importedModules R.prog.main.body) (fun s => PySem.W.xlAt (PySem.W.view R.prog [27]) [] s && PySem.W.recOk R.toRowW.records s) s.abs, ob s)) = some (true, PySem.W.openGood (PySem.W.view R.prog [27]) loose, (((true, fn.map He.DefD.val), hd.ts.map fun t => some (He.keysIn (World.params w) t.2)), true)) := by
  kernel_rfl
theorem run (w : World) : HandSHeadRun.RunEq R (PySem.W.view R.prog [27]) hk ob 8000 loose w := fun os => run0 w os
end Q
set_option Elab.async false
set_option linter.all false
set_option maxRecDepth 100000
set_option maxHeartbeats 4000000
open PySem PySem.W PySem.Calls PyProof.Rows
theorem PySem.Challenge.cw_queuehold_k08_made_holds : PySem.Challenge.rw_queuehold_k08_made.Holds := by
  w_on; o_law
  refine HandSHeadRun.head_any (r := OpenLaw.row PySem.Challenge.rw_queuehold_k08_made) (q := view (OpenLaw.row PySem.Challenge.rw_queuehold_k08_made).prog [27]) (H := Q.hk) (ob := Q.ob) (M := 8000) (loose := Q.loose) (d := HandSHeadRun.topDef (OpenLaw.row PySem.Challenge.rw_queuehold_k08_made).prog 27) (kwd := []) Q.ob_eq
    (by kernel_rfl) (fun s => by kernel_rfl) Q.run (by kernel_rfl) (by kernel_rfl) (by kernel_rfl) (by rfl) (by first | assumption | decide +kernel) (by decide +kernel) ⟨rfl, rfl, rfl, rfl, rfl, by decide +kernel⟩ ?hw ?hc
  case hw => w_witness2
  case hc =>
    refine I.ends_ (l := PySem.Challenge.rw_queuehold_k08_made) (n := 63) (k := 40) (x := "_law_script") rfl (by decide) (by kernel_rfl) ⟨rfl, by decide, by decide⟩ ?_
    intro w mg fa h Y G hmg0
    obtain ⟨K, KX, c, ce⟩ := Y
    have hmg : mg ("law" : PySem.Str) = some (.ref fa) := by
      have e : (HandSHeadRun.topDef (OpenLaw.row PySem.Challenge.rw_queuehold_k08_made).prog 27).name = ("law" : PySem.Str) := by kernel_rfl
      rw [← e]
      exact hmg0
    have t0 : I.Tx Q.hd Q.fn ⟨PySem.Challenge.rw_queuehold_k08_made.prog, w, K, mg, h⟩ := ⟨c, ce, KX, G⟩
    obtain ⟨fd, F⟩ := (Q.df_f_law t0).ex
    have hfa : mg ("law" : PySem.Str) = some (.ref (He.ga K "law")) := ((Q.prg t0).fn Q.l_law "law" (by decide +kernel) (by decide +kernel)).1
    rw [hmg] at hfa
    cases hfa
    refine ⟨K, fd, KX, fun s u => ?_, fun ns => ?_⟩
    · exact L2.FunD.bindsA (ps := ["_law_script"]) F (fun _ _ _ _ _ _ us hl => match us, hl with | [_], _ => rfl) s [u] rfl
    · obtain ⟨L', hL⟩ := Q.law_ok ns
      refine ⟨L', fun base hK hns => ?_⟩
      have t : I.Tx Q.hd Q.fn ⟨PySem.Challenge.rw_queuehold_k08_made.prog, w, K, mg, base⟩ := ⟨c, ce, hK, hns⟩
      exact I.law_fn (Q.good t) (I.phi_ok (Q.good t) (Q.prg t) 39) Q.sc_f_law F (by rfl) rfl rfl (by decide +kernel) hL
