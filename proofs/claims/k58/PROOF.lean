import PyProof.Rows.All
import Wide.All
import OpenK.AllK
import Wide.FinOn
import HandS.ForMost
import HandS.ForExc
import HandS.Wide
import HandS.IsInst
import HandS.TupAny
import HandS.TupMul
import HandS.Style
import PyProof.StrOps2
import KE.DataEq
import HandS.NoneIn
import PyProof.ListStr
import PyProof.TupleOfStr
import HandS.Replace
import HandS.ExcIs
import HandS.SortInts
import HandS.WideMore
import KE.GoesNew
import KE.GoesEnumKw
import KE.DataCmp
import HandS.StrMore
import HandS.Deep
import PyProof.StrLawsLast
import HandS.RevRange
import PyProof.Rows.SetFrom
import PyProof.WalksMore
import PyProof.WalkInts
import PyProof.SeqI3
import HandS.DictTup
import KE.GoesNewDict
import HandS.SortRule
import KE.KDictCopyH
import KE.KDictSum
import KE.KDictZip
import HandS.TupLen
import PyProof.Rows.TupDisplay
import PySem.Challenge.RW_nearreach_k58_pairs_looked_at
set_option Elab.async false
set_option linter.all false
set_option maxRecDepth 100000
/-! The core: values as trees, mutable cells, what a reading does as a function. -/
namespace NR
open PySem PySem.Spec PyProof.Rows L2

abbrev DKey := Sum Int (List Nat)
/-- a value: a tree, or the number of a mutable cell -/
inductive D where
  | non | bl (b : Bool) | int (i : Int) | str (s : List Nat) | tup (l : List D) | ref (n : Nat) | exc (a : Nat)
  /-- a list, a dict that is never written any more -/
  | fl (l : List D) | fd (ks : List (Sum Int (List Nat))) (l : List D)
/-- a mutable cell -/
inductive Cell where
  | lst (xs : List D)
  | frz (xs : List D)
  | dk (kvs : List (DKey × D))
  | dt (kvs : List (List DKey × D))
  | ins (c : Str) (fs : List (Str × D))
abbrev IH := List Cell
abbrev EV := List (Option D)
/-- the written part, the classes by their names -/
structure Cf where
  K : PySem.W.Frag
  C : Str → Addr

def strV (s : List Nat) : Str := ⟨s.toArray⟩
def keyV : DKey → Key
  | .inl i => .inl i
  | .inr s => .inr (strV s)
theorem strV_inj {a b : List Nat} (h : strV a = strV b) : a = b := by
  have := congrArg (fun s : Str => s.cps.toList) h
  simpa [strV] using this
theorem strV_toList (s : Str) : strV s.cps.toList = s := by
  cases s; simp [strV]
theorem strV_length (s : List Nat) : (strV s).length = s.length := by
  show (strV s).cps.size = _
  simp [strV]

/-- a list that is never written -/
def FrzL (K : PySem.W.Frag) (H : Hp) (a : Addr) (xs : List V) : Prop :=
  (∃ o, H a = some (.frz o (.lst xs))) ∨
    ∃ (o : Obj) (its : Array Value) (n : Nat), K.lookup a = some o ∧ o.cls = .type "list" ∧ o.dict = none ∧ o.data = .seq its n ∧ its.size ≤ sizeLine ∧ Vals xs its.toList
/-- a list that is locked -/
def FrzM (H : Hp) (a : Addr) (xs : List V) : Prop := ∃ o, H a = some (.frz o (.lst xs))
/-- a dict that is never written -/
def FrzD (H : Hp) (a : Addr) (ws : List (Key × V)) : Prop := ∃ o, H a = some (.frz o (.dK ws))

/-- a tuple that stands in the heap -/
def TpT (H : Hp) (a : Addr) (vs : List V) : Prop := H a = some (.tup vs)

mutual
def Den (G : Cf) (et : List Addr) (H : Hp) : D → V → Prop
  | .non, v => v = .non
  | .bl b, v => v = .bl b
  | .int i, v => v = .int i
  | .str s, v => v = .str (strV s)
  | .tup l, v => ∃ a vs, v = .ref a ∧ TpT H a vs ∧ DenL G et H l vs
  | .ref n, v => ∃ a, et[n]? = some a ∧ v = .ref a
  | .exc a, v => v = .ref a
  | .fl l, v => ∃ a vs, v = .ref a ∧ FrzM H a vs ∧ DenL G et H l vs
  | .fd ks l, v => ∃ a ws, v = .ref a ∧ FrzD H a ws ∧ ws.map (·.1) = ks.map keyV ∧ DenL G et H l (ws.map (·.2))
def DenL (G : Cf) (et : List Addr) (H : Hp) : List D → List V → Prop
  | [], vs => vs = []
  | d :: ds, vs => ∃ v ws, vs = v :: ws ∧ Den G et H d v ∧ DenL G et H ds ws
end

mutual
def D.lo (n : Nat) : D → Bool
  | .tup l => D.loL n l
  | .fl l => D.loL n l
  | .fd _ l => D.loL n l
  | .ref m => decide (m < n)
  | _ => true
def D.loL (n : Nat) : List D → Bool
  | [] => true
  | d :: ds => D.lo n d && D.loL n ds
end

/-- what never changes stays -/
def Ext (H H' : Hp) : Prop := ∀ a o, H a = some o → ¬ Mut (some o) → H' a = some o
theorem Ext.refl (H : Hp) : Ext H H := fun _ _ h _ => h
theorem Ext.trans {H H1 H2 : Hp} (a : Ext H H1) (b : Ext H1 H2) : Ext H H2 := fun x o h m => b x o (a x o h m) m
theorem Ext.new {H : Hp} {p : Addr} {o : HO} (h : H p = none) : Ext H (upd H p o) := fun a u e _ => by
  rw [upd_ne (ne_of_none e h)]
  exact e
theorem Ext.mut {H : Hp} {p : Addr} {o u : HO} (h : H p = some u) (m : Mut (some u)) : Ext H (upd H p o) := fun a w e nm => by
  have : a ≠ p := fun z => by
    subst z
    rw [h] at e
    cases e
    exact nm m
  rw [upd_ne this]
  exact e
theorem Ext.sqT {K : PySem.W.Frag} {H H' : Hp} {a : Addr} {vs : List V} (e : Ext H H') (h : SqT K H a vs) : SqT K H' a vs := by
  rcases h with (h | ⟨o, h⟩) | h
  · exact .inl (.inl (e _ _ h (fun z => z)))
  · exact .inl (.inr ⟨o, e _ _ h (fun z => z)⟩)
  · exact .inr h

theorem TpT.ext {H H' : Hp} {a : Addr} {vs : List V} (e : Ext H H') (h : TpT H a vs) : TpT H' a vs := e _ _ h (fun z => z)
theorem TpT.sq {K : PySem.W.Frag} {H : Hp} {a : Addr} {vs : List V} (h : TpT H a vs) : SqT K H a vs := .inl (.inl h)
instance {K : PySem.W.Frag} {H : Hp} {a : Addr} {vs : List V} : Coe (TpT H a vs) (SqT K H a vs) := ⟨TpT.sq⟩
theorem FrzL.sq {K : PySem.W.Frag} {H : Hp} {a : Addr} {xs : List V} (h : FrzL K H a xs) : SqL K H a xs := by
  rcases h with ⟨o, h⟩ | h
  · exact .inl (.inr ⟨o, h⟩)
  · exact .inr h
theorem FrzL.ext {K : PySem.W.Frag} {H H' : Hp} {a : Addr} {xs : List V} (e : Ext H H') (h : FrzL K H a xs) : FrzL K H' a xs := by
  rcases h with ⟨o, h⟩ | h
  · exact .inl ⟨o, e _ _ h (fun z => z)⟩
  · exact .inr h

theorem FrzM.ext {H H' : Hp} {a : Addr} {ws : List V} (e : Ext H H') (h : FrzM H a ws) : FrzM H' a ws := by
  obtain ⟨o, h⟩ := h
  exact ⟨o, e _ _ h (fun z => z)⟩
theorem FrzM.rd {H : Hp} {a : Addr} {ws : List V} (h : FrzM H a ws) : Rd H a (.lst ws) := .inr h
theorem FrzM.sq {K : PySem.W.Frag} {H : Hp} {a : Addr} {ws : List V} (h : FrzM H a ws) : SqL K H a ws := .inl (.inr h)
theorem FrzM.frz {K : PySem.W.Frag} {H : Hp} {a : Addr} {ws : List V} (h : FrzM H a ws) : FrzL K H a ws := .inl h
theorem FrzD.ext {H H' : Hp} {a : Addr} {ws : List (Key × V)} (e : Ext H H') (h : FrzD H a ws) : FrzD H' a ws := by
  obtain ⟨o, h⟩ := h
  exact ⟨o, e _ _ h (fun z => z)⟩

mutual
theorem Den.mono {G : Cf} {et et' : List Addr} {H H' : Hp} (p : et <+: et') (e : Ext H H') : ∀ {d : D} {v : V}, Den G et H d v → Den G et' H' d v
  | .non, _, h => h
  | .bl _, _, h => h
  | .int _, _, h => h
  | .str _, _, h => h
  | .exc _, _, h => h
  | .tup l, _, h => by
    simp only [Den] at h ⊢
    obtain ⟨a, vs, e1, h1, h2⟩ := h
    exact ⟨a, vs, e1, h1.ext e, DenL.mono p e h2⟩
  | .fl l, _, h => by
    simp only [Den] at h ⊢
    obtain ⟨a, vs, e1, h1, h2⟩ := h
    exact ⟨a, vs, e1, h1.ext e, DenL.mono p e h2⟩
  | .fd ks l, _, h => by
    simp only [Den] at h ⊢
    obtain ⟨a, vs, e1, h1, h2, h3⟩ := h
    exact ⟨a, vs, e1, h1.ext e, h2, DenL.mono p e h3⟩
  | .ref n, _, h => by
    simp only [Den] at h ⊢
    obtain ⟨a, h1, h2⟩ := h
    obtain ⟨t, rfl⟩ := p
    refine ⟨a, ?_, h2⟩
    rw [List.getElem?_append_left]
    · exact h1
    · exact (List.getElem?_eq_some_iff.mp h1).1
theorem DenL.mono {G : Cf} {et et' : List Addr} {H H' : Hp} (p : et <+: et') (e : Ext H H') : ∀ {ds : List D} {vs : List V}, DenL G et H ds vs → DenL G et' H' ds vs
  | [], _, h => h
  | d :: ds, _, h => by
    simp only [DenL] at h ⊢
    obtain ⟨v, ws, e1, h1, h2⟩ := h
    exact ⟨v, ws, e1, Den.mono p e h1, DenL.mono p e h2⟩
end
mutual
theorem Den.back {G : Cf} {et et' : List Addr} {H : Hp} (p : et <+: et') : ∀ {d : D} {v : V}, D.lo et.length d = true → Den G et' H d v → Den G et H d v
  | .non, _, _, h => h
  | .bl _, _, _, h => h
  | .int _, _, _, h => h
  | .str _, _, _, h => h
  | .exc _, _, _, h => h
  | .tup l, _, b, h => by
    simp only [Den] at h ⊢
    obtain ⟨a, vs, e1, h1, h2⟩ := h
    exact ⟨a, vs, e1, h1, DenL.back p (by simpa [D.lo] using b) h2⟩
  | .fl l, _, b, h => by
    simp only [Den] at h ⊢
    obtain ⟨a, vs, e1, h1, h2⟩ := h
    exact ⟨a, vs, e1, h1, DenL.back p (by simpa [D.lo] using b) h2⟩
  | .fd ks l, _, b, h => by
    simp only [Den] at h ⊢
    obtain ⟨a, vs, e1, h1, h2, h3⟩ := h
    exact ⟨a, vs, e1, h1, h2, DenL.back p (by simpa [D.lo] using b) h3⟩
  | .ref n, _, b, h => by
    simp only [Den] at h ⊢
    obtain ⟨a, h1, h2⟩ := h
    obtain ⟨t, rfl⟩ := p
    have hn : n < et.length := by simpa [D.lo] using b
    refine ⟨a, ?_, h2⟩
    rw [List.getElem?_append_left hn] at h1
    exact h1
theorem DenL.back {G : Cf} {et et' : List Addr} {H : Hp} (p : et <+: et') : ∀ {ds : List D} {vs : List V}, D.loL et.length ds = true → DenL G et' H ds vs → DenL G et H ds vs
  | [], _, _, h => h
  | d :: ds, _, b, h => by
    simp only [DenL] at h ⊢
    obtain ⟨v, ws, e1, h1, h2⟩ := h
    simp only [D.loL, Bool.and_eq_true] at b
    exact ⟨v, ws, e1, Den.back p b.1 h1, DenL.back p b.2 h2⟩
end
mutual
/-- what is denoted refers only to cells that are there -/
theorem Den.lo {G : Cf} {et : List Addr} {H : Hp} : ∀ {d : D} {v : V}, Den G et H d v → D.lo et.length d = true
  | .non, _, _ => rfl
  | .bl _, _, _ => rfl
  | .int _, _, _ => rfl
  | .str _, _, _ => rfl
  | .exc _, _, _ => rfl
  | .tup l, _, h => by
    simp only [Den] at h
    obtain ⟨a, vs, e1, h1, h2⟩ := h
    simpa [D.lo] using DenL.lo h2
  | .fl l, _, h => by
    simp only [Den] at h
    obtain ⟨a, vs, e1, h1, h2⟩ := h
    simpa [D.lo] using DenL.lo h2
  | .fd ks l, _, h => by
    simp only [Den] at h
    obtain ⟨a, vs, e1, h1, h2, h3⟩ := h
    simpa [D.lo] using DenL.lo h3
  | .ref n, _, h => by
    simp only [Den] at h
    obtain ⟨a, h1, h2⟩ := h
    simpa [D.lo] using (List.getElem?_eq_some_iff.mp h1).1
theorem DenL.lo {G : Cf} {et : List Addr} {H : Hp} : ∀ {ds : List D} {vs : List V}, DenL G et H ds vs → D.loL et.length ds = true
  | [], _, _ => by simp [D.loL]
  | d :: ds, _, h => by
    simp only [DenL] at h
    obtain ⟨v, ws, e1, h1, h2⟩ := h
    simp [D.loL, Den.lo h1, DenL.lo h2]
end

/-- the pairs of a dict, of an instance -/
def DenK {κ κ' : Type} (f : κ → κ') (G : Cf) (et : List Addr) (H : Hp) (kvs : List (κ × D)) (ws : List (κ' × V)) : Prop :=
  ws.map (·.1) = kvs.map (fun p => f p.1) ∧ DenL G et H (kvs.map (·.2)) (ws.map (·.2))
theorem DenK.mono {κ κ' : Type} {f : κ → κ'} {G : Cf} {et et' : List Addr} {H H' : Hp} (p : et <+: et') (e : Ext H H') {kvs : List (κ × D)} {ws : List (κ' × V)} (h : DenK f G et H kvs ws) : DenK f G et' H' kvs ws := ⟨h.1, h.2.mono p e⟩

def CellOk (G : Cf) (et : List Addr) (H : Hp) (a : Addr) : Cell → Prop
  | .lst xs => ∃ vs, H a = some (.lst vs) ∧ DenL G et H xs vs
  | .frz xs => ∃ vs, FrzL G.K H a vs ∧ DenL G et H xs vs
  | .dk kvs => ∃ ws, H a = some (.dK ws) ∧ DenK keyV G et H kvs ws
  | .dt kvs => ∃ ws, H a = some (.dT ws) ∧ DenK (List.map keyV) G et H kvs ws
  | .ins c fs => ∃ dx ws, H a = some (.ins (G.C c) dx ws) ∧ DenK id G et H fs ws
def Cell.lo (n : Nat) : Cell → Bool
  | .lst xs => D.loL n xs
  | .frz xs => D.loL n xs
  | .dk kvs => D.loL n (kvs.map (·.2))
  | .dt kvs => D.loL n (kvs.map (·.2))
  | .ins _ fs => D.loL n (fs.map (·.2))
def Cell.isFrz : Cell → Bool
  | .frz _ => true
  | _ => false
structure HRel (G : Cf) (et : List Addr) (h : IH) (H : Hp) : Prop where
  len : et.length = h.length
  nd : ∀ (n m : Nat) (c c' : Cell) (a : Addr), h[n]? = some c → h[m]? = some c' → et[n]? = some a → et[m]? = some a → c.isFrz = false → c'.isFrz = false → n = m
  cell : ∀ (n : Nat) (c : Cell) (a : Addr), h[n]? = some c → et[n]? = some a → CellOk G et H a c

theorem CellOk.mono {G : Cf} {et et' : List Addr} {H H' : Hp} {a : Addr} (p : et <+: et') (e : Ext H H') (he : ∀ o, H a = some o → H' a = some o) {c : Cell} (h : CellOk G et H a c) : CellOk G et' H' a c := by
  cases c with
  | lst xs => obtain ⟨vs, h1, h2⟩ := h; exact ⟨vs, he _ h1, h2.mono p e⟩
  | frz xs => obtain ⟨vs, h1, h2⟩ := h; exact ⟨vs, h1.ext e, h2.mono p e⟩
  | dk kvs => obtain ⟨vs, h1, h2⟩ := h; exact ⟨vs, he _ h1, h2.mono p e⟩
  | dt kvs => obtain ⟨vs, h1, h2⟩ := h; exact ⟨vs, he _ h1, h2.mono p e⟩
  | ins c fs => obtain ⟨dx, vs, h1, h2⟩ := h; exact ⟨dx, vs, he _ h1, h2.mono p e⟩
theorem CellOk.back {G : Cf} {et et' : List Addr} {H : Hp} {a : Addr} (p : et <+: et') {c : Cell} (b : Cell.lo et.length c = true) (h : CellOk G et' H a c) : CellOk G et H a c := by
  cases c with
  | lst xs => obtain ⟨vs, h1, h2⟩ := h; exact ⟨vs, h1, h2.back p b⟩
  | frz xs => obtain ⟨vs, h1, h2⟩ := h; exact ⟨vs, h1, h2.back p b⟩
  | dk kvs => obtain ⟨vs, h1, h2⟩ := h; exact ⟨vs, h1, h2.1, h2.2.back p b⟩
  | dt kvs => obtain ⟨vs, h1, h2⟩ := h; exact ⟨vs, h1, h2.1, h2.2.back p b⟩
  | ins c fs => obtain ⟨dx, vs, h1, h2⟩ := h; exact ⟨dx, vs, h1, h2.1, h2.2.back p b⟩
theorem CellOk.lo {G : Cf} {et : List Addr} {H : Hp} {a : Addr} {c : Cell} (h : CellOk G et H a c) : Cell.lo et.length c = true := by
  cases c with
  | lst xs => obtain ⟨vs, h1, h2⟩ := h; exact h2.lo
  | frz xs => obtain ⟨vs, h1, h2⟩ := h; exact h2.lo
  | dk kvs => obtain ⟨vs, h1, h2⟩ := h; exact h2.2.lo
  | dt kvs => obtain ⟨vs, h1, h2⟩ := h; exact h2.2.lo
  | ins c fs => obtain ⟨dx, vs, h1, h2⟩ := h; exact h2.2.lo
/-- a cell stands in the heap, or is read only -/
theorem CellOk.some_or {G : Cf} {et : List Addr} {H : Hp} {a : Addr} {c : Cell} (h : CellOk G et H a c) : (∃ o, H a = some o) ∨ ∃ o, G.K.lookup a = some o := by
  cases c with
  | lst xs => obtain ⟨vs, h1, _⟩ := h; exact .inl ⟨_, h1⟩
  | frz xs =>
    obtain ⟨vs, ⟨o, h1⟩ | ⟨o, _, _, h1, _⟩, _⟩ := h
    · exact .inl ⟨_, h1⟩
    · exact .inr ⟨_, h1⟩
  | dk kvs => obtain ⟨vs, h1, _⟩ := h; exact .inl ⟨_, h1⟩
  | dt kvs => obtain ⟨vs, h1, _⟩ := h; exact .inl ⟨_, h1⟩
  | ins c fs => obtain ⟨dx, vs, h1, _⟩ := h; exact .inl ⟨_, h1⟩

section
variable {G : Cf} {et et' : List Addr} {H H' : Hp} {h h' : IH}
theorem HRel.addr (R : HRel G et h H) {n : Nat} {c : Cell} (e : h[n]? = some c) : ∃ a, et[n]? = some a := by
  have : n < h.length := (List.getElem?_eq_some_iff.mp e).1
  exact ⟨et[n]'(by rw [R.len]; exact this), List.getElem?_eq_getElem _⟩
theorem HRel.cellAt (R : HRel G et h H) {n : Nat} {a : Addr} (e : et[n]? = some a) : ∃ c, h[n]? = some c ∧ CellOk G et H a c := by
  have l : n < h.length := by rw [← R.len]; exact (List.getElem?_eq_some_iff.mp e).1
  exact ⟨h[n], List.getElem?_eq_getElem l, R.cell n _ a (List.getElem?_eq_getElem l) e⟩
theorem CellOk.there {a : Addr} {c : Cell} (f : c.isFrz = false) (x : CellOk G et H a c) : ∃ o, H a = some o := by
  cases c with
  | lst xs => obtain ⟨vs, h1, _⟩ := x; exact ⟨_, h1⟩
  | frz xs => cases f
  | dk kvs => obtain ⟨vs, h1, _⟩ := x; exact ⟨_, h1⟩
  | dt kvs => obtain ⟨vs, h1, _⟩ := x; exact ⟨_, h1⟩
  | ins c fs => obtain ⟨dx, vs, h1, _⟩ := x; exact ⟨_, h1⟩
/-- nothing of the cells is touched -/
theorem HRel.keep (R : HRel G et h H) (e : Ext H H') (k : ∀ (n : Nat) (a : Addr) (o : HO), et[n]? = some a → H a = some o → H' a = some o) : HRel G et h H' :=
  ⟨R.len, R.nd, fun n c a h1 h2 => (R.cell n c a h1 h2).mono List.prefix_rfl e (fun o => k n a o h2)⟩
/-- a new immutable object -/
theorem HRel.new (R : HRel G et h H) {p : Addr} {o : HO} (hp : H p = none) : HRel G et h (upd H p o) :=
  R.keep (Ext.new hp) fun n a u _ e => by rw [upd_ne (ne_of_none e hp)]; exact e
/-- a new cell -/
theorem HRel.push (R : HRel G et h H) {p : Addr} {o : HO} {c : Cell} (hp : H p = none) (hc : CellOk G (et ++ [p]) (upd H p o) p c) : HRel G (et ++ [p]) (h ++ [c]) (upd H p o) := by
  have pf : et <+: et ++ [p] := List.prefix_append _ _
  have old : ∀ {n : Nat} {c' : Cell}, (h ++ [c])[n]? = some c' → (n < h.length ∧ h[n]? = some c') ∨ (n = h.length ∧ c' = c) := fun {n c'} e => by
    by_cases hn : n < h.length
    · rw [List.getElem?_append_left hn] at e
      exact .inl ⟨hn, e⟩
    · rw [List.getElem?_append_right (by omega)] at e
      have : n - h.length = 0 := by
        have := (List.getElem?_eq_some_iff.mp e).1
        simp at this
        omega
      rw [this] at e
      simp at e
      exact .inr ⟨by omega, e.symm⟩
  have oldA : ∀ {n : Nat} {a : Addr}, n < h.length → (et ++ [p])[n]? = some a → et[n]? = some a := fun {n a} hn e => by
    rw [List.getElem?_append_left (by rw [R.len]; exact hn)] at e
    exact e
  have newA : ∀ {a : Addr}, (et ++ [p])[h.length]? = some a → a = p := fun {a} e => by
    rw [List.getElem?_append_right (by rw [R.len]; exact Nat.le_refl _), R.len, Nat.sub_self] at e
    simp at e
    exact e.symm
  refine ⟨by simp [R.len], fun n m c1 c2 a h1 h2 h3 h4 f1 f2 => ?_, fun n c1 a h1 h2 => ?_⟩
  · rcases old h1 with ⟨l1, g1⟩ | ⟨l1, rfl⟩
    · rcases old h2 with ⟨l2, g2⟩ | ⟨l2, rfl⟩
      · exact R.nd n m c1 c2 a g1 g2 (oldA l1 h3) (oldA l2 h4) f1 f2
      · rw [l2] at h4
        have ea := newA h4
        obtain ⟨o', ho⟩ := (R.cell n c1 a g1 (oldA l1 h3)).there f1
        rw [ea, hp] at ho
        cases ho
    · rcases old h2 with ⟨l2, g2⟩ | ⟨l2, rfl⟩
      · rw [l1] at h3
        have ea := newA h3
        obtain ⟨o', ho⟩ := (R.cell m c2 a g2 (oldA l2 h4)).there f2
        rw [ea, hp] at ho
        cases ho
      · rw [l1, l2]
  · rcases old h1 with ⟨l1, g1⟩ | ⟨l1, rfl⟩
    · refine (R.cell n c1 a g1 (oldA l1 h2)).mono pf (Ext.new hp) fun u e => ?_
      rw [upd_ne (ne_of_none e hp)]
      exact e
    · rw [l1] at h2
      rw [newA h2]
      exact hc
/-- a cell is written -/
theorem HRel.set (R : HRel G et h H) {n : Nat} {a : Addr} {o u : HO} {c c' : Cell} (hn : h[n]? = some c) (ha : et[n]? = some a) (f : c.isFrz = false) (ho : H a = some o) (mu : Mut (some o))
    (hc : CellOk G et (upd H a u) a c') : HRel G et (h.set n c') (upd H a u) := by
  have ex : Ext H (upd H a u) := Ext.mut ho mu
  have ln : n < h.length := (List.getElem?_eq_some_iff.mp hn).1
  refine ⟨by simp [R.len], fun i j c1 c2 b h1 h2 h3 h4 f1 f2 => ?_, fun i c1 b h1 h2 => ?_⟩
  · by_cases hi : i = n
    · by_cases hj : j = n
      · rw [hi, hj]
      · rw [List.getElem?_set_ne (Ne.symm hj)] at h2
        rw [hi] at h3
        rw [ha] at h3
        cases h3
        exact hi.trans (R.nd n j c c2 a hn h2 ha h4 f f2)
    · rw [List.getElem?_set_ne (Ne.symm hi)] at h1
      by_cases hj : j = n
      · rw [hj, ha] at h4
        cases h4
        exact (R.nd i n c1 c a h1 hn h3 ha f1 f).trans hj.symm
      · rw [List.getElem?_set_ne (Ne.symm hj)] at h2
        exact R.nd i j c1 c2 b h1 h2 h3 h4 f1 f2
  · by_cases hi : i = n
    · subst hi
      rw [ha] at h2
      cases h2
      rw [List.getElem?_set_self ln] at h1
      cases h1
      exact hc
    · rw [List.getElem?_set_ne (Ne.symm hi)] at h1
      have old := R.cell i c1 b h1 h2
      cases hf : c1.isFrz with
      | false =>
        have nb : b ≠ a := fun z => by
          subst z
          exact hi (R.nd i n c1 c b h1 hn h2 ha hf f)
        exact old.mono List.prefix_rfl ex fun w e => by rw [upd_ne nb]; exact e
      | true =>
        cases c1 with
        | frz xs =>
          obtain ⟨vs, h5, h6⟩ := old
          exact ⟨vs, h5.ext ex, h6.mono List.prefix_rfl ex⟩
        | _ => cases hf
end
end NR

set_option Elab.async false
set_option linter.all false
set_option maxRecDepth 100000
/-! What syntax does, as a function: the judgement, the rules. -/
namespace NR
open PySem PySem.Spec PyProof.Rows L2

abbrev XF := Option (List (Str × D))
/-- an outcome: a value, an exception, nothing is said -/
inductive R (A : Type) where
  | ok (a : A) (h : IH)
  | ex (c : Str) (d : XF) (h : IH)
  | no
def R.bind {A B : Type} (r : R A) (k : A → IH → R B) : R B :=
  match r with
  | .ok a h => k a h
  | .ex c d h => .ex c d h
  | .no => .no
inductive RS where
  | nx (e : EV) (h : IH) | rt (d : D) (h : IH) | bk (e : EV) (h : IH) | ct (e : EV) (h : IH)
  | ex (c : Str) (d : XF) (e : EV) (h : IH) | no
def R.bindS {A : Type} (r : R A) (env : EV) (k : A → IH → RS) : RS :=
  match r with
  | .ok a h => k a h
  | .ex c d h => .ex c d env h
  | .no => .no
abbrev ME := EV → IH → R D
abbrev MT := EV → IH → R Bool
abbrev MA := EV → IH → R (List D)
abbrev MS := EV → IH → RS
abbrev MF := List D → IH → R D

def ExOk (G : Cf) (et : List Addr) (H : Hp) (c : Str) (d : XF) (cls : Value) (dd : Option Addr) : Prop :=
  cls = .ref (G.C c) ∧ match d with
    | none => dd = none
    | some fs => ∃ a ws, dd = some a ∧ H a = some (.xd ws) ∧ DenK id G et H fs ws

def Pst {A : Type} (G : Cf) (et : List Addr) (H : Hp) (r : R A) (F : List Addr → Hp → IH → A → Prop) (W : Value → Option Addr → Hp → Prop) : Prop :=
  match r with
  | .ok a h' => ∀ et' H', et <+: et' → Ext H H' → HRel G et' h' H' → F et' H' h' a
  | .ex c d h' => ∀ et' H' cls dd, et <+: et' → Ext H H' → HRel G et' h' H' → ExOk G et' H' c d cls dd → W cls dd H'
  | .no => False
section
variable {G : Cf} {et et' : List Addr} {H H' : Hp} {h h' : IH} {A B : Type}
theorem Pst.of_bind {r : R A} {k : A → IH → R B} {F : List Addr → Hp → IH → B → Prop} {W : Value → Option Addr → Hp → Prop} (x : Pst G et H (r.bind k) F W) :
    Pst G et H r (fun et1 H1 h1 a => Pst G et1 H1 (k a h1) F W) W := by
  cases r with
  | ok a h1 =>
    intro et1 H1 p e hr
    show Pst G et1 H1 (k a h1) F W
    have y : Pst G et H (k a h1) F W := x
    cases hk : k a h1 with
    | ok b h2 => rw [hk] at y; exact fun et2 H2 p2 e2 hr2 => y et2 H2 (p.trans p2) (e.trans e2) hr2
    | ex c d h2 => rw [hk] at y; exact fun et2 H2 cls dd p2 e2 hr2 => y et2 H2 cls dd (p.trans p2) (e.trans e2) hr2
    | no => rw [hk] at y; exact y
  | ex c d h1 => exact x
  | no => exact x
theorem Pst.imp {r : R A} {F F' : List Addr → Hp → IH → A → Prop} {W : Value → Option Addr → Hp → Prop} (x : Pst G et H r F W)
    (k : ∀ et' H' h' a, et <+: et' → Ext H H' → HRel G et' h' H' → F et' H' h' a → F' et' H' h' a) : Pst G et H r F' W := by
  cases r with
  | ok a h1 => exact fun et1 H1 p e hr => k et1 H1 h1 a p e hr (x et1 H1 p e hr)
  | ex c d h1 => exact x
  | no => exact x
theorem Pst.weak {r : R A} {F : List Addr → Hp → IH → A → Prop} {W : Value → Option Addr → Hp → Prop} (p : et <+: et') (e : Ext H H') (x : Pst G et H r F W) : Pst G et' H' r F W := by
  cases r with
  | ok a h1 => exact fun et1 H1 p1 e1 hr => x et1 H1 (p.trans p1) (e.trans e1) hr
  | ex c d h1 => exact fun et1 H1 cls dd p1 e1 hr => x et1 H1 cls dd (p.trans p1) (e.trans e1) hr
  | no => exact x
end

/-- the slots hold the values -/
def EnvR (G : Cf) (et : List Addr) (H : Hp) (env : EV) (σ : L2.St) : Prop :=
  env.length = σ.length ∧ ∀ (i : Nat) (d : D), env[i]? = some (some d) → ∃ v, σ[i]? = some (some v) ∧ Den G et H d v
section
variable {G : Cf} {et et' : List Addr} {H H' : Hp} {h h' : IH} {A B : Type} {env : EV} {σ : L2.St}
theorem EnvR.mono (p : et <+: et') (e : Ext H H') (x : EnvR G et H env σ) : EnvR G et' H' env σ :=
  ⟨x.1, fun i d q => let ⟨v, a, b⟩ := x.2 i d q; ⟨v, a, b.mono p e⟩⟩
theorem EnvR.set (x : EnvR G et H env σ) (i : Nat) {d : D} {v : V} (r : Den G et H d v) : EnvR G et H (env.set i (some d)) (σ.set i (some v)) := by
  refine ⟨by simp [x.1], fun j d' q => ?_⟩
  by_cases hj : j = i
  · subst hj
    by_cases hl : j < env.length
    · rw [List.getElem?_set_self hl] at q
      cases q
      exact ⟨v, by rw [List.getElem?_set_self (by rw [← x.1]; exact hl)], r⟩
    · rw [List.set_eq_of_length_le (by omega)] at q
      have := (List.getElem?_eq_some_iff.mp q).1
      exact absurd this hl
  · rw [List.getElem?_set_ne (Ne.symm hj)] at q
    obtain ⟨w, a, b⟩ := x.2 j d' q
    exact ⟨w, by rw [List.getElem?_set_ne (Ne.symm hj)]; exact a, b⟩
end

def tE (G : Cf) (W : WX) (m : ME) : TE := fun σ H Q => ∃ et env h, EnvR G et H env σ ∧ HRel G et h H ∧
  Pst G et H (m env h) (fun et' H' _ d => ∀ v, Den G et' H' d v → Q v H') (fun c d H' => W c d σ H')
def tT (G : Cf) (W : WX) (m : MT) : TT := fun σ H Q => ∃ et env h, EnvR G et H env σ ∧ HRel G et h H ∧
  Pst G et H (m env h) (fun _ H' _ b => Q b H') (fun c d H' => W c d σ H')
def tA (G : Cf) (W : WX) (m : MA) : TA := fun σ H Q => ∃ et env h, EnvR G et H env σ ∧ HRel G et h H ∧
  Pst G et H (m env h) (fun et' H' _ ds => ∀ vs, DenL G et' H' ds vs → Q vs H') (fun c d H' => W c d σ H')
def PstS (G : Cf) (et : List Addr) (H : Hp) (r : RS) (D : Ends) (W : WX) : Prop :=
  match r with
  | .nx env' h' => ∀ et' H' σ', et <+: et' → Ext H H' → HRel G et' h' H' → EnvR G et' H' env' σ' → D.nx σ' H'
  | .bk env' h' => ∀ et' H' σ', et <+: et' → Ext H H' → HRel G et' h' H' → EnvR G et' H' env' σ' → D.bk σ' H'
  | .ct env' h' => ∀ et' H' σ', et <+: et' → Ext H H' → HRel G et' h' H' → EnvR G et' H' env' σ' → D.ct σ' H'
  | .rt d h' => ∀ et' H' v, et <+: et' → Ext H H' → HRel G et' h' H' → Den G et' H' d v → D.rt v H'
  | .ex c d env' h' => ∀ et' H' σ' cls dd, et <+: et' → Ext H H' → HRel G et' h' H' → EnvR G et' H' env' σ' → ExOk G et' H' c d cls dd → W cls dd σ' H'
  | .no => False
def tS (G : Cf) (W : WX) (m : MS) : TS := fun D σ H => ∃ et env h, EnvR G et H env σ ∧ HRel G et h H ∧ PstS G et H (m env h) D W

theorem PE.imp {X : Cx} {e : Expr} {t t' : TE} (h : PE X e t) (k : ∀ σ H Q, t' σ H Q → t σ H Q) : PE X e t' := ⟨fun pins s σ H Q I x => h.run pins s σ H Q I (k σ H Q x)⟩
theorem PT.imp {X : Cx} {e : Expr} {t t' : TT} (h : PT X e t) (k : ∀ σ H Q, t' σ H Q → t σ H Q) : PT X e t' := ⟨fun pins s σ H Q I x => h.run pins s σ H Q I (k σ H Q x)⟩
theorem PW.imp {X : Cx} {e : Expr} {t t' : TT} (h : PW X e t) (k : ∀ σ H Q, t' σ H Q → t σ H Q) : PW X e t' := ⟨fun wh pins s σ H Q I x => h.run wh pins s σ H Q I (k σ H Q x)⟩
theorem PA.imp {X : Cx} {e : List Expr} {t t' : TA} (h : PA X e t) (k : ∀ σ H Q, t' σ H Q → t σ H Q) : PA X e t' := ⟨fun pos pins s σ H Q I x => h.run pos pins s σ H Q I (k σ H Q x)⟩
theorem PS.imp {X : Cx} {e : Stmt} {t t' : TS} (h : PS X e t) (k : ∀ D σ H, t' D σ H → t D σ H) : PS X e t' := ⟨fun pins s σ H D I x => h.run pins s σ H D I (k D σ H x)⟩
theorem PSs.imp {X : Cx} {e : List Stmt} {t t' : TS} (h : PSs X e t) (k : ∀ D σ H, t' D σ H → t D σ H) : PSs X e t' := ⟨fun pins s σ H D I x => h.run pins s σ H D I (k D σ H x)⟩

section
variable {G : Cf} {W : WX} {σ : L2.St} {H : Hp} {A B : Type}
/-- two in a row -/
theorem tE.bind {m : ME} {k : EV → D → IH → R D} {Q : VK} (x : tE G W (fun env h => (m env h).bind (k env)) σ H Q) :
    tE G W m σ H fun v H1 => ∃ et1 env h1 d, EnvR G et1 H1 env σ ∧ HRel G et1 h1 H1 ∧ Den G et1 H1 d v ∧ Pst G et1 H1 (k env d h1) (fun et' H' _ d => ∀ v, Den G et' H' d v → Q v H') (fun c d H' => W c d σ H') := by
  obtain ⟨et, env, h, hE, hH, hP⟩ := x
  exact ⟨et, env, h, hE, hH, (Pst.of_bind hP).imp fun et1 H1 h1 a p e hr q v hv => ⟨et1, env, h1, a, hE.mono p e, hr, hv, q⟩⟩
end

/-! ### names, constants -/
def mVar (i : Nat) : ME := fun env h => match env[i]? with
  | some (some d) => .ok d h
  | _ => .no
def mC (d : D) : ME := fun _ h => .ok d h
section
variable {X : Cx} {G : Cf} {W : WX}
theorem me_var (i : Nat) {x : Str} {pos : Pos} (hN : X.N[i]? = some x := by rfl) (hv : Vis X.env.scope x := by first | exact Or.inl rfl | exact Or.inr (Or.inl rfl) | exact Or.inr (Or.inr rfl)) (hd : (x == ("__debug__" : Str)) = false := by decide)
    (hcd : (x == ("__classdict__" : Str)) = false := by decide) : PE X (.Name x pos) (tE G W (mVar i)) :=
  PE.imp (pe_var hN hv hd hcd) fun σ H Q ⟨et, env, h, hE, hH, hP⟩ => by
    unfold mVar at hP
    split at hP
    · rename_i d hd
      obtain ⟨v, e1, r⟩ := hE.2 i d hd
      exact ⟨v, e1, hP et H List.prefix_rfl (Ext.refl H) hH v r⟩
    · exact hP.elim
theorem tE.const {d : D} {v : V} {σ : L2.St} {H : Hp} {Q : VK} (x : tE G W (mC d) σ H Q) (r : ∀ et, Den G et H d v) : Q v H := by
  obtain ⟨et, env, h, hE, hH, hP⟩ := x
  exact hP et H List.prefix_rfl (Ext.refl H) hH v (r et)
theorem me_int {i j pos} : PE X (.Constant (.int i) j pos) (tE G W (mC (.int i))) := PE.imp pe_int fun _ _ _ x => x.const (v := .int i) fun et => by simp [Den]
theorem me_bl {b j pos} : PE X (.Constant (.bool b) j pos) (tE G W (mC (.bl b))) := PE.imp pe_bl fun _ _ _ x => x.const (v := .bl b) fun et => by simp [Den]
theorem me_non {j pos} : PE X (.Constant .none j pos) (tE G W (mC .non)) := PE.imp pe_non fun _ _ _ x => x.const (v := .non) fun et => by simp [Den]
theorem me_str {x : Str} {j pos} (s : List Nat) (e : strV s = x := by decide +kernel) : PE X (.Constant (.str x) j pos) (tE G W (mC (.str s))) := PE.imp pe_str fun _ _ _ y => y.const (v := .str x) fun et => by simp [Den, e]
/-- a module's constant that is a number or a text -/
def OfC : D → Value → Prop
  | .int i, u => ∃ t, u = .int i t
  | .str s, u => ∃ t, u = .str (strV s) t
  | _, _ => False
theorem me_glob {x : Str} {u : Value} {pos : Pos} (d : D) (r : OfC d u) (hm : X.mg x = some u) (hg : Gl X x := by rfl) (hd : (x == ("__debug__" : Str)) = false := by decide) : PE X (.Name x pos) (tE G W (mC d)) := by
  cases d with
  | int i => exact PE.imp (pe_glob (v := .int i) hg hm r hd) fun _ _ _ y => y.const (v := .int i) fun et => by simp [Den]
  | str s => exact PE.imp (pe_glob (v := .str (strV s)) hg hm r hd) fun _ _ _ y => y.const (v := .str (strV s)) fun et => by simp [Den]
  | _ => exact r.elim
end

/-! ### operators by values -/
/-- f on trees is what the rule r asks -/
def OpS (G : Cf) (r : R2) (f : D → D → IH → R D) : Prop := ∀ (et : List Addr) (H : Hp) (h : IH) (x y : D) (v w : V) (W : Value → Option Addr → Hp → Prop) (Q : VK), Den G et H x v → Den G et H y w → HRel G et h H →
  Pst G et H (f x y h) (fun et' H' _ d => ∀ v, Den G et' H' d v → Q v H') W → r v w H Q
def mOp (f : D → D → IH → R D) (a b : ME) : ME := fun env h => (a env h).bind fun x h1 => (b env h1).bind fun y h2 => f x y h2
section
variable {X : Cx} {G : Cf} {W : WX} {a b e : Expr} {ma mb mc : ME} {pos : Pos} {r : R2} {f : D → D → IH → R D}
theorem tOp_of {σ : L2.St} {H : Hp} {Q : VK} (hs : OpS G r f) (x : tE G W (mOp f ma mb) σ H Q) : tOp r (tE G W ma) (tE G W mb) σ H Q := by
  obtain ⟨et, env, h, hE, hH, hP⟩ := x
  refine ⟨et, env, h, hE, hH, (Pst.of_bind hP).imp fun et1 H1 h1 x p e hr q v hv => ?_⟩
  refine ⟨et1, env, h1, hE.mono p e, hr, (Pst.of_bind q).imp fun et2 H2 h2 y p2 e2 hr2 q2 w hw => ?_⟩
  exact hs et2 H2 h2 x y v w _ Q (hv.mono p2 e2) hw hr2 q2
theorem me_op {op : Operator} (ho : OpR X (binaryOp op) r) (hs : OpS G r f) (ha : PE X a (tE G W ma)) (hb : PE X b (tE G W mb)) : PE X (.BinOp a op b pos) (tE G W (mOp f ma mb)) :=
  PE.imp (pe_op ho ha hb) fun _ _ _ x => tOp_of hs x
theorem me_cmp {op : CmpOp} (ho : OpR X (compareOp op) r) (hs : OpS G r f) (ha : PE X a (tE G W ma)) (hb : PE X b (tE G W mb)) (hm : behindInMarks op b = false := by first | exact nomark _ | rfl) : PE X (.Compare a [op] [b] pos) (tE G W (mOp f ma mb)) :=
  PE.imp (pe_cmpR ho ha hb hm) fun _ _ _ x => tOp_of hs x
end
#check @nomark
#check @pe_cmpR
#check @pt_truth
#check @pt_cmpR
end NR

set_option Elab.async false
set_option linter.all false
set_option maxRecDepth 100000
/-! Operators. -/
namespace NR
open PySem PySem.Spec PyProof.Rows L2

theorem sz {n : Nat} (h : n ≤ 10000000) : n ≤ sizeLine := by rw [sizeLine_eq]; omega
section
variable {G : Cf} {et : List Addr} {H : Hp} {v : V}
@[simp] theorem den_non : Den G et H .non v ↔ v = .non := by simp [Den]
@[simp] theorem den_bl {b : Bool} : Den G et H (.bl b) v ↔ v = .bl b := by simp [Den]
@[simp] theorem den_int {i : Int} : Den G et H (.int i) v ↔ v = .int i := by simp [Den]
@[simp] theorem den_str {s : List Nat} : Den G et H (.str s) v ↔ v = .str (strV s) := by simp [Den]
@[simp] theorem den_tup {l : List D} : Den G et H (.tup l) v ↔ ∃ a vs, v = .ref a ∧ TpT H a vs ∧ DenL G et H l vs := by simp [Den]
@[simp] theorem den_ref {n : Nat} : Den G et H (.ref n) v ↔ ∃ a, et[n]? = some a ∧ v = .ref a := by simp [Den]
@[simp] theorem den_fl {l : List D} : Den G et H (.fl l) v ↔ ∃ a vs, v = .ref a ∧ FrzM H a vs ∧ DenL G et H l vs := by simp [Den]
@[simp] theorem den_fd {ks : List DKey} {l : List D} : Den G et H (.fd ks l) v ↔ ∃ a ws, v = .ref a ∧ FrzD H a ws ∧ ws.map (·.1) = ks.map keyV ∧ DenL G et H l (ws.map (·.2)) := by simp [Den]
@[simp] theorem denL_nil {vs : List V} : DenL G et H [] vs ↔ vs = [] := by simp [DenL]
@[simp] theorem denL_cons {d : D} {ds : List D} {vs : List V} : DenL G et H (d :: ds) vs ↔ ∃ v ws, vs = v :: ws ∧ Den G et H d v ∧ DenL G et H ds ws := by simp [DenL]
theorem DenL.len : ∀ {ds : List D} {vs : List V}, DenL G et H ds vs → vs.length = ds.length
  | [], _, h => by rw [denL_nil] at h; rw [h]; rfl
  | d :: ds, _, h => by
    obtain ⟨v, ws, rfl, _, h2⟩ := denL_cons.mp h
    simp [DenL.len h2]
theorem DenL.get : ∀ {ds : List D} {vs : List V} {i : Nat} {d : D}, DenL G et H ds vs → ds[i]? = some d → ∃ v, vs[i]? = some v ∧ Den G et H d v
  | [], _, _, _, _, e => by simp at e
  | d :: ds, _, i, d', h, e => by
    obtain ⟨v, ws, rfl, h1, h2⟩ := denL_cons.mp h
    cases i with
    | zero => simp at e; subst e; exact ⟨v, by simp, h1⟩
    | succ i => obtain ⟨u, a, b⟩ := DenL.get (i := i) h2 (by simpa using e); exact ⟨u, by simpa using a, b⟩
theorem DenL.get' : ∀ {ds : List D} {vs : List V} {i : Nat} {v : V}, DenL G et H ds vs → vs[i]? = some v → ∃ d, ds[i]? = some d ∧ Den G et H d v
  | [], _, _, _, h, e => by rw [denL_nil] at h; subst h; simp at e
  | d :: ds, _, i, v', h, e => by
    obtain ⟨v, ws, rfl, h1, h2⟩ := denL_cons.mp h
    cases i with
    | zero => simp at e; subst e; exact ⟨d, by simp, h1⟩
    | succ i => obtain ⟨u, a, b⟩ := DenL.get' (i := i) h2 (by simpa using e); exact ⟨u, by simpa using a, b⟩
theorem DenL.app : ∀ {ds es : List D} {vs ws : List V}, DenL G et H ds vs → DenL G et H es ws → DenL G et H (ds ++ es) (vs ++ ws)
  | [], _, _, _, h, k => by rw [denL_nil] at h; subst h; exact k
  | d :: ds, _, _, _, h, k => by
    obtain ⟨v, ws, rfl, h1, h2⟩ := denL_cons.mp h
    exact denL_cons.mpr ⟨v, _, rfl, h1, DenL.app h2 k⟩
theorem DenL.take : ∀ (n : Nat) {ds : List D} {vs : List V}, DenL G et H ds vs → DenL G et H (ds.take n) (vs.take n)
  | 0, _, _, _ => by simp
  | n + 1, [], _, h => by rw [denL_nil] at h; subst h; simp
  | n + 1, d :: ds, _, h => by
    obtain ⟨v, ws, rfl, h1, h2⟩ := denL_cons.mp h
    exact denL_cons.mpr ⟨v, _, rfl, h1, DenL.take n h2⟩
theorem DenL.drop : ∀ (n : Nat) {ds : List D} {vs : List V}, DenL G et H ds vs → DenL G et H (ds.drop n) (vs.drop n)
  | 0, _, _, h => by simpa using h
  | n + 1, [], _, h => by rw [denL_nil] at h; subst h; simp
  | n + 1, d :: ds, _, h => by
    obtain ⟨v, ws, rfl, h1, h2⟩ := denL_cons.mp h
    simpa using DenL.drop n h2
theorem DenL.set : ∀ {ds : List D} {vs : List V} (i : Nat) {d : D} {v : V}, DenL G et H ds vs → Den G et H d v → DenL G et H (ds.set i d) (vs.set i v)
  | [], _, _, _, _, h, _ => by rw [denL_nil] at h; subst h; simp
  | d :: ds, _, i, d', v', h, k => by
    obtain ⟨v, ws, rfl, h1, h2⟩ := denL_cons.mp h
    cases i with
    | zero => exact denL_cons.mpr ⟨_, _, rfl, k, h2⟩
    | succ i => exact denL_cons.mpr ⟨_, _, rfl, h1, DenL.set i h2 k⟩
theorem DenL.ints : ∀ {ns : List Int} {vs : List V}, DenL G et H (ns.map D.int) vs → vs = ns.map V.int
  | [], _, h => by simpa using h
  | n :: ns, _, h => by
    obtain ⟨v, ws, rfl, h1, h2⟩ := denL_cons.mp h
    rw [den_int.mp h1, DenL.ints h2]; rfl
theorem DenL.bls : ∀ {ns : List Bool} {vs : List V}, DenL G et H (ns.map D.bl) vs → vs = ns.map V.bl
  | [], _, h => by simpa using h
  | n :: ns, _, h => by
    obtain ⟨v, ws, rfl, h1, h2⟩ := denL_cons.mp h
    rw [den_bl.mp h1, DenL.bls h2]; rfl
theorem DenL.strs : ∀ {ns : List (List Nat)} {vs : List V}, DenL G et H (ns.map D.str) vs → vs = (ns.map strV).map V.str
  | [], _, h => by simpa using h
  | n :: ns, _, h => by
    obtain ⟨v, ws, rfl, h1, h2⟩ := denL_cons.mp h
    rw [den_str.mp h1, DenL.strs h2]; rfl
theorem DenL.ofInts : ∀ {ns : List Int}, DenL G et H (ns.map D.int) (ns.map V.int)
  | [] => by simp
  | n :: ns => denL_cons.mpr ⟨_, _, rfl, by simp, DenL.ofInts⟩
theorem DenL.ofStrs : ∀ {ns : List (List Nat)}, DenL G et H (ns.map D.str) ((ns.map strV).map V.str)
  | [] => by simp
  | n :: ns => denL_cons.mpr ⟨_, _, rfl, by simp, DenL.ofStrs⟩
end

/-- all of a list are of a kind -/
def allM {A : Type} (f : D → Option A) : List D → Option (List A)
  | [] => some []
  | d :: ds => match f d, allM f ds with
    | some a, some as => some (a :: as)
    | _, _ => none
def D.int? : D → Option Int
  | .int i => some i
  | _ => none
def D.bl? : D → Option Bool
  | .bl i => some i
  | _ => none
def D.str? : D → Option (List Nat)
  | .str i => some i
  | _ => none
theorem allM_ints : ∀ {ds : List D} {ns : List Int}, allM D.int? ds = some ns → ds = ns.map D.int
  | [], _, h => by simp [allM] at h; subst h; rfl
  | d :: ds, ns, h => by
    unfold allM at h
    cases e1 : D.int? d with
    | none => rw [e1] at h; simp at h
    | some a =>
      cases e2 : allM D.int? ds with
      | none => rw [e1, e2] at h; simp at h
      | some as =>
        rw [e1, e2] at h
        simp at h
        subst h
        rw [allM_ints e2]
        cases d <;> simp [D.int?] at e1
        subst e1
        rfl
theorem allM_bls : ∀ {ds : List D} {ns : List Bool}, allM D.bl? ds = some ns → ds = ns.map D.bl
  | [], _, h => by simp [allM] at h; subst h; rfl
  | d :: ds, ns, h => by
    unfold allM at h
    cases e1 : D.bl? d with
    | none => rw [e1] at h; simp at h
    | some a =>
      cases e2 : allM D.bl? ds with
      | none => rw [e1, e2] at h; simp at h
      | some as =>
        rw [e1, e2] at h
        simp at h
        subst h
        rw [allM_bls e2]
        cases d <;> simp [D.bl?] at e1
        subst e1
        rfl
theorem allM_strs : ∀ {ds : List D} {ns : List (List Nat)}, allM D.str? ds = some ns → ds = ns.map D.str
  | [], _, h => by simp [allM] at h; subst h; rfl
  | d :: ds, ns, h => by
    unfold allM at h
    cases e1 : D.str? d with
    | none => rw [e1] at h; simp at h
    | some a =>
      cases e2 : allM D.str? ds with
      | none => rw [e1, e2] at h; simp at h
      | some as =>
        rw [e1, e2] at h
        simp at h
        subst h
        rw [allM_strs e2]
        cases d <;> simp [D.str?] at e1
        subst e1
        rfl
@[simp] theorem allM_mkInts (ns : List Int) : allM D.int? (ns.map D.int) = some ns := by
  induction ns with
  | nil => rfl
  | cons n ns ih => simp [allM, D.int?, ih]
@[simp] theorem allM_mkBls (ns : List Bool) : allM D.bl? (ns.map D.bl) = some ns := by
  induction ns with
  | nil => rfl
  | cons n ns ih => simp [allM, D.bl?, ih]
@[simp] theorem allM_mkStrs (ns : List (List Nat)) : allM D.str? (ns.map D.str) = some ns := by
  induction ns with
  | nil => rfl
  | cons n ns ih => simp [allM, D.str?, ih]

/-! ### a list's or a tuple's items -/
def seqOf (h : IH) : D → Option (List D)
  | .tup l => some l
  | .fl l => some l
  | .ref n => match h[n]? with
    | some (.lst xs) => some xs
    | some (.frz xs) => some xs
    | _ => none
  | _ => none
def lstOf (h : IH) : D → Option (List D)
  | .fl l => some l
  | .ref n => match h[n]? with
    | some (.lst xs) => some xs
    | some (.frz xs) => some xs
    | _ => none
  | _ => none
section
variable {G : Cf} {et : List Addr} {H : Hp} {h : IH}
theorem lst_ok (R : HRel G et h H) {x : D} {xs : List D} {v : V} (e : lstOf h x = some xs) (r : Den G et H x v) : ∃ a vs, v = .ref a ∧ SqL G.K H a vs ∧ DenL G et H xs vs := by
  cases x with
  | fl l =>
    simp only [lstOf, Option.some.injEq] at e
    subst e
    obtain ⟨a, vs, h1, h2, h3⟩ := den_fl.mp r
    exact ⟨a, vs, h1, h2.sq, h3⟩
  | ref n =>
    obtain ⟨a, h1, rfl⟩ := den_ref.mp r
    simp only [lstOf] at e
    split at e
    · rename_i ys hy
      cases e
      obtain ⟨vs, h2, h3⟩ := R.cell n _ a hy h1
      exact ⟨a, vs, rfl, SqL.of h2, h3⟩
    · rename_i ys hy
      cases e
      obtain ⟨vs, h2, h3⟩ := R.cell n _ a hy h1
      exact ⟨a, vs, rfl, h2.sq, h3⟩
    · cases e
  | _ => simp [lstOf] at e
theorem seq_ok (R : HRel G et h H) {x : D} {xs : List D} {v : V} (e : seqOf h x = some xs) (r : Den G et H x v) : ∃ a vs, v = .ref a ∧ (SqL G.K H a vs ∨ SqT G.K H a vs) ∧ DenL G et H xs vs := by
  cases x with
  | tup l =>
    simp only [seqOf, Option.some.injEq] at e
    subst e
    obtain ⟨a, vs, h1, h2, h3⟩ := den_tup.mp r
    exact ⟨a, vs, h1, .inr h2, h3⟩
  | ref n =>
    obtain ⟨a, vs, h1, h2, h3⟩ := lst_ok R (x := .ref n) (by simpa only [lstOf, seqOf] using e) r
    exact ⟨a, vs, h1, .inl h2, h3⟩
  | fl l =>
    obtain ⟨a, vs, h1, h2, h3⟩ := lst_ok R (x := .fl l) (by simpa only [lstOf, seqOf] using e) r
    exact ⟨a, vs, h1, .inl h2, h3⟩
  | _ => simp [seqOf] at e
theorem Pst.here {A : Type} {a : A} {F : List Addr → Hp → IH → A → Prop} {W : Value → Option Addr → Hp → Prop} (R : HRel G et h H) (x : Pst G et H (.ok a h) F W) : F et H h a := x et H List.prefix_rfl (Ext.refl H) R
/-- a new tuple -/
theorem Pst.newT {l : List D} {vs : List V} {Q : VK} {W : Value → Option Addr → Hp → Prop} (R : HRel G et h H) (r : DenL G et H l vs) (x : Pst G et H (.ok (.tup l) h) (fun et' H' _ d => ∀ v, Den G et' H' d v → Q v H') W) :
    ∀ p, H p = none → Q (.ref p) (upd H p (.tup vs)) := fun p hp =>
  x et (upd H p (.tup vs)) List.prefix_rfl (Ext.new hp) (R.new hp) _ (den_tup.mpr ⟨p, vs, rfl, upd_same, r.mono List.prefix_rfl (Ext.new hp)⟩)
/-- a new list -/
theorem Pst.newL {l : List D} {vs : List V} {Q : VK} {W : Value → Option Addr → Hp → Prop} (R : HRel G et h H) (r : DenL G et H l vs) (x : Pst G et H (.ok (.ref h.length) (h ++ [.lst l])) (fun et' H' _ d => ∀ v, Den G et' H' d v → Q v H') W) :
    ∀ p, H p = none → Q (.ref p) (upd H p (.lst vs)) := fun p hp => by
  refine x (et ++ [p]) (upd H p (.lst vs)) (List.prefix_append _ _) (Ext.new hp) (R.push hp ⟨vs, upd_same, r.mono (List.prefix_append _ _) (Ext.new hp)⟩) _ (den_ref.mpr ⟨p, ?_, rfl⟩)
  rw [← R.len, List.getElem?_append_right (Nat.le_refl _), Nat.sub_self]
  rfl
end

/-- a list that stands in the heap -/
def lsOf (h : IH) : D → Option (List D)
  | .fl l => some l
  | .ref n => match h[n]? with
    | some (.lst xs) => some xs
    | _ => none
  | _ => none
theorem ls_ok {G : Cf} {et : List Addr} {H : Hp} {h : IH} (R : HRel G et h H) {x : D} {xs : List D} {v : V} (e : lsOf h x = some xs) (r : Den G et H x v) : ∃ a vs, v = .ref a ∧ Rd H a (.lst vs) ∧ DenL G et H xs vs := by
  cases x with
  | fl l =>
    simp only [lsOf, Option.some.injEq] at e
    subst e
    obtain ⟨a, vs, h1, h2, h3⟩ := den_fl.mp r
    exact ⟨a, vs, h1, h2.rd, h3⟩
  | ref n =>
    obtain ⟨a, h1, rfl⟩ := den_ref.mp r
    simp only [lsOf] at e
    split at e
    · rename_i ys hy
      cases e
      obtain ⟨vs, h2, h3⟩ := R.cell n _ a hy h1
      exact ⟨a, vs, rfl, .inl h2, h3⟩
    · cases e
  | _ => simp [lsOf] at e
/-! ### arithmetic -/
def dI (C : Int → Int → Bool) (g : Int → Int → Int) : D → D → IH → R D
  | .int i, .int j, h => if C i j then .ok (.int (g i j)) h else .no
  | _, _, _ => .no
theorem opS_I {G : Cf} {C : Int → Int → Bool} {C' : Int → Int → Prop} {g : Int → Int → Int} (hC : ∀ i j, C i j = true → C' i j) : OpS G (rI C' fun i j => .int (g i j)) (dI C g) := by
  intro et H h x y v w W Q rx ry R p
  unfold dI at p
  split at p
  · rename_i i j
    split at p
    · rename_i c
      exact ⟨i, j, den_int.mp rx, den_int.mp ry, hC i j c, p.here R _ (by simp)⟩
    · exact p.elim
  · exact p.elim
def dSub : D → D → IH → R D
  | .int i, .int j, h => .ok (.int (i - j)) h
  | _, _, _ => .no
def cMul (i j : Int) : Bool := (decide (-(2 ^ 64) < i) && decide (i < 2 ^ 64)) || (decide (-(2 ^ 64) < j) && decide (j < 2 ^ 64))
def cDiv (_ j : Int) : Bool := decide (0 < j) && decide (j < 2 ^ 64)
def cMod (_ j : Int) : Bool := decide (0 < j)
def cPow (i j : Int) : Bool := decide (0 ≤ j) && decide (j ≤ 1000000) && decide (i.natAbs < 2 ^ 64)
def dMul : D → D → IH → R D
  | .int i, .int j, h => if cMul i j then .ok (.int (i * j)) h else .no
  | .str a, .int k, h => if 0 ≤ k ∧ k ≤ 1000 ∧ a.length ≤ 10000 then .ok (.str (List.replicate k.toNat a).flatten) h else .no
  | .tup l, .int k, h => if 0 < l.length ∧ 2 ≤ k ∧ k ≤ 1000 ∧ l.length ≤ 1000 then .ok (.tup (List.replicate k.toNat l).flatten) h else if k = 1 then .ok (.tup l) h else .no
  | .ref n, .int k, h => match h[n]? with
    | some (.lst xs) => if k ≤ 10000000 ∧ -10000000 ≤ k ∧ xs.length * k.toNat ≤ 10000000 then .ok (.ref h.length) (h ++ [.lst (List.replicate k.toNat xs).flatten]) else .no
    | _ => .no
  | _, _, _ => .no
abbrev dDiv := dI cDiv fun i j => i / j
abbrev dMod := dI cMod fun i j => i % j
abbrev dPow := dI cPow fun i j => i ^ j.toNat
def dAdd : D → D → IH → R D
  | .int i, .int j, h => .ok (.int (i + j)) h
  | .str a, .str b, h => if a.length + b.length ≤ 10000000 then .ok (.str (a ++ b)) h else .no
  | .tup a, .tup b, h => if a.length + b.length ≤ 10000000 then .ok (.tup (a ++ b)) h else .no
  | x, y, h => match lsOf h x, lsOf h y with
    | some xs, some ys => if xs.length + ys.length ≤ 10000000 then .ok (.ref h.length) (h ++ [.lst (xs ++ ys)]) else .no
    | _, _ => .no
section
variable {X : Cx} {G : Cf} {W : WX} {a b e : Expr} {ma mb mc : ME} {pos : Pos}
theorem me_sub (ha : PE X a (tE G W ma)) (hb : PE X b (tE G W mb)) : PE X (.BinOp a .Sub b pos) (tE G W (mOp dSub ma mb)) := by
  refine me_op op_sub ?_ ha hb
  intro et H h x y v w W Q rx ry R p
  unfold dSub at p
  split at p
  · exact ⟨_, _, den_int.mp rx, den_int.mp ry, p.here R _ (by simp)⟩
  · exact p.elim
theorem me_mod (ha : PE X a (tE G W ma)) (hb : PE X b (tE G W mb)) : PE X (.BinOp a .Mod b pos) (tE G W (mOp dMod ma mb)) :=
  me_op op_mod (opS_I fun i j c => by simpa [cMod] using c) ha hb
theorem me_div (ha : PE X a (tE G W ma)) (hb : PE X b (tE G W mb)) : PE X (.BinOp a .FloorDiv b pos) (tE G W (mOp dDiv ma mb)) :=
  me_op op_fdivW (opS_I fun i j c => by
    have c' : 0 < j ∧ j < 2 ^ 64 := by simpa [cDiv] using c
    exact wide_div c'.1 (b := 64) (by omega) (by decide) (by decide)) ha hb
theorem me_pow (ha : PE X a (tE G W ma)) (hb : PE X b (tE G W mb)) : PE X (.BinOp a .Pow b pos) (tE G W (mOp dPow ma mb)) :=
  me_op op_pow (opS_I fun i j c => by
    have c' : (0 ≤ j ∧ j ≤ 1000000) ∧ i.natAbs < 2 ^ 64 := by simpa [cPow] using c
    exact ⟨c'.1.1, c'.1.2, c'.2⟩) ha hb
theorem den_list {et : List Addr} {H : Hp} {h : IH} (R : HRel G et h H) {n : Nat} {xs : List D} {v : V} (e : h[n]? = some (.lst xs)) (r : Den G et H (.ref n) v) : ∃ a vs, et[n]? = some a ∧ v = .ref a ∧ H a = some (.lst vs) ∧ DenL G et H xs vs := by
  obtain ⟨a, h1, rfl⟩ := den_ref.mp r
  obtain ⟨vs, h2, h3⟩ := R.cell n _ a e h1
  exact ⟨a, vs, h1, rfl, h2, h3⟩
theorem DenL.flat {et : List Addr} {H : Hp} {xs : List D} {vs : List V} (r : DenL G et H xs vs) : ∀ k : Nat, DenL G et H (List.replicate k xs).flatten (List.replicate k vs).flatten
  | 0 => by simp
  | k + 1 => by
    rw [List.replicate_succ, List.replicate_succ, List.flatten_cons, List.flatten_cons]
    exact r.app (r.flat k)
end

section
variable {X : Cx}
theorem Inv.lstR {pins : List (Addr × Obj)} {σ : L2.St} {H : Hp} {s : Shared} {a : Addr} {xs : List V} (I : Inv X pins σ H s) (r : Rd H a (.lst xs)) : xs.length ≤ sizeLine ∧ ∃ (its : List Value) (n : Nat), Vals xs its ∧ s.heap.get? a = some { cls := .type "list", data := .seq its.toArray n } := by
  rcases r with r | ⟨o, r⟩
  · exact I.hok a _ r
  · exact (I.hok a _ r).2
def rCatR : R2 := fun x y H Q => ∃ l b xs zs, x = .ref l ∧ y = .ref b ∧ Rd H l (.lst xs) ∧ Rd H b (.lst zs) ∧ xs.length + zs.length ≤ sizeLine ∧ ∀ p, H p = none → Q (.ref p) (upd H p (.lst (xs ++ zs)))
theorem op_catR : OpR X (binaryOp .Add) rCatR := by
  intro pins s σ H x y v u Q I rx ry h
  obtain ⟨l, b, xs, zs, rfl, rfl, hH, hB, hz, q⟩ := h
  cases rx
  cases ry
  obtain ⟨z, its, n, r, e⟩ := Inv.lstR I hH
  obtain ⟨z2, its2, n2, r2, e2⟩ := Inv.lstR I hB
  refine PySem.P.add_list e e2 ?_ (by rw [List.size_toArray, List.size_toArray, ← r.length, ← r2.length]; omega)
  have ea : its.toArray ++ its2.toArray = (its ++ its2).toArray := by simp
  rw [ea]
  exact ⟨.ref _, _, I.lnew (t' := s.toks) (r.append r2) (by rw [List.length_append]; omega), rfl, q _ I.fresh⟩
end
section
variable {X : Cx} {G : Cf} {W : WX} {a b e : Expr} {ma mb mc : ME} {pos : Pos}
theorem foldl_arr (a : List Nat) : ∀ (n : Nat) (z : Array Nat), (List.replicate n a.toArray).foldl (· ++ ·) z = z ++ (List.replicate n a).flatten.toArray
  | 0, z => by simp
  | n + 1, z => by
    rw [List.replicate_succ, List.foldl_cons, foldl_arr a n, List.replicate_succ, List.flatten_cons, Array.append_assoc]
    simp
def rRepS : R2 := fun x y H Q => ∃ a k, x = .str (strV a) ∧ y = .int k ∧ 0 ≤ k ∧ k ≤ 1000 ∧ a.length ≤ 10000 ∧ Q (.str (strV (List.replicate k.toNat a).flatten)) H
theorem op_repS : OpR X (binaryOp .Mult) rRepS := by
  intro pins s σ H x y v u Q I rx ry h
  obtain ⟨w, k, rfl, rfl, h0, h1, hl, q⟩ := h
  obtain ⟨t, rfl⟩ := rx
  obtain ⟨t', rfl⟩ := ry
  have ln : (strV w).length = w.length := by show w.toArray.size = _; simp
  have mm : w.length * k.toNat ≤ 10000 * 1000 := Nat.mul_le_mul hl (by omega)
  have nl : PySem.Builtin.Str.tooLong ((strV w).length * k.toNat) = false := by
    rw [ln]; unfold PySem.Builtin.Str.tooLong; rw [sizeLine_eq]; simp; omega
  refine PySem.P.mul_str (by
    have a1 : ¬ k < -(2 ^ 63 : Int) := by omega
    have a2 : ¬ k ≥ 2 ^ 63 := by omega
    rw [decide_eq_false a1, decide_eq_false a2]; rfl) (fun hk _ => ?_) (fun _ _ => nl) ?_
  · rw [ln]
    have hk' : 0 < k := by omega
    have := (Int.le_ediv_iff_mul_le (a := (w.length : Int)) (b := 2 ^ 63 - 1) hk').mpr (by
      have e : (w.length : Int) * k = ((w.length * k.toNat : Nat) : Int) := by rw [Int.natCast_mul, Int.toNat_of_nonneg h0]
      rw [e]; omega)
    omega
  · by_cases c1 : k < 1
    · rw [if_pos c1]
      have : k = 0 := by omega
      subst this
      exact ⟨by decide, ⟨.str _, H, I.tok _, ⟨_, rfl⟩, q⟩⟩
    · rw [if_neg c1]
      by_cases c2 : (k == 1 || (strV w).length == 0) = true
      · rw [if_pos c2]
        have e : (List.replicate k.toNat w).flatten = w := by
          rw [Bool.or_eq_true, beq_iff_eq, beq_iff_eq, ln] at c2
          rcases c2 with c2 | c2
          · subst c2; simp
          · have := List.eq_nil_of_length_eq_zero c2
            subst this; simp
        rw [e] at q
        exact ⟨.str _, H, I.tok _, ⟨_, rfl⟩, q⟩
      · rw [if_neg c2]
        have e : (⟨(List.replicate k.toNat (strV w).cps).foldl (· ++ ·) #[]⟩ : Str) = strV (List.replicate k.toNat w).flatten := by
          show (⟨(List.replicate k.toNat w.toArray).foldl (· ++ ·) #[]⟩ : Str) = ⟨_⟩
          rw [foldl_arr]; simp
        rw [e]
        exact ⟨by
          show (List.replicate k.toNat w).flatten.toArray.size ≤ _
          rw [sizeLine_eq]; simp [List.length_flatten]; rw [Nat.mul_comm]; omega, ⟨.str _, H, I.tok _, ⟨_, rfl⟩, q⟩⟩
theorem tuple_mul1 (l : Addr) (items : Array Value) (n : Nat) (dd : Option Addr) (sl : Array (Option Value)) (u : Tok) :
    Meets (Builtin.«tuple.__mul__» ⟨[.ref l, .int 1 u], []⟩) (fun _ R s => s.heap.get? l = some { cls := .type "tuple", dict := dd, data := .seq items n, slots := sl } ∧ R (.ok (.ret (Value.ref l))) s) :=
  .of_wp fun prog w A R s h => by
    obtain ⟨hp, g, d, tk, os⟩ := s
    obtain ⟨hl, h⟩ := h
    have f1 := AutoSeq1.idx_int
    wp_walk using wpAny_loadPart' hl
    exact ⟨_, rfl, h⟩
def rRepT1 (K : PySem.W.Frag) : R2 := fun x y H Q => ∃ l xs, x = .ref l ∧ y = .int 1 ∧ SqT K H l xs ∧ Q (.ref l) H
theorem op_repT1 : OpR X (binaryOp .Mult) (rRepT1 X.K) := by
  intro pins s σ H x y v u Q I rx ry h
  obtain ⟨l, xs, rfl, rfl, hT, q⟩ := h
  cases rx
  obtain ⟨t, rfl⟩ := ry
  obtain ⟨its, r, ⟨⟨cls, dd, data, sl⟩, ho, hc, n, hd⟩, hs⟩ := I.tuple hT
  simp only at hc hd
  subst hc hd
  refine wpAny_binaryOp_repeat_ref (T := "tuple") (U := "int") (by decide) ⟨_, ho, rfl⟩ (fun s' => typeIs_int s' 1 t) noFill_tuple_mul F.fills_int_mul F.slot_int_rmul repeat_tuple F.slot_int_index.lookup
    (call_meets F.slot_int_rmul (typeIs_int s 1 t) F.entry_int_rmul (F.args_int_rmul_2 _ _) (int_rmul_tuple 1 t l its.toArray n dd sl)
      ⟨ho, rfl, ⟨_, ho, rfl⟩, call_meets F.slot_tuple_mul ⟨_, ho, rfl⟩ F.entry_tuple_mul (F.args_tuple_mul_2 _ _) (tuple_mul1 l its.toArray n dd sl t) ⟨ho, ?_⟩⟩)
  exact ⟨.ref l, H, I, rfl, q⟩
def rMulAll (K : PySem.W.Frag) : R2 := fun x y H Q => rI CMul (fun i j => .int (i * j)) x y H Q ∨ rRep x y H Q ∨ rRepT K x y H Q ∨ rRepS x y H Q ∨ rRepT1 K x y H Q
theorem op_mulAll : OpR X (binaryOp .Mult) (rMulAll X.K) := OpR.or op_mul (OpR.or op_rep (OpR.or op_repT (OpR.or op_repS op_repT1)))
theorem me_mul (hK : X.K = G.K) (ha : PE X a (tE G W ma)) (hb : PE X b (tE G W mb)) : PE X (.BinOp a .Mult b pos) (tE G W (mOp dMul ma mb)) := by
  refine me_op op_mulAll ?_ ha hb
  intro et H h x y v w W Q rx ry R p
  rw [hK]
  unfold dMul at p
  split at p
  · split at p
    · rename_i i j c
      refine .inl ⟨i, j, den_int.mp rx, den_int.mp ry, ?_, p.here R _ (by simp)⟩
      simpa [cMul, CMul] using c
    · exact p.elim
  · split at p
    · rename_i a k c
      exact .inr (.inr (.inr (.inl ⟨a, k, den_str.mp rx, den_int.mp ry, c.1, c.2.1, c.2.2, p.here R _ (by simp)⟩)))
    · exact p.elim
  · split at p
    · rename_i l k c
      obtain ⟨a, vs, rfl, h2, h3⟩ := den_tup.mp rx
      refine .inr (.inr (.inl ⟨a, k, vs, rfl, den_int.mp ry, h2, ?_, c.2.1, c.2.2.1, by rw [h3.len]; exact c.2.2.2, p.newT R (h3.flat _)⟩))
      rintro rfl
      have := h3.len
      simp at this
      omega
    · split at p
      · rename_i e1
        subst e1
        obtain ⟨a, vs, rfl, h2, h3⟩ := den_tup.mp rx
        exact .inr (.inr (.inr (.inr ⟨a, vs, rfl, den_int.mp ry, h2, p.here R _ rx⟩)))
      · exact p.elim
  · split at p
    · split at p
      · rename_i n k hh xs hx c
        obtain ⟨a, vs, h1, rfl, h2, h3⟩ := den_list R hx rx
        refine .inr (.inl ⟨a, k, vs, rfl, den_int.mp ry, h2, by omega, by omega, sz (by rw [h3.len]; exact c.2.2), ?_⟩)
        exact p.newL R (h3.flat _)
      · exact p.elim
    · exact p.elim
  · exact p.elim
def rAddAll (K : PySem.W.Frag) : R2 := fun x y H Q => rI0 (fun i j => .int (i + j)) x y H Q ∨ (∃ i j, x = .str i ∧ y = .str j ∧ i.length + j.length ≤ sizeLine ∧ Q (.str (i ++ j)) H) ∨ rCatA K x y H Q ∨ rCatR x y H Q
theorem op_addAll : OpR X (binaryOp .Add) (rAddAll X.K) := OpR.or op_add (OpR.or op_add_str (OpR.or op_catA op_catR))
theorem strV_app (a b : List Nat) : strV a ++ strV b = strV (a ++ b) := by
  show (⟨a.toArray ++ b.toArray⟩ : Str) = ⟨(a ++ b).toArray⟩
  simp
theorem dAdd_ok (hK : X.K = G.K) : OpS G (rAddAll X.K) dAdd := by
  intro et H h x y v w W Q rx ry R p
  rw [hK]
  unfold dAdd at p
  split at p
  · exact .inl ⟨_, _, den_int.mp rx, den_int.mp ry, p.here R _ (by simp)⟩
  · split at p
    · rename_i c
      refine .inr (.inl ⟨_, _, den_str.mp rx, den_str.mp ry, ?_, ?_⟩)
      · rw [strV_length, strV_length]; exact sz c
      · exact p.here R _ (by simp [strV_app])
    · exact p.elim
  · split at p
    · rename_i l m c
      obtain ⟨a, vs, rfl, h2, h3⟩ := den_tup.mp rx
      obtain ⟨b, ws, rfl, k2, k3⟩ := den_tup.mp ry
      refine .inr (.inr (.inl ⟨a, b, vs, ws, rfl, rfl, h2, k2, sz (by rw [h3.len, k3.len]; exact c), fun e => ?_, fun e1 e => ?_, fun _ _ => p.newT R (h3.app k3)⟩))
      · have hl : l = [] := by
          have := h3.len
          rw [e] at this
          exact List.eq_nil_of_length_eq_zero this.symm
        subst hl
        exact p.here R _ (den_tup.mpr ⟨b, ws, rfl, k2, k3⟩)
      · have hl : m = [] := by
          have := k3.len
          rw [e] at this
          exact List.eq_nil_of_length_eq_zero this.symm
        subst hl
        exact p.here R _ (den_tup.mpr ⟨a, vs, rfl, h2, by simpa using h3⟩)
    · exact p.elim
  · split at p
    · split at p
      · rename_i xs ys hx hy c
        obtain ⟨a, vs, rfl, h2, h3⟩ := ls_ok R hx rx
        obtain ⟨b, ws, rfl, k2, k3⟩ := ls_ok R hy ry
        exact .inr (.inr (.inr ⟨a, b, vs, ws, rfl, rfl, h2, k2, sz (by rw [h3.len, k3.len]; exact c), p.newL R (h3.app k3)⟩))
      · exact p.elim
    · exact p.elim
theorem me_add (hK : X.K = G.K) (ha : PE X a (tE G W ma)) (hb : PE X b (tE G W mb)) : PE X (.BinOp a .Add b pos) (tE G W (mOp dAdd ma mb)) := me_op op_addAll (dAdd_ok hK) ha hb
/-- order of ints -/
def dC (g : Int → Int → Bool) : D → D → IH → R D
  | .int i, .int j, h => .ok (.bl (g i j)) h
  | _, _, _ => .no
theorem opS_C {g : Int → Int → Bool} : OpS G (rI0 fun i j => .bl (g i j)) (dC g) := by
  intro et H h x y v w W Q rx ry R p
  unfold dC at p
  split at p
  · exact ⟨_, _, den_int.mp rx, den_int.mp ry, p.here R _ (by simp)⟩
  · exact p.elim
abbrev dLt := dC fun i j => decide (i < j)
abbrev dLe := dC fun i j => decide (i ≤ j)
abbrev dGt := dC fun i j => decide (j < i)
abbrev dGe := dC fun i j => decide (j ≤ i)
/-! ### as data -/
def D.py (h : IH) : Nat → D → Option PyData
  | 0, _ => none
  | k + 1, d => match d with
    | .non => some .none
    | .bl b => some (.bool b)
    | .int i => some (.int i)
    | .str s => some (.str (strV s))
    | .tup l => (allM (D.py h k) l).map .tuple
    | .fl l => (allM (D.py h k) l).map .list
    | .ref n => match h[n]? with
      | some (.lst xs) => (allM (D.py h k) xs).map .list
      | some (.frz xs) => (allM (D.py h k) xs).map .list
      | _ => none
    | _ => none
end
theorem allM_cons {A : Type} {f : D → Option A} {d : D} {ds : List D} {r : List A} (e : allM f (d :: ds) = some r) : ∃ a as, f d = some a ∧ allM f ds = some as ∧ r = a :: as := by
  unfold allM at e
  split at e
  · rename_i a as h1 h2
    cases e
    exact ⟨a, as, h1, h2, rfl⟩
  · cases e
section
variable {G : Cf} {et : List Addr} {H : Hp} {h : IH}
theorem depthAll_le {n : Nat} : ∀ {ps : List PyData}, (∀ p ∈ ps, p.depth ≤ n) → PyData.depthAll ps ≤ n
  | [], _ => by simp [PyData.depthAll]
  | p :: ps, hp => by
    have h1 := hp p (List.mem_cons_self)
    have h2 := depthAll_le (ps := ps) fun q hq => hp q (List.mem_cons_of_mem _ hq)
    simp only [PyData.depthAll]
    omega
theorem py_all (R : HRel G et h H) {k : Nat} (ih : ∀ (d : D) (v : V) (p : PyData), D.py h k d = some p → Den G et H d v → Dp G.K H v p ∧ p.plain = true ∧ p.depth ≤ k) :
    ∀ (ds : List D) (vs : List V) (ps : List PyData), allM (D.py h k) ds = some ps → DenL G et H ds vs → DpAll G.K H vs ps ∧ PyData.plainAll ps = true ∧ ∀ p ∈ ps, p.depth ≤ k
  | [], vs, ps, e, r => by
    simp only [allM, Option.some.injEq] at e
    rw [denL_nil] at r
    subst e r
    exact ⟨.nil, by simp [PyData.plainAll], by simp⟩
  | d :: ds, vs, ps, e, r => by
    obtain ⟨p, ps', e1, e2, rfl⟩ := allM_cons e
    obtain ⟨v, ws, rfl, r1, r2⟩ := denL_cons.mp r
    obtain ⟨a1, a2, a3⟩ := ih d v p e1 r1
    obtain ⟨b1, b2, b3⟩ := py_all R ih ds ws ps' e2 r2
    exact ⟨.cons a1 b1, by simp [PyData.plainAll, a2, b2], by simpa using ⟨a3, b3⟩⟩
theorem py_ok (R : HRel G et h H) : ∀ (k : Nat) (d : D) (v : V) (p : PyData), D.py h k d = some p → Den G et H d v → Dp G.K H v p ∧ p.plain = true ∧ p.depth ≤ k
  | 0, _, _, _, e, _ => by simp [D.py] at e
  | k + 1, d, v, p, e, r => by
    have ih := py_all R (py_ok R k)
    cases d with
    | non => simp only [D.py, Option.some.injEq] at e; subst e; rw [den_non.mp r]; exact ⟨.non, by simp [PyData.plain], by simp [PyData.depth]⟩
    | bl b => simp only [D.py, Option.some.injEq] at e; subst e; rw [den_bl.mp r]; exact ⟨.bl b, by simp [PyData.plain], by simp [PyData.depth]⟩
    | int i => simp only [D.py, Option.some.injEq] at e; subst e; rw [den_int.mp r]; exact ⟨.int i, by simp [PyData.plain], by simp [PyData.depth]⟩
    | str s => simp only [D.py, Option.some.injEq] at e; subst e; rw [den_str.mp r]; exact ⟨.str _, by simp [PyData.plain], by simp [PyData.depth]⟩
    | tup l =>
      simp only [D.py, Option.map_eq_some_iff] at e
      obtain ⟨ps, e1, rfl⟩ := e
      obtain ⟨a, vs, rfl, r1, r2⟩ := den_tup.mp r
      obtain ⟨b1, b2, b3⟩ := ih l vs ps e1 r2
      exact ⟨.tup r1 b1, by simp [PyData.plain, b2], by simp only [PyData.depth]; have := depthAll_le b3; omega⟩
    | ref n =>
      obtain ⟨a, r1, rfl⟩ := den_ref.mp r
      simp only [D.py] at e
      split at e
      · rename_i xs hx
        simp only [Option.map_eq_some_iff] at e
        obtain ⟨ps, e1, rfl⟩ := e
        obtain ⟨vs, c1, c2⟩ := R.cell n _ a hx r1
        obtain ⟨b1, b2, b3⟩ := ih xs vs ps e1 c2
        exact ⟨.lst (SqL.of c1) b1, by simp [PyData.plain, b2], by simp only [PyData.depth]; have := depthAll_le b3; omega⟩
      · rename_i xs hx
        simp only [Option.map_eq_some_iff] at e
        obtain ⟨ps, e1, rfl⟩ := e
        obtain ⟨vs, c1, c2⟩ := R.cell n _ a hx r1
        obtain ⟨b1, b2, b3⟩ := ih xs vs ps e1 c2
        exact ⟨.lst c1.sq b1, by simp [PyData.plain, b2], by simp only [PyData.depth]; have := depthAll_le b3; omega⟩
      · cases e
    | fl l =>
      simp only [D.py, Option.map_eq_some_iff] at e
      obtain ⟨ps, e1, rfl⟩ := e
      obtain ⟨a, vs, rfl, r1, r2⟩ := den_fl.mp r
      obtain ⟨b1, b2, b3⟩ := ih l vs ps e1 r2
      exact ⟨.lst r1.sq b1, by simp [PyData.plain, b2], by simp only [PyData.depth]; have := depthAll_le b3; omega⟩
    | fd ks l => simp [D.py] at e
    | exc a => simp [D.py] at e
end
def rEqP (K : PySem.W.Frag) : R2 := fun x y H Q => ∃ d e, Dp K H x d ∧ Dp K H y e ∧ d.plain = true ∧ e.plain = true ∧ d.depth ≤ 50 ∧ Q (.bl (PyData.eqv d e)) H
def rNeP (K : PySem.W.Frag) : R2 := fun x y H Q => ∃ d e, Dp K H x d ∧ Dp K H y e ∧ d.plain = true ∧ e.plain = true ∧ d.depth ≤ 50 ∧ Q (.bl (!PyData.eqv d e)) H
section
variable {X : Cx}
theorem op_eqP (hu : X.A.units + 64 < cLine) : OpR X (compareOp .Eq) (rEqP X.K) := by
  intro pins s σ H x y v u Q I rx ry h
  obtain ⟨d, e, hd, he, pd, pe, dd, q⟩ := h
  obtain ⟨as, r1⟩ := Dp.reads I d x v hd rx
  obtain ⟨bs, r2⟩ := Dp.reads I e y u he ry
  exact SeqAt.eq_plain r1 r2 pd pe (by omega) ⟨.bl _, H, I, rfl, q⟩
theorem op_neP (hu : X.A.units + 64 < cLine) : OpR X (compareOp .NotEq) (rNeP X.K) := by
  intro pins s σ H x y v u Q I rx ry h
  obtain ⟨d, e, hd, he, pd, pe, dd, q⟩ := h
  obtain ⟨as, r1⟩ := Dp.reads I d x v hd rx
  obtain ⟨bs, r2⟩ := Dp.reads I e y u he ry
  exact SeqAt.ne_plain r1 r2 pd pe (by omega) ⟨.bl _, H, I, rfl, q⟩
def rInP (K : PySem.W.Frag) (neg : Bool) : R2 := fun x y H Q => ∃ d es, Dp K H x d ∧ (Dp K H y (.list es) ∨ Dp K H y (.tuple es)) ∧ d.plain = true ∧ PyData.plainAll es = true ∧ d.depth ≤ 50 ∧
  Q (.bl (if neg then !(es.any fun z => PyData.eqv z d) else es.any fun z => PyData.eqv z d)) H
theorem op_inP (hu : X.A.units + 64 < cLine) : OpR X (compareOp .In) (rInP X.K false) := by
  intro pins s σ H x y v u Q I rx ry h
  obtain ⟨d, es, hd, he, pd, pe, dd, q⟩ := h
  obtain ⟨as, r1⟩ := Dp.reads I d x v hd rx
  rcases he with he | he
  · obtain ⟨bs, r2⟩ := Dp.reads I _ y u he ry
    exact SeqAt.in_list_data r2 r1 pe pd (by omega) ⟨.bl _, H, I, rfl, by simpa using q⟩
  · obtain ⟨bs, r2⟩ := Dp.reads I _ y u he ry
    exact SeqAt.in_tuple_data r2 r1 pe pd (by omega) ⟨.bl _, H, I, rfl, by simpa using q⟩
theorem op_notInP (hu : X.A.units + 64 < cLine) : OpR X (compareOp .NotIn) (rInP X.K true) := by
  intro pins s σ H x y v u Q I rx ry h
  obtain ⟨d, es, hd, he, pd, pe, dd, q⟩ := h
  obtain ⟨as, r1⟩ := Dp.reads I d x v hd rx
  rcases he with he | he
  · obtain ⟨bs, r2⟩ := Dp.reads I _ y u he ry
    exact SeqAt.notIn_list_data r2 r1 pe pd (by omega) ⟨.bl _, H, I, rfl, by simpa using q⟩
  · obtain ⟨bs, r2⟩ := Dp.reads I _ y u he ry
    exact SeqAt.notIn_tuple_data r2 r1 pe pd (by omega) ⟨.bl _, H, I, rfl, by simpa using q⟩
end
def dEq (neg : Bool) : D → D → IH → R D := fun x y h => match D.py h 50 x, D.py h 50 y with
  | some a, some b => .ok (.bl (if neg then !PyData.eqv a b else PyData.eqv a b)) h
  | _, _ => .no
/-- x in y: a sign in a text, a datum in a list or a tuple -/
def dIn (neg : Bool) : D → D → IH → R D := fun x y h => match x, y with
  | .str [c], .str z => .ok (.bl (if neg then !decide (c ∈ z) else decide (c ∈ z))) h
  | x, y => match D.py h 50 x, (seqOf h y).bind (allM (D.py h 49)) with
    | some a, some bs => .ok (.bl (if neg then !(bs.any fun z => PyData.eqv z a) else bs.any fun z => PyData.eqv z a)) h
    | _, _ => .no
def dIsN (neg : Bool) : D → D → IH → R D := fun x y h => match y with
  | .non => match x with
    | .non => .ok (.bl (!neg)) h
    | _ => .ok (.bl neg) h
  | .bl b => match x with
    | .bl a => .ok (.bl (if neg then !decide (a = b) else decide (a = b))) h
    | _ => .no
  | _ => .no
section
variable {X : Cx} {G : Cf} {W : WX} {a b c e : Expr} {ma mb mc : ME} {pos : Pos}
theorem dEq_ok (hK : X.K = G.K) : OpS G (rEqP X.K) (dEq false) := by
  intro et H h x y v w W Q rx ry R p
  unfold dEq at p
  split at p
  · rename_i d1 d2 e1 e2
    obtain ⟨a1, a2, a3⟩ := py_ok R 50 x v d1 e1 rx
    obtain ⟨b1, b2, b3⟩ := py_ok R 50 y w d2 e2 ry
    rw [hK]
    exact ⟨d1, d2, a1, b1, a2, b2, a3, p.here R _ (by simp)⟩
  · exact p.elim
theorem dNe_ok (hK : X.K = G.K) : OpS G (rNeP X.K) (dEq true) := by
  intro et H h x y v w W Q rx ry R p
  unfold dEq at p
  split at p
  · rename_i d1 d2 e1 e2
    obtain ⟨a1, a2, a3⟩ := py_ok R 50 x v d1 e1 rx
    obtain ⟨b1, b2, b3⟩ := py_ok R 50 y w d2 e2 ry
    rw [hK]
    exact ⟨d1, d2, a1, b1, a2, b2, a3, p.here R _ (by simp)⟩
  · exact p.elim
def rInA (K : PySem.W.Frag) (neg : Bool) : R2 := fun x y H Q => (∃ (c : Nat) (z : Str), x = .str ⟨#[c]⟩ ∧ y = .str z ∧ Q (.bl (if neg then !decide (c ∈ z.cps.toList) else decide (c ∈ z.cps.toList))) H) ∨ rInP K neg x y H Q
theorem op_inA (hu : X.A.units + 64 < cLine) : OpR X (compareOp .In) (rInA X.K false) := by
  intro pins s σ H x y v u Q I rx ry h
  rcases h with ⟨c, z, h1, h2, q⟩ | h
  · exact op_in_sign pins s σ H x y v u Q I rx ry ⟨c, z, h1, h2, by simpa using q⟩
  · exact op_inP hu pins s σ H x y v u Q I rx ry h
theorem op_notInA (hu : X.A.units + 64 < cLine) : OpR X (compareOp .NotIn) (rInA X.K true) := by
  intro pins s σ H x y v u Q I rx ry h
  rcases h with ⟨c, z, h1, h2, q⟩ | h
  · exact op_notIn_sign pins s σ H x y v u Q I rx ry ⟨c, z, h1, h2, by simpa using q⟩
  · exact op_notInP hu pins s σ H x y v u Q I rx ry h
theorem dIn_ok (hK : X.K = G.K) (neg : Bool) : OpS G (rInA X.K neg) (dIn neg) := by
  intro et H h x y v w W Q rx ry R p
  unfold dIn at p
  split at p
  · rename_i c z
    refine .inl ⟨c, strV z, den_str.mp rx, den_str.mp ry, ?_⟩
    have h1 : decide (c ∈ (strV z).cps.toList) = decide (c ∈ z) := decide_eq_decide.mpr (by simp [strV])
    rw [h1]
    exact p.here R _ (by simp)
  · split at p
    · rename_i d es e1 e2
      obtain ⟨a1, a2, a3⟩ := py_ok R 50 x v d e1 rx
      simp only [Option.bind_eq_some_iff] at e2
      obtain ⟨ds, e3, e4⟩ := e2
      obtain ⟨q, vs, rfl, s1, s2⟩ := seq_ok R e3 ry
      obtain ⟨b1, b2, b3⟩ := py_all R (py_ok R 49) ds vs es e4 s2
      rw [hK]
      refine .inr ⟨d, es, a1, ?_, a2, b2, a3, p.here R _ (by simp)⟩
      rcases s1 with s1 | s1
      · exact .inl (.lst s1 b1)
      · exact .inr (.tup s1 b1)
    · exact p.elim
theorem op_isA : OpR X (compareOp .Is) (fun x y H Q => (y = .non ∧ Q (.bl (decide (x = .non))) H) ∨ rIsB x y H Q) := OpR.or op_isN op_isBl
theorem op_isnotA : OpR X (compareOp .IsNot) (fun x y H Q => (y = .non ∧ Q (.bl (!decide (x = .non))) H) ∨ rNotB x y H Q) := OpR.or op_notN op_notBl
theorem den_nn {et : List Addr} {H : Hp} {x : D} {v : V} (n : x ≠ .non) (r : Den G et H x v) : v ≠ .non := by
  cases x with
  | non => exact absurd rfl n
  | bl b => rw [den_bl.mp r]; exact fun z => nomatch z
  | int b => rw [den_int.mp r]; exact fun z => nomatch z
  | str b => rw [den_str.mp r]; exact fun z => nomatch z
  | tup l => obtain ⟨a, vs, e, _⟩ := den_tup.mp r; rw [e]; exact fun z => nomatch z
  | ref n => obtain ⟨a, _, e⟩ := den_ref.mp r; rw [e]; exact fun z => nomatch z
  | exc a => rw [show v = .ref a by simpa [Den] using r]; exact fun z => nomatch z
  | fl l => obtain ⟨a, vs, e, _⟩ := den_fl.mp r; rw [e]; exact fun z => nomatch z
  | fd ks l => obtain ⟨a, vs, e, _⟩ := den_fd.mp r; rw [e]; exact fun z => nomatch z
theorem dIs_ok : OpS G (fun x y H Q => (y = .non ∧ Q (.bl (decide (x = .non))) H) ∨ rIsB x y H Q) (dIsN false) := by
  intro et H h x y v w W Q rx ry R p
  unfold dIsN at p
  split at p
  · split at p
    · refine .inl ⟨den_non.mp ry, ?_⟩
      exact p.here R _ (by simp [den_non.mp rx])
    · rename_i hn
      refine .inl ⟨den_non.mp ry, ?_⟩
      exact p.here R _ (by simpa using den_nn hn rx)
  · split at p
    · exact .inr ⟨_, _, den_bl.mp rx, den_bl.mp ry, p.here R _ (by simp)⟩
    · exact p.elim
  · exact p.elim
theorem dIsnot_ok : OpS G (fun x y H Q => (y = .non ∧ Q (.bl (!decide (x = .non))) H) ∨ rNotB x y H Q) (dIsN true) := by
  intro et H h x y v w W Q rx ry R p
  unfold dIsN at p
  split at p
  · split at p
    · refine .inl ⟨den_non.mp ry, ?_⟩
      exact p.here R _ (by simp [den_non.mp rx])
    · rename_i hn
      refine .inl ⟨den_non.mp ry, ?_⟩
      exact p.here R _ (by simpa using den_nn hn rx)
  · split at p
    · exact .inr ⟨_, _, den_bl.mp rx, den_bl.mp ry, p.here R _ (by simp)⟩
    · exact p.elim
  · exact p.elim
end
end NR

set_option Elab.async false
set_option linter.all false
set_option maxRecDepth 100000
/-! Tests, calls, statements. -/
namespace NR
open PySem PySem.Spec PyProof.Rows L2

/-! ### truth, tests -/
def truD (h : IH) : D → Option Bool
  | .non => some false
  | .bl b => some b
  | .int i => some (i != 0)
  | .str s => if s.length ≤ 10000000 then some ((s.length : Int) != 0) else none
  | .tup l => some (!l.isEmpty)
  | .fl l => some (!l.isEmpty)
  | .ref n => match h[n]? with
    | some (.lst xs) => some (!xs.isEmpty)
    | some (.frz xs) => some (!xs.isEmpty)
    | some (.dk kvs) => some (!kvs.isEmpty)
    | _ => none
  | _ => none
theorem empty_iff {G : Cf} {et : List Addr} {H : Hp} {xs : List D} {vs : List V} (r : DenL G et H xs vs) : xs.isEmpty = vs.isEmpty := by
  have := r.len
  cases xs <;> cases vs <;> simp at this ⊢
theorem tru_okD {G : Cf} {et : List Addr} {H : Hp} {h : IH} (R : HRel G et h H) {d : D} {v : V} {b : Bool} (e : truD h d = some b) (r : Den G et H d v) : TruV G.K v H b := by
  cases d with
  | non => rw [den_non.mp r]; simp only [truD, Option.some.injEq] at e; exact e.symm
  | bl c => rw [den_bl.mp r]; simp only [truD, Option.some.injEq] at e; exact e.symm
  | int c => rw [den_int.mp r]; simp only [truD, Option.some.injEq] at e; exact e.symm
  | str s =>
    rw [den_str.mp r]
    simp only [truD] at e
    split at e
    · rename_i c
      cases e
      exact ⟨by rw [strV_length]; exact sz c, by rw [strV_length]⟩
    · cases e
  | tup l =>
    obtain ⟨a, vs, rfl, h1, h2⟩ := den_tup.mp r
    simp only [truD, Option.some.injEq] at e
    exact .inr (.inl ⟨vs, h1, by rw [← e, empty_iff h2]⟩)
  | ref n =>
    obtain ⟨a, h1, rfl⟩ := den_ref.mp r
    simp only [truD] at e
    split at e
    · rename_i xs hx
      cases e
      obtain ⟨vs, h2, h3⟩ := R.cell n _ a hx h1
      exact .inl ⟨vs, SqL.of h2, by rw [empty_iff h3]⟩
    · rename_i xs hx
      cases e
      obtain ⟨vs, h2, h3⟩ := R.cell n _ a hx h1
      exact .inl ⟨vs, h2.sq, by rw [empty_iff h3]⟩
    · rename_i kvs hx
      cases e
      obtain ⟨ws, h2, h3, h4⟩ := R.cell n _ a hx h1
      refine .inr (.inr ⟨ws, h2, ?_⟩)
      have := congrArg List.length h3
      simp at this
      cases kvs <;> cases ws <;> simp at this ⊢
    · cases e
  | fl l =>
    obtain ⟨a, vs, rfl, h1, h2⟩ := den_fl.mp r
    simp only [truD, Option.some.injEq] at e
    exact .inl ⟨vs, h1.sq, by rw [← e, empty_iff h2]⟩
  | fd ks l => simp [truD] at e
  | exc a => simp [truD] at e
def R.ofO {A : Type} (o : Option A) (h : IH) : R A := match o with
  | some a => .ok a h
  | none => .no
def mTr (m : ME) : MT := fun env h => (m env h).bind fun d h1 => R.ofO (truD h1 d) h1
def mTb (m : ME) : MT := fun env h => (m env h).bind fun d h1 => R.ofO d.bl? h1
def mAnd (a b : MT) : MT := fun env h => (a env h).bind fun c h1 => if c = true then b env h1 else .ok false h1
def mOr (a b : MT) : MT := fun env h => (a env h).bind fun c h1 => if c = true then .ok true h1 else b env h1
def mNot (a : MT) : MT := fun env h => (a env h).bind fun c h1 => .ok (!c) h1
def mAndV (a b : ME) : ME := fun env h => (a env h).bind fun x h1 => match x with
  | .bl true => b env h1
  | .bl false => .ok (.bl false) h1
  | _ => .no
def mOrV (a b : ME) : ME := fun env h => (a env h).bind fun x h1 => match x with
  | .bl true => .ok (.bl true) h1
  | .bl false => b env h1
  | _ => .no
def mNotV (a : ME) : ME := fun env h => (a env h).bind fun x h1 => match x with
  | .bl b => .ok (.bl (!b)) h1
  | _ => .no
def mIf (t : MT) (a b : ME) : ME := fun env h => (t env h).bind fun c h1 => if c = true then a env h1 else b env h1
def mChain (f g : D → D → IH → R D) (a b c : ME) : ME := fun env h => (a env h).bind fun x h1 => (b env h1).bind fun y h2 => (f x y h2).bind fun z h3 => match z with
  | .bl true => (c env h3).bind fun w h4 => g y w h4
  | .bl false => .ok (.bl false) h3
  | _ => .no
section
variable {X : Cx} {G : Cf} {W : WX} {a b c e : Expr} {ma mb mc : ME} {ta tb : MT} {pos : Pos} {rest : List Expr} {r r' : R2} {f g : D → D → IH → R D}
theorem mt_val (hK : X.K = G.K) (h : PE X a (tE G W ma)) (he : ∀ whole, isTrue a X.env whole = (do let v ← whole; standAt a.pos; holding [v] (truthy v)) := by intro _; rfl) : PT X a (tT G W (mTr ma)) :=
  PT.imp (pt_truth h he) fun σ H Q ⟨et, env, h, hE, hH, hP⟩ => by
    refine ⟨et, env, h, hE, hH, (Pst.of_bind hP).imp fun et1 H1 h1 d p e hr q v hv => ?_⟩
    cases ht : truD h1 d with
    | none => simp only [ht, R.ofO] at q; exact q.elim
    | some k =>
      simp only [ht, R.ofO] at q
      rw [hK]
      exact ⟨k, tru_okD hr ht hv, q.here hr⟩
theorem mt_cmp {op : CmpOp} (ho : OpR X (compareOp op) r) (hs : OpS G r f) (ha : PE X a (tE G W ma)) (hb : PE X b (tE G W mb)) (hm : behindInMarks op b = false := by first | exact nomark _ | rfl) : PT X (.Compare a [op] [b] pos) (tT G W (mTb (mOp f ma mb))) :=
  PT.imp (pt_cmpR ho ha hb hm) fun σ H Q ⟨et, env, h, hE, hH, hP⟩ => by
    refine tOp_of hs ⟨et, env, h, hE, hH, (Pst.of_bind hP).imp fun et1 H1 h1 d p e hr q v hv => ?_⟩
    cases d with
    | bl k => exact ⟨k, den_bl.mp hv, q.here hr⟩
    | _ => exact q.elim
theorem tChain_of {σ : L2.St} {H : Hp} {Q : VK} (hs : OpS G r f) (hs' : OpS G r' g) (x : tE G W (mChain f g ma mb mc) σ H Q) : tChain r r' (tE G W ma) (tE G W mb) (tE G W mc) σ H Q := by
  obtain ⟨et, env, h, hE, hH, hP⟩ := x
  refine ⟨et, env, h, hE, hH, (Pst.of_bind hP).imp fun et1 H1 h1 x p e hr q v hv => ?_⟩
  refine ⟨et1, env, h1, hE.mono p e, hr, (Pst.of_bind q).imp fun et2 H2 h2 y p2 e2 hr2 q2 w hw => ?_⟩
  refine hs et2 H2 h2 x y v w _ _ (hv.mono p2 e2) hw hr2 ((Pst.of_bind q2).imp fun et3 H3 h3 z p3 e3 hr3 q3 vz hz => ?_)
  cases z with
  | bl k =>
    refine ⟨k, den_bl.mp hz, ?_⟩
    cases k with
    | true =>
      rw [if_pos rfl]
      refine ⟨et3, env, h3, ((hE.mono p e).mono p2 e2).mono p3 e3, hr3, (Pst.of_bind q3).imp fun et4 H4 h4 u p4 e4 hr4 q4 vu hu => ?_⟩
      exact hs' et4 H4 h4 y u w vu _ Q ((hw.mono p3 e3).mono p4 e4) hu hr4 q4
    | false =>
      rw [if_neg Bool.false_ne_true]
      exact q3.here hr3 _ (by simp)
  | _ => exact q3.elim
theorem me_chain {op op' : CmpOp} (ho : OpR X (compareOp op) r) (hs : OpS G r f) (ho' : OpR X (compareOp op') r') (hs' : OpS G r' g) (ha : PE X a (tE G W ma)) (hb : PE X b (tE G W mb)) (hc : PE X c (tE G W mc)) (hm : lastMarks [op, op'] [b, c] = false := by rfl) :
    PE X (.Compare a [op, op'] [b, c] pos) (tE G W (mChain f g ma mb mc)) := PE.imp (pe_chain ho ho' ha hb hc hm) fun _ _ _ x => tChain_of hs hs' x
theorem mt_chain {op op' : CmpOp} (ho : OpR X (compareOp op) r) (hs : OpS G r f) (ho' : OpR X (compareOp op') r') (hs' : OpS G r' g) (ha : PE X a (tE G W ma)) (hb : PE X b (tE G W mb)) (hc : PE X c (tE G W mc)) (hm : lastMarks [op, op'] [b, c] = false := by rfl) :
    PT X (.Compare a [op, op'] [b, c] pos) (tT G W (mTb (mChain f g ma mb mc))) := PT.imp (pt_chain ho ho' ha hb hc hm) fun σ H Q ⟨et, env, h, hE, hH, hP⟩ => by
    refine tChain_of hs hs' ⟨et, env, h, hE, hH, (Pst.of_bind hP).imp fun et1 H1 h1 d p e hr q v hv => ?_⟩
    cases d with
    | bl k => exact ⟨k, den_bl.mp hv, q.here hr⟩
    | _ => exact q.elim
theorem tAnd_of {σ : L2.St} {H : Hp} {Q : Bool → Hp → Prop} (x : tT G W (mAnd ta tb) σ H Q) : tAnd (tT G W ta) (tT G W tb) σ H Q := by
  obtain ⟨et, env, h, hE, hH, hP⟩ := x
  refine ⟨et, env, h, hE, hH, (Pst.of_bind hP).imp fun et1 H1 h1 k p e hr q => ?_⟩
  cases k with
  | true =>
    rw [if_pos rfl] at q ⊢
    exact ⟨et1, env, h1, hE.mono p e, hr, q⟩
  | false =>
    rw [if_neg Bool.false_ne_true] at q ⊢
    exact q.here hr
theorem tOr_of {σ : L2.St} {H : Hp} {Q : Bool → Hp → Prop} (x : tT G W (mOr ta tb) σ H Q) : tOr (tT G W ta) (tT G W tb) σ H Q := by
  obtain ⟨et, env, h, hE, hH, hP⟩ := x
  refine ⟨et, env, h, hE, hH, (Pst.of_bind hP).imp fun et1 H1 h1 k p e hr q => ?_⟩
  cases k with
  | true =>
    rw [if_pos rfl] at q ⊢
    exact q.here hr
  | false =>
    rw [if_neg Bool.false_ne_true] at q ⊢
    exact ⟨et1, env, h1, hE.mono p e, hr, q⟩
theorem mw_and1 (ha : PT X a (tT G W ta)) : PW X (.BoolOp .And [a] pos) (tT G W ta) := pw_and1 ha
theorem mw_or1 (ha : PT X a (tT G W ta)) : PW X (.BoolOp .Or [a] pos) (tT G W ta) := pw_or1 ha
theorem mw_and (ha : PT X a (tT G W ta)) (hb : PW X (.BoolOp .And (b :: rest) pos) (tT G W tb)) : PW X (.BoolOp .And (a :: b :: rest) pos) (tT G W (mAnd ta tb)) := PW.imp (pw_and ha hb) fun _ _ _ x => tAnd_of x
theorem mw_or (ha : PT X a (tT G W ta)) (hb : PW X (.BoolOp .Or (b :: rest) pos) (tT G W tb)) : PW X (.BoolOp .Or (a :: b :: rest) pos) (tT G W (mOr ta tb)) := PW.imp (pw_or ha hb) fun _ _ _ x => tOr_of x
theorem mt_not (ha : PT X a (tT G W ta)) : PT X (.UnaryOp .Not a pos) (tT G W (mNot ta)) := PT.imp (pt_not ha) fun σ H Q ⟨et, env, h, hE, hH, hP⟩ =>
  ⟨et, env, h, hE, hH, (Pst.of_bind hP).imp fun et1 H1 h1 k p e hr q => q.here hr⟩
theorem me_one {op} (h : PE X a (tE G W ma)) : PE X (.BoolOp op [a] pos) (tE G W ma) := pe_one h
theorem me_and (ha : PE X a (tE G W ma)) (hb : PE X (.BoolOp .And (b :: rest) pos) (tE G W mb)) : PE X (.BoolOp .And (a :: b :: rest) pos) (tE G W (mAndV ma mb)) := PE.imp (pe_and ha hb) fun σ H Q ⟨et, env, h, hE, hH, hP⟩ => by
  refine ⟨et, env, h, hE, hH, (Pst.of_bind hP).imp fun et1 H1 h1 d p e hr q v hv => ?_⟩
  cases d with
  | bl k =>
    refine ⟨k, den_bl.mp hv, ?_⟩
    cases k with
    | true => rw [if_pos rfl]; exact ⟨et1, env, h1, hE.mono p e, hr, q⟩
    | false => rw [if_neg Bool.false_ne_true]; exact q.here hr _ (by simp)
  | _ => exact q.elim
theorem me_or (ha : PE X a (tE G W ma)) (hb : PE X (.BoolOp .Or (b :: rest) pos) (tE G W mb)) : PE X (.BoolOp .Or (a :: b :: rest) pos) (tE G W (mOrV ma mb)) := PE.imp (pe_or ha hb) fun σ H Q ⟨et, env, h, hE, hH, hP⟩ => by
  refine ⟨et, env, h, hE, hH, (Pst.of_bind hP).imp fun et1 H1 h1 d p e hr q v hv => ?_⟩
  cases d with
  | bl k =>
    refine ⟨k, den_bl.mp hv, ?_⟩
    cases k with
    | true => rw [if_pos rfl]; exact q.here hr _ (by simp)
    | false => rw [if_neg Bool.false_ne_true]; exact ⟨et1, env, h1, hE.mono p e, hr, q⟩
  | _ => exact q.elim
theorem me_not (ha : PE X a (tE G W ma)) : PE X (.UnaryOp .Not a pos) (tE G W (mNotV ma)) := PE.imp (pe_not ha) fun σ H Q ⟨et, env, h, hE, hH, hP⟩ => by
  refine ⟨et, env, h, hE, hH, (Pst.of_bind hP).imp fun et1 H1 h1 d p e hr q v hv => ?_⟩
  cases d with
  | bl k => exact ⟨k, den_bl.mp hv, q.here hr _ (by simp)⟩
  | _ => exact q.elim
theorem me_ifExp (hc : PT X c (tT G W ta)) (ha : PE X a (tE G W ma)) (hb : PE X b (tE G W mb)) : PE X (.IfExp c a b pos) (tE G W (mIf ta ma mb)) := PE.imp (pe_ifExp hc ha hb) fun σ H Q ⟨et, env, h, hE, hH, hP⟩ => by
  refine ⟨et, env, h, hE, hH, (Pst.of_bind hP).imp fun et1 H1 h1 k p e hr q => ?_⟩
  cases k with
  | true => rw [if_pos rfl] at q ⊢; exact ⟨et1, env, h1, hE.mono p e, hr, q⟩
  | false => rw [if_neg Bool.false_ne_true] at q ⊢; exact ⟨et1, env, h1, hE.mono p e, hr, q⟩
def mNeg (a : ME) : ME := fun env h => (a env h).bind fun x h1 => match x with
  | .int i => .ok (.int (-i)) h1
  | _ => .no
theorem me_neg (ha : PE X a (tE G W ma)) : PE X (.UnaryOp .USub a pos) (tE G W (mNeg ma)) := PE.imp (pe_un un_neg ha) fun σ H Q ⟨et, env, h, hE, hH, hP⟩ => by
  refine ⟨et, env, h, hE, hH, (Pst.of_bind hP).imp fun et1 H1 h1 d p e hr q v hv => ?_⟩
  cases d with
  | int k => exact ⟨k, den_int.mp hv, q.here hr _ (by simp)⟩
  | _ => exact q.elim
end

/-! ### arguments, displays -/
def mNil : MA := fun _ h => .ok [] h
def mCons (a : ME) (t : MA) : MA := fun env h => (a env h).bind fun x h1 => (t env h1).bind fun xs h2 => .ok (x :: xs) h2
def mTup (t : MA) : ME := fun env h => (t env h).bind fun xs h1 => if xs.length ≤ 10000000 then .ok (.tup xs) h1 else .no
def mLst (t : MA) : ME := fun env h => (t env h).bind fun xs h1 => if xs.length ≤ 10000000 then .ok (.ref h1.length) (h1 ++ [.lst xs]) else .no
section
variable {X : Cx} {G : Cf} {W : WX} {a b c e : Expr} {es : List Expr} {ma mb mc : ME} {mt : MA} {pos : Pos}
theorem ma_nil : PA X [] (tA G W mNil) := PA.imp pa_nil fun σ H Q ⟨et, env, h, hE, hH, hP⟩ => hP.here hH [] (by simp)
theorem ma_cons (he : PE X e (tE G W ma)) (h : PA X es (tA G W mt)) (hs : starEach (e :: es) X.env = (false, eval e X.env) :: starEach es X.env := by rfl) : PA X (e :: es) (tA G W (mCons ma mt)) := PA.imp (pa_cons he h hs) fun σ H Q ⟨et, env, h, hE, hH, hP⟩ => by
  refine ⟨et, env, h, hE, hH, (Pst.of_bind hP).imp fun et1 H1 h1 x p e hr q v hv => ?_⟩
  refine ⟨et1, env, h1, hE.mono p e, hr, (Pst.of_bind q).imp fun et2 H2 h2 xs p2 e2 hr2 q2 ws hw => ?_⟩
  exact q2.here hr2 _ (denL_cons.mpr ⟨v, ws, rfl, hv.mono p2 e2, hw⟩)
theorem me_tup {k : Nat} (h : PA X es (tA G W mt)) : PE X (.Tuple es k pos) (tE G W (mTup mt)) := PE.imp (pe_tup h) fun σ H Q ⟨et, env, h, hE, hH, hP⟩ => by
  refine ⟨et, env, h, hE, hH, (Pst.of_bind hP).imp fun et1 H1 h1 xs p e hr q vs hv => ?_⟩
  split at q
  · rename_i l
    exact ⟨sz (by rw [hv.len]; exact l), q.newT hr hv⟩
  · exact q.elim
theorem me_lst (h : PA X es (tA G W mt)) : PE X (.List es pos) (tE G W (mLst mt)) := PE.imp (pe_lst h) fun σ H Q ⟨et, env, h, hE, hH, hP⟩ => by
  refine ⟨et, env, h, hE, hH, (Pst.of_bind hP).imp fun et1 H1 h1 xs p e hr q vs hv => ?_⟩
  split at q
  · rename_i l
    exact ⟨sz (by rw [hv.len]; exact l), q.newL hr hv⟩
  · exact q.elim
end

/-! ### defs and their calls -/
def FSp (G : Cf) (n : Nat) (fm : MF) : Sp := fun vs H Q E => vs.length = n ∧ ∃ et ds h, DenL G et H ds vs ∧ HRel G et h H ∧
  Pst G et H (fm ds h) (fun et' H' _ d => ∀ v, Den G et' H' d v → Q v H') E
/-- the old cells are as they were, or tell of old cells alone -/
def okB (k : Nat) : IH → IH → Prop
  | [], _ => True
  | c :: cs, c' :: cs' => (c' = c ∨ Cell.lo k c' = true) ∧ okB k cs cs'
  | _ :: _, [] => False
def xfLo (n : Nat) : XF → Bool
  | none => true
  | some fs => D.loL n (fs.map (·.2))
open Classical in
noncomputable def clean (h : IH) (r : R D) : R D := match r with
  | .ok d h' => if d.lo h.length = true ∧ okB h.length h h' then .ok d (h'.take h.length) else .ok d h'
  | .ex c d h' => if xfLo h.length d = true ∧ okB h.length h h' then .ex c d (h'.take h.length) else .ex c d h'
  | .no => .no
theorem okB_get {k : Nat} : ∀ {h h' : IH} {n : Nat} {c : Cell}, okB k h h' → n < h.length → h'[n]? = some c → h[n]? = some c ∨ Cell.lo k c = true
  | [], _, n, _, _, l, _ => absurd l (Nat.not_lt_zero n)
  | _ :: _, [], _, _, o, _, _ => o.elim
  | c :: cs, c' :: cs', 0, d, o, _, e => by
    simp at e
    subst e
    rcases o.1 with h | h
    · exact .inl (by simp [h])
    · exact .inr h
  | c :: cs, c' :: cs', n + 1, d, o, l, e => by
    have := okB_get o.2 (n := n) (by simpa using l) (by simpa using e)
    simpa using this
theorem okB_len {k : Nat} : ∀ {h h' : IH}, okB k h h' → h.length ≤ h'.length
  | [], _, _ => Nat.zero_le _
  | _ :: _, [], o => o.elim
  | c :: cs, c' :: cs', o => by have := okB_len o.2; simp; omega
theorem HRel.lo {G : Cf} {et : List Addr} {h : IH} {H : Hp} (R : HRel G et h H) {n : Nat} {c : Cell} (e : h[n]? = some c) : Cell.lo et.length c = true := by
  obtain ⟨a, ha⟩ := R.addr e
  exact (R.cell n c a e ha).lo
theorem okB_all {G : Cf} {et : List Addr} {h h' : IH} {H : Hp} (R : HRel G et h H) (o : okB h.length h h') : (h'.take et.length).all (Cell.lo et.length) = true := by
  rw [List.all_eq_true]
  intro c hc
  obtain ⟨n, hn⟩ := List.mem_iff_getElem?.mp hc
  have hl : n < et.length := by
    have := (List.getElem?_eq_some_iff.mp hn).1
    rw [List.length_take] at this
    omega
  rw [List.getElem?_take_of_lt hl] at hn
  rw [R.len] at hl ⊢
  rcases okB_get o hl hn with h1 | h1
  · have := R.lo h1
    rw [R.len] at this
    exact this
  · exact h1
theorem HRel.cut {G : Cf} {et et' : List Addr} {h' : IH} {H : Hp} (p : et <+: et') (R : HRel G et' h' H) (c : (h'.take et.length).all (Cell.lo et.length) = true) : HRel G et (h'.take et.length) H := by
  obtain ⟨t, rfl⟩ := p
  have lt : ∀ {n : Nat} {c : Cell}, (h'.take et.length)[n]? = some c → n < et.length ∧ h'[n]? = some c := fun {n c} e => by
    by_cases hn : n < et.length
    · rw [List.getElem?_take_of_lt hn] at e
      exact ⟨hn, e⟩
    · rw [List.getElem?_eq_none (by rw [List.length_take]; omega)] at e
      cases e
  have al : ∀ {n : Nat} {a : Addr}, et[n]? = some a → (et ++ t)[n]? = some a := fun {n a} e => by
    rw [List.getElem?_append_left (List.getElem?_eq_some_iff.mp e).1]
    exact e
  refine ⟨?_, fun n m c1 c2 a h1 h2 h3 h4 f1 f2 => R.nd n m c1 c2 a (lt h1).2 (lt h2).2 (al h3) (al h4) f1 f2, fun n c1 a h1 h2 => ?_⟩
  · have := R.len
    rw [List.length_append] at this
    rw [List.length_take]
    omega
  · have hm : c1 ∈ h'.take et.length := List.mem_of_getElem? h1
    exact (R.cell n c1 a (lt h1).2 (al h2)).back (List.prefix_append _ _) (List.all_eq_true.mp c c1 hm)
theorem Pst.cleaned {G : Cf} {et : List Addr} {H : Hp} {h : IH} {r : R D} {Q : VK} {W : Value → Option Addr → Hp → Prop} (R : HRel G et h H) (x : Pst G et H (clean h r) (fun et' H' _ d => ∀ v, Den G et' H' d v → Q v H') W) :
    Pst G et H r (fun et' H' _ d => ∀ v, Den G et' H' d v → Q v H') W := by
  cases r with
  | no => exact x
  | ok d h' =>
    simp only [clean] at x
    split at x
    · rename_i c
      intro et' H' p e hr v hv
      have al := okB_all R c.2
      have c1 := c.1
      rw [← R.len] at c1 x
      exact x et H' List.prefix_rfl e (hr.cut p al) v (hv.back p c1)
    · exact x
  | ex c d h' =>
    simp only [clean] at x
    split at x
    · rename_i c
      intro et' H' cls dd p e hr hx
      have al := okB_all R c.2
      have c1 := c.1
      rw [← R.len] at c1 x
      refine x et H' cls dd List.prefix_rfl e (hr.cut p al) ⟨hx.1, ?_⟩
      have h2 := hx.2
      cases d with
      | none => exact h2
      | some fs =>
        obtain ⟨a, ws, q1, q2, q3, q4⟩ := h2
        exact ⟨a, ws, q1, q2, q3, q4.back p c1⟩
    · exact x
noncomputable def callC (n : Nat) (fm : MF) (ds : List D) (h : IH) : R D := if ds.length = n then clean h (fm ds h) else .no
noncomputable def mCall (n : Nat) (fm : MF) (a : MA) : ME := fun env h => (a env h).bind fun ds h1 => callC n fm ds h1
section
variable {X : Cx} {G : Cf} {W : WX} {k n : Nat} {f : Addr} {fd : FuncData} {ps : List Str} {fm : MF} {x : Str} {p pos : Pos} {e : Expr} {es : List Expr} {mt : MA}
theorem FSp.of_call {ds : List D} {vs : List V} {et : List Addr} {H : Hp} {h : IH} {Q : VK} {W0 : XK} (hv : DenL G et H ds vs) (hr : HRel G et h H) (q : Pst G et H (callC n fm ds h) (fun et' H' _ d => ∀ v, Den G et' H' d v → Q v H') W0) : FSp G n fm vs H Q W0 := by
  unfold callC at q
  split at q
  · rename_i l
    exact ⟨by rw [hv.len]; exact l, et, ds, h, hv, hr, q.cleaned hr⟩
  · exact q.elim
theorem me_call (F : FnOk X.prog X.w X.K X.mg X.base (L2.CX X.prog X.w) k f fd ps (FSp G n fm)) (hr : Room k X.A) (hm : X.mg x = some (.ref f)) (hk : PySem.W.keepIn X.K (.ref f) = true) (hb : Binds X.K fd ps []) (tk : Takes X W)
    (ha : PA X (e :: es) (tA G W mt)) (hg : Gl X x := by rfl) (hdb : (x == ("__debug__" : Str)) = false := by decide) (he : starEach (e :: es) X.env = (false, eval e X.env) :: starEach es X.env := by rfl) (hpl : (backTo pos (starEach es X.env)).any (·.1) = false := by rfl) :
    PE X (.Call (.Name x p) (e :: es) [] pos) (tE G W (mCall n fm mt)) := PE.imp (pe_callS F hr hg hm hk hb (passAt tk) ha hdb he hpl) fun σ H Q ⟨et, env, h, hE, hH, hP⟩ =>
  ⟨et, env, h, hE, hH, (Pst.of_bind hP).imp fun et1 H1 h1 ds p e hr q vs hv => FSp.of_call hv hr q⟩
theorem me_call0 (F : FnOk X.prog X.w X.K X.mg X.base (L2.CX X.prog X.w) k f fd ps (FSp G n fm)) (hr : Room k X.A) (hm : X.mg x = some (.ref f)) (hk : PySem.W.keepIn X.K (.ref f) = true) (hb : Binds X.K fd ps []) (tk : Takes X W)
    (hg : Gl X x := by rfl) (hdb : (x == ("__debug__" : Str)) = false := by decide) : PE X (.Call (.Name x p) [] [] pos) (tE G W (mCall n fm mNil)) := by
  refine ⟨fun pins s σ H Q I ⟨et, env, h, hE, hH, hP⟩ => ?_⟩
  refine wpAny_Call_Name_kw (ld_glob I hg hm ?_ hdb)
  exact PySem.W.callWith_K0 I.kIn hk (run_fnS (us := []) F hr hb (passAt tk σ) I .nil (FSp.of_call (by simp) hH hP))
end

/-! ### statements -/
def RS.fin : RS → R D
  | .nx _ h => .ok .non h
  | .rt d h => .ok d h
  | .ex c d _ h => .ex c d h
  | _ => .no
def fnM (n : Nat) (m : MS) : MF := fun ds h => (m (ds.map some ++ List.replicate (n - ds.length) none) h).fin
theorem EnvR.start {G : Cf} {et : List Addr} {H : Hp} {ds : List D} {vs : List V} (r : DenL G et H ds vs) (N : List Str) : EnvR G et H (ds.map some ++ List.replicate (N.length - ds.length) none) (start N vs) := by
  have hl := r.len
  refine ⟨by unfold L2.start; simp [hl], fun i d e => ?_⟩
  by_cases hi : i < ds.length
  · rw [List.getElem?_append_left (by simpa using hi), List.getElem?_map] at e
    cases h1 : ds[i]? with
    | none => rw [h1] at e; cases e
    | some d' =>
      rw [h1] at e
      cases e
      obtain ⟨v, h2, h3⟩ := r.get h1
      refine ⟨v, ?_, h3⟩
      unfold L2.start
      rw [List.getElem?_append_left (by simp; omega), List.getElem?_map, h2]
      rfl
  · rw [List.getElem?_append_right (by simpa using hi)] at e
    have := List.mem_of_getElem? e
    simp at this
section
variable {P : Program} {w : World} {K : PySem.W.Frag} {mg : Str → Option Value} {base : Heap} {G : Cf}
theorem fnPM {x qual : Str} {st : Stmt} {f : Addr} {fd : FuncData} {N ps : List Str} {k n : Nat} {m : MS} (F : Fun K x qual st f fd) (S : FnScope N ps (defScope st)) (hn : ps.length = n)
    (hb : ∀ (cdv : Value) (A : Around) (outer : List PySem.Env) (s : Shared) (H : Hp) (E : XK), Room k (A.deeper (envOfC qual (defScope st) s.heap.objs.size f cdv)) →
      Takes (cxOf (L2.CX P w) P w K mg base N qual (defScope st) f cdv A outer s H E) (fun c d _ H => E c d H) → PassesOwn (model P w) (cxOf (L2.CX P w) P w K mg base N qual (defScope st) f cdv A outer s H E).A (cxOf (L2.CX P w) P w K mg base N qual (defScope st) f cdv A outer s H E).env (cxOf (L2.CX P w) P w K mg base N qual (defScope st) f cdv A outer s H E).xe →
      PSs (cxOf (L2.CX P w) P w K mg base N qual (defScope st) f cdv A outer s H E) (defBody st) (tS G (fun c d _ H => E c d H) m)) : FnOk P w K mg base (L2.CX P w) (k + 1) f fd ps (FSp G n (fnM N.length m)) := by
  refine F.okX S (fun vs H Q E h => h.1.trans hn.symm) fun cdv A outer s H vs Q E hr ⟨hl, et, ds, h, hv, hH, hP⟩ => ⟨_, hb cdv A outer s H E hr (takes_of rfl rfl rfl rfl) (passes_of rfl), ?_⟩
  refine ⟨et, _, h, EnvR.start hv N, hH, ?_⟩
  unfold fnM at hP
  revert hP
  generalize m (ds.map some ++ List.replicate (N.length - ds.length) none) h = r
  intro hP
  cases r with
  | nx e h1 => exact fun et' H' σ' p ex hr _ => hP et' H' p ex hr _ (by simp)
  | rt d h1 => exact fun et' H' v p ex hr hv => hP et' H' p ex hr v hv
  | ex c d e h1 => exact fun et' H' σ' cls dd p ex hr _ hx => hP et' H' cls dd p ex hr hx
  | bk e h1 => exact hP.elim
  | ct e h1 => exact hP.elim
  | no => exact hP.elim
end
end NR

set_option Elab.async false
set_option linter.all false
set_option maxRecDepth 100000
/-! Statements, loops. -/
namespace NR
open PySem PySem.Spec PyProof.Rows L2

def RS.then (r : RS) (k : EV → IH → RS) : RS := match r with
  | .nx e h => k e h
  | r => r
def msNil : MS := fun env h => .nx env h
def msCons (a b : MS) : MS := fun env h => (a env h).then b
def msRet (m : ME) : MS := fun env h => (m env h).bindS env fun d h1 => .rt d h1
def msRetN : MS := fun _ h => .rt .non h
def msIf (t : MT) (a b : MS) : MS := fun env h => (t env h).bindS env fun c h1 => if c = true then a env h1 else b env h1
def msSet (i : Nat) (m : ME) : MS := fun env h => (m env h).bindS env fun d h1 => .nx (env.set i (some d)) h1
def msExpr (m : ME) : MS := fun env h => (m env h).bindS env fun _ h1 => .nx env h1
def msBreak : MS := fun env h => .bk env h
def msCont : MS := fun env h => .ct env h
def msNo : MS := fun _ _ => .no

section
variable {G : Cf} {et et' : List Addr} {H H' : Hp} {h h' : IH} {env : EV} {σ : L2.St} {D0 : Ends} {W : WX} {A : Type}
/-- behind an expression, a statement goes on -/
theorem PstS.of_bind {r : R A} {k : A → IH → RS} (hE : EnvR G et H env σ) (x : PstS G et H (r.bindS env k) D0 W) :
    Pst G et H r (fun et1 H1 h1 a => PstS G et1 H1 (k a h1) D0 W) (fun c d H' => W c d σ H') := by
  cases r with
  | ok a h1 =>
    intro et1 H1 p e hr
    have y : PstS G et H (k a h1) D0 W := x
    show PstS G et1 H1 (k a h1) D0 W
    cases hk : k a h1 with
    | nx b h2 => rw [hk] at y; exact fun et2 H2 σ' p2 e2 hr2 => y et2 H2 σ' (p.trans p2) (e.trans e2) hr2
    | bk b h2 => rw [hk] at y; exact fun et2 H2 σ' p2 e2 hr2 => y et2 H2 σ' (p.trans p2) (e.trans e2) hr2
    | ct b h2 => rw [hk] at y; exact fun et2 H2 σ' p2 e2 hr2 => y et2 H2 σ' (p.trans p2) (e.trans e2) hr2
    | rt b h2 => rw [hk] at y; exact fun et2 H2 v p2 e2 hr2 => y et2 H2 v (p.trans p2) (e.trans e2) hr2
    | ex c d b h2 => rw [hk] at y; exact fun et2 H2 σ' cls dd p2 e2 hr2 => y et2 H2 σ' cls dd (p.trans p2) (e.trans e2) hr2
    | no => rw [hk] at y; exact y
  | ex c d h1 => exact fun et1 H1 cls dd p e hr hx => x et1 H1 σ cls dd p e hr (hE.mono p e) hx
  | no => exact x
theorem PstS.weak {r : RS} (p : et <+: et') (e : Ext H H') (x : PstS G et H r D0 W) : PstS G et' H' r D0 W := by
  cases r with
  | nx b h2 => exact fun et2 H2 σ' p2 e2 hr2 => x et2 H2 σ' (p.trans p2) (e.trans e2) hr2
  | bk b h2 => exact fun et2 H2 σ' p2 e2 hr2 => x et2 H2 σ' (p.trans p2) (e.trans e2) hr2
  | ct b h2 => exact fun et2 H2 σ' p2 e2 hr2 => x et2 H2 σ' (p.trans p2) (e.trans e2) hr2
  | rt b h2 => exact fun et2 H2 v p2 e2 hr2 => x et2 H2 v (p.trans p2) (e.trans e2) hr2
  | ex c d b h2 => exact fun et2 H2 σ' cls dd p2 e2 hr2 => x et2 H2 σ' cls dd (p.trans p2) (e.trans e2) hr2
  | no => exact x
end

section
variable {X : Cx} {G : Cf} {W : WX} {st : Stmt} {rest : List Stmt} {a b : MS} {e c : Expr} {me : ME} {mt : MT} {pos : Pos}
theorem mss_nil : PSs X [] (tS G W msNil) := PSs.imp pss_nil fun D σ H ⟨et, env, h, hE, hH, hP⟩ => hP et H σ List.prefix_rfl (Ext.refl H) hH hE
theorem mss_cons (h1 : PS X st (tS G W a)) (h2 : PSs X rest (tS G W b)) : PSs X (st :: rest) (tS G W (msCons a b)) := PSs.imp (pss_cons h1 h2) fun D σ H ⟨et, env, h, hE, hH, hP⟩ => by
  refine ⟨et, env, h, hE, hH, ?_⟩
  unfold msCons at hP
  revert hP
  generalize a env h = r
  intro hP
  cases r with
  | nx e1 h1 => exact fun et' H' σ' p e hr hE' => ⟨et', e1, h1, hE', hr, PstS.weak p e hP⟩
  | bk b h2 => exact hP
  | ct b h2 => exact hP
  | rt b h2 => exact hP
  | ex c d b h2 => exact hP
  | no => exact hP
theorem mss_one (h1 : PS X st (tS G W a)) : PSs X [st] (tS G W a) := pss_one h1
theorem ms_pass : PS X (.Pass pos) (tS G W msNil) := PS.imp ps_pass fun D σ H ⟨et, env, h, hE, hH, hP⟩ => hP et H σ List.prefix_rfl (Ext.refl H) hH hE
theorem ms_doc {x : Str} {j : Nat} {pos' : Pos} : PS X (.Expr (.Constant (.str x) j pos) pos') (tS G W msNil) := PS.imp ps_doc fun D σ H ⟨et, env, h, hE, hH, hP⟩ => hP et H σ List.prefix_rfl (Ext.refl H) hH hE
theorem ms_break : PS X (.Break pos) (tS G W msBreak) := PS.imp ps_break fun D σ H ⟨et, env, h, hE, hH, hP⟩ => hP et H σ List.prefix_rfl (Ext.refl H) hH hE
theorem ms_continue : PS X (.Continue pos) (tS G W msCont) := PS.imp ps_continue fun D σ H ⟨et, env, h, hE, hH, hP⟩ => hP et H σ List.prefix_rfl (Ext.refl H) hH hE
theorem ms_no : PS X st (tS G W msNo) := PS.imp ps_never fun D σ H ⟨et, env, h, hE, hH, hP⟩ => hP
theorem mss_no {sts : List Stmt} : PSs X sts (tS G W msNo) := PSs.imp pss_never fun D σ H ⟨et, env, h, hE, hH, hP⟩ => hP
theorem ms_ret (he : PE X e (tE G W me)) : PS X (.Return (some e) pos) (tS G W (msRet me)) := PS.imp (ps_ret he) fun D σ H ⟨et, env, h, hE, hH, hP⟩ =>
  ⟨et, env, h, hE, hH, (PstS.of_bind hE hP).imp fun et1 H1 h1 d p e hr q v hv => q et1 H1 v List.prefix_rfl (Ext.refl _) hr hv⟩
theorem ms_retN : PS X (.Return none pos) (tS G W msRetN) := PS.imp ps_retN fun D σ H ⟨et, env, h, hE, hH, hP⟩ => hP et H .non List.prefix_rfl (Ext.refl _) hH (by simp)
theorem ms_if {s1 s2 : List Stmt} (hc : PT X c (tT G W mt)) (ha : PSs X s1 (tS G W a)) (hb : PSs X s2 (tS G W b)) : PS X (.If c s1 s2 pos) (tS G W (msIf mt a b)) := PS.imp (ps_if hc ha hb) fun D σ H ⟨et, env, h, hE, hH, hP⟩ => by
  refine ⟨et, env, h, hE, hH, (PstS.of_bind hE hP).imp fun et1 H1 h1 k p e hr q => ?_⟩
  cases k with
  | true => rw [if_pos rfl] at q ⊢; exact ⟨et1, env, h1, hE.mono p e, hr, q⟩
  | false => rw [if_neg Bool.false_ne_true] at q ⊢; exact ⟨et1, env, h1, hE.mono p e, hr, q⟩
theorem ms_set (i : Nat) {x : Str} {pos' : Pos} (hN : X.N.Nodup) (he : PE X e (tE G W me)) (hi : X.N[i]? = some x := by rfl) (hx : Loc X.env.scope x := by first | exact Or.inl rfl | exact Or.inr rfl) (hs : swapsWith e (some (.Name x pos')) pos.line X.env = pure false := by rfl)
    (hf : X.fn x = true ∨ X.env.scope.names.lookup x = some .local := by first | exact .inl rfl | exact .inr rfl) : PS X (.Assign [.Name x pos'] e pos) (tS G W (msSet i me)) := PS.imp (ps_set hN hi hx he hs hf) fun D σ H ⟨et, env, h, hE, hH, hP⟩ =>
  ⟨et, env, h, hE, hH, (PstS.of_bind hE hP).imp fun et1 H1 h1 d p e hr q v hv => q et1 H1 _ List.prefix_rfl (Ext.refl _) hr ((hE.mono p e).set i hv)⟩
theorem ms_expr (he : PE X e (tE G W me)) (hs : swapsWith e none pos.line X.env = pure false := by rfl) : PS X (.Expr e pos) (tS G W (msExpr me)) := PS.imp (ps_expr he hs) fun D σ H ⟨et, env, h, hE, hH, hP⟩ =>
  ⟨et, env, h, hE, hH, (PstS.of_bind hE hP).imp fun et1 H1 h1 d p e hr q v hv => q et1 H1 σ List.prefix_rfl (Ext.refl _) hr (hE.mono p e)⟩
end

/-! ### op=, stores -/
def msAug (i : Nat) (f : D → D → IH → R D) (m : ME) : MS := fun env h => match env[i]? with
  | some (some x) => (m env h).bindS env fun y h1 => (f x y h1).bindS env fun z h2 => .nx (env.set i (some z)) h2
  | _ => .no
/-- in place: ints, texts, a list that grows -/
def dIAdd : D → D → IH → R D
  | .int i, .int j, h => .ok (.int (i + j)) h
  | .str a, .str b, h => if a.length + b.length ≤ 10000000 then .ok (.str (a ++ b)) h else .no
  | _, _, _ => .no
def dISub : D → D → IH → R D
  | .int i, .int j, h => .ok (.int (i - j)) h
  | _, _, _ => .no
section
variable {X : Cx} {G : Cf} {W : WX} {a b e o i : Expr} {me mo mi : ME} {pos : Pos} {r : R2} {f : D → D → IH → R D}
theorem ms_aug (n : Nat) {x : Str} {op : Operator} {pos' : Pos} (hN : X.N.Nodup) (ho : OpR X (inplaceOp op) r) (hs : OpS G r f) (he : PE X e (tE G W me)) (hi : X.N[n]? = some x := by rfl) (hx : Loc X.env.scope x := by first | exact Or.inl rfl | exact Or.inr rfl)
    (hf : X.fn x = true ∨ X.env.scope.names.lookup x = some .local := by first | exact .inl rfl | exact .inr rfl) : PS X (.AugAssign (.Name x pos') op e pos) (tS G W (msAug n f me)) := PS.imp (ps_aug hN hi hx he (ti := r) ho hf) fun D σ H ⟨et, env, h, hE, hH, hP⟩ => by
  unfold msAug at hP
  split at hP
  · rename_i x0 hx0
    obtain ⟨v0, e0, r0⟩ := hE.2 n x0 hx0
    refine ⟨v0, e0, et, env, h, hE, hH, (PstS.of_bind hE hP).imp fun et1 H1 h1 y p e hr q w hw => ?_⟩
    exact hs et1 H1 h1 x0 y v0 w _ _ (r0.mono p e) hw hr ((PstS.of_bind (hE.mono p e) q).imp fun et2 H2 h2 z p2 e2 hr2 q2 u hu => q2 et2 H2 _ List.prefix_rfl (Ext.refl _) hr2 (((hE.mono p e).mono p2 e2).set n hu))
  · exact hP.elim
theorem iadd_ok : OpS G (fun x y H Q => rI0 (fun i j => .int (i + j)) x y H Q ∨ (∃ i j, x = .str i ∧ y = .str j ∧ i.length + j.length ≤ sizeLine ∧ Q (.str (i ++ j)) H)) dIAdd := by
  intro et H h x y v w W Q rx ry R p
  unfold dIAdd at p
  split at p
  · exact .inl ⟨_, _, den_int.mp rx, den_int.mp ry, p.here R _ (by simp)⟩
  · split at p
    · rename_i c
      refine .inr ⟨_, _, den_str.mp rx, den_str.mp ry, ?_, ?_⟩
      · rw [strV_length, strV_length]; exact sz c
      · exact p.here R _ (by simp [strV_app])
    · exact p.elim
  · exact p.elim
theorem iop_addA : OpR X (inplaceOp .Add) (fun x y H Q => rI0 (fun i j => .int (i + j)) x y H Q ∨ (∃ i j, x = .str i ∧ y = .str j ∧ i.length + j.length ≤ sizeLine ∧ Q (.str (i ++ j)) H)) := OpR.or iop_add iop_add_str
theorem isub_ok : OpS G (rI0 fun i j => .int (i - j)) dISub := by
  intro et H h x y v w W Q rx ry R p
  unfold dISub at p
  split at p
  · exact ⟨_, _, den_int.mp rx, den_int.mp ry, p.here R _ (by simp)⟩
  · exact p.elim
theorem idiv_ok : OpS G (rI CDivW fun i j => .int (i / j)) dDiv := opS_I fun i j c => by
    have c' : 0 < j ∧ j < 2 ^ 64 := by simpa [cDiv] using c
    exact wide_div c'.1 (b := 64) (by omega) (by decide) (by decide)
theorem imod_ok : OpS G (rI (fun _ j => 0 < j) fun i j => .int (i % j)) dMod := opS_I fun i j c => by simpa [cMod] using c
end
/-- the place of an item, from either end -/
def ixD (n : Nat) (i : Int) : Option Nat := ixN n i
/-- o[i] = v: a list's item -/
def putD (o i v : D) (h : IH) : Option IH := match o, i with
  | .ref n, .int k => match h[n]? with
    | some (.lst xs) => (ixN xs.length k).map fun j => h.set n (.lst (xs.set j v))
    | _ => none
  | _, _ => none
def msSetI (mo mi me : ME) : MS := fun env h => (me env h).bindS env fun v h1 => (mo env h1).bindS env fun o h2 => (mi env h2).bindS env fun i h3 => match putD o i v h3 with
  | some h4 => .nx env h4
  | none => .no
section
variable {G : Cf} {et : List Addr} {H : Hp} {h h' : IH}
theorem put_ok (R : HRel G et h H) {o i v : D} {vo vi vv : V} {Q : Hp → Prop} (e : putD o i v h = some h') (ro : Den G et H o vo) (ri : Den G et H i vi) (rv : Den G et H v vv) (q : ∀ H', Ext H H' → HRel G et h' H' → Q H') : rSetL vo vi vv H Q := by
  unfold putD at e
  split at e
  · rename_i n k
    split at e
    · rename_i xs hx
      simp only [Option.map_eq_some_iff] at e
      obtain ⟨j, e1, rfl⟩ := e
      obtain ⟨a, vs, h1, rfl, h2, h3⟩ := den_list R hx ro
      refine ⟨a, vs, k, j, rfl, den_int.mp ri, h2, by rw [h3.len]; exact e1, ?_⟩
      have ex : Ext H (upd H a (.lst (vs.set j vv))) := Ext.mut h2 True.intro
      exact q _ ex (R.set hx h1 rfl h2 True.intro ⟨_, upd_same, (h3.set j rv).mono List.prefix_rfl ex⟩)
    · cases e
  · cases e
end
section
variable {X : Cx} {G : Cf} {W : WX} {a b e o i : Expr} {me mo mi : ME} {pos pos' : Pos} {r : R2} {f : D → D → IH → R D}
theorem ms_setI (he : PE X e (tE G W me)) (ho : PE X o (tE G W mo)) (hi : PE X i (tE G W mi)) (ha : ∀ v, assign (.Subscript o i pos') X.env v = (do
      let ov ← holding [v] (eval o X.env)
      let iv ← holding [v, ov] (eval i X.env)
      standAt pos'
      holding [v, ov, iv] (setItem ov iv v)
      release [v, ov, iv] []) := by intro _; rfl) (hs : swapsWithSole [.Subscript o i pos'] e pos.line X.env = pure false := by rfl) (hw : swappedStores [.Subscript o i pos'] e X.env = pure none := by rfl)
    (h1 : (assignEach [.Subscript o i pos'] X.env).map (·.2) = [assign (.Subscript o i pos') X.env] := by rfl) : PS X (.Assign [.Subscript o i pos'] e pos) (tS G W (msSetI mo mi me)) :=
  PS.imp (ps_asg he (pg_sub ho hi set_list ha) hs hw h1) fun D σ H ⟨et, env, h, hE, hH, hP⟩ => by
    refine ⟨et, env, h, hE, hH, (PstS.of_bind hE hP).imp fun et1 H1 h1 v p e hr q vv hv => ?_⟩
    have hE1 := hE.mono p e
    refine ⟨et1, env, h1, hE1, hr, (PstS.of_bind hE1 q).imp fun et2 H2 h2 o p2 e2 hr2 q2 vo ho => ?_⟩
    have hE2 := hE1.mono p2 e2
    refine ⟨et2, env, h2, hE2, hr2, (PstS.of_bind hE2 q2).imp fun et3 H3 h3 i p3 e3 hr3 q3 vi hi => ?_⟩
    have hE3 := hE2.mono p3 e3
    split at q3
    · rename_i h4 e4
      exact put_ok hr3 e4 (ho.mono p3 e3) hi ((hv.mono p2 e2).mono p3 e3) fun H' ex hr4 => q3 et3 H' σ List.prefix_rfl ex hr4 (hE3.mono List.prefix_rfl ex)
    · exact q3.elim
end
/-- o[i], by values -/
def getD' (o i : D) (h : IH) : R D := match i with
  | .int k => match o with
    | .str s => match (ixN s.length k).bind fun j => s[j]? with
      | some c => if s.length ≤ 10000000 then .ok (.str [c]) h else .no
      | none => .no
    | o => match (seqOf h o).bind fun xs => (ixN xs.length k).bind fun j => xs[j]? with
      | some d => .ok d h
      | none => .no
  | _ => .no
abbrev dIx : D → D → IH → R D := fun o i h => getD' o i h
section
variable {X : Cx} {G : Cf} {W : WX} {a b e o i : Expr} {ma mb me mo mi : ME} {pos pos' : Pos} {r : R2} {f : D → D → IH → R D}
theorem atI_den {et : List Addr} {H : Hp} {xs : List D} {vs : List V} (r : DenL G et H xs vs) {k : Int} {d : D} (e : ((ixN xs.length k).bind fun j => xs[j]?) = some d) : ∃ v, atI vs k = some v ∧ Den G et H d v := by
  simp only [Option.bind_eq_some_iff] at e
  obtain ⟨j, e1, e2⟩ := e
  obtain ⟨v, h1, h2⟩ := r.get e2
  exact ⟨v, by unfold atI; rw [r.len, e1]; exact h1, h2⟩
theorem dIx_ok : OpS G (rIx G.K) dIx := by
  intro et H h x y v w W Q rx ry R p
  unfold dIx getD' at p
  split at p
  · rename_i k
    split at p
    · rename_i s
      split at p
      · rename_i c hc
        split at p
        · rename_i l
          refine .inr (.inr ⟨strV s, k, c, den_str.mp rx, den_int.mp ry, by rw [strV_length]; exact sz l, ?_, p.here R _ (by simp [strV])⟩)
          unfold atI
          simpa [strV] using hc
        · exact p.elim
      · exact p.elim
    · split at p
      · rename_i d hd
        simp only [Option.bind_eq_some_iff] at hd
        obtain ⟨xs, e1, e2⟩ := hd
        obtain ⟨a, vs, rfl, h1, h2⟩ := seq_ok R e1 rx
        obtain ⟨u, e3, r3⟩ := atI_den h2 (k := k) (by simpa only [Option.bind_eq_some_iff] using e2)
        rcases h1 with h1 | h1
        · exact .inl ⟨a, vs, k, u, rfl, den_int.mp ry, h1, e3, p.here R _ r3⟩
        · exact .inr (.inl ⟨a, vs, k, u, rfl, den_int.mp ry, h1, e3, p.here R _ r3⟩)
      · exact p.elim
  · exact p.elim
theorem me_ix (hK : X.K = G.K) (ha : PE X a (tE G W ma)) (hb : PE X b (tE G W mb)) (hs : PlainIx b := by exact fun _ _ => rfl) : PE X (.Subscript a b pos) (tE G W (mOp dIx ma mb)) := by
  refine PE.imp (pe_ix (r := rIx X.K) ix_seq ha hb hs) fun σ H Q x => ?_
  rw [hK]
  exact tOp_of dIx_ok x
/-! slices -/
def cutD (xs : List D) (lo hi : Option Int) : List D := (xs.drop (HT.sIx xs.length 0 lo)).take (HT.sIx xs.length xs.length hi - HT.sIx xs.length 0 lo)
def cutN (xs : List Nat) (lo hi : Option Int) : List Nat := (xs.drop (HT.sIx xs.length 0 lo)).take (HT.sIx xs.length xs.length hi - HT.sIx xs.length 0 lo)
abbrev MO := EV → IH → R (Option Int)
def moNone : MO := fun _ h => .ok none h
def moSome (m : ME) : MO := fun env h => (m env h).bind fun d h1 => match d with
  | .int i => .ok (some i) h1
  | _ => .no
def tO (G : Cf) (W : WX) (m : MO) : TO := fun σ H Q => ∃ et env h, EnvR G et H env σ ∧ HRel G et h H ∧
  Pst G et H (m env h) (fun _ H' _ o => Q o H') (fun c d H' => W c d σ H')
def sliceD (x : D) (lo hi : Option Int) (h : IH) : R D := match x with
  | .str s => if s.length ≤ 10000000 then .ok (.str (cutN s lo hi)) h else .no
  | .tup l => .ok (.tup (cutD l lo hi)) h
  | x => match lstOf h x with
    | some xs => .ok (.ref h.length) (h ++ [.lst (cutD xs lo hi)])
    | none => .no
def mSlice (m : ME) (lo hi : MO) : ME := fun env h => (m env h).bind fun x h1 => (lo env h1).bind fun l h2 => (hi env h2).bind fun u h3 => sliceD x l u h3
def rSlAll (K : PySem.W.Frag) : V → Option Int → Option Int → Hp → VK → Prop := fun x lo hi H Q => rSlL K x lo hi H Q ∨ rSlA K x lo hi H Q ∨ rSlS x lo hi H Q
theorem sl_all : SlR X (rSlAll X.K) := SlR.or sl_list (SlR.or sl_tupA sl_str)
end
end NR

set_option Elab.async false
set_option linter.all false
set_option maxRecDepth 100000
/-! Slices, calls of built-ins, methods, loops. -/
namespace NR
open PySem PySem.Spec PyProof.Rows L2
section
variable {X : Cx} {G : Cf} {W : WX} {a b e o i : Expr} {ma mb me : ME} {mo1 mo2 : MO} {pos pos' p2 : Pos} {lo hi : Option Expr}
theorem moN : PO X none (tO G W moNone) := ⟨fun pins s σ H Q I ⟨et, env, h, hE, hH, hP⟩ => po_none.run pins s σ H Q I (hP.here hH)⟩
theorem moS (he : PE X e (tE G W me)) : PO X (some e) (tO G W (moSome me)) := ⟨fun pins s σ H Q I ⟨et, env, h, hE, hH, hP⟩ => (po_some he).run pins s σ H Q I ⟨et, env, h, hE, hH, (Pst.of_bind hP).imp fun et1 H1 h1 d p e hr q v hv => by
    cases d with
    | int k => exact ⟨k, den_int.mp hv, q.here hr⟩
    | _ => exact q.elim⟩⟩
theorem slice_ok {et : List Addr} {H : Hp} {h : IH} (R : HRel G et h H) {x : D} {vx : V} {l u : Option Int} {Q : VK} {W0 : Value → Option Addr → Hp → Prop} (rx : Den G et H x vx)
    (p : Pst G et H (sliceD x l u h) (fun et' H' _ d => ∀ v, Den G et' H' d v → Q v H') W0) : rSlAll G.K vx l u H Q := by
  unfold sliceD at p
  split at p
  · split at p
    · rename_i s c
      refine .inr (.inr ⟨strV s, den_str.mp rx, by rw [strV_length]; exact sz c, p.here R _ ?_⟩)
      rw [den_str]
      unfold cutS cutN
      rw [strV_length]
      simp [strV]
    · exact p.elim
  · rename_i l0
    obtain ⟨a, vs, rfl, h1, h2⟩ := den_tup.mp rx
    refine .inr (.inl ⟨a, vs, rfl, h1, fun c => ?_, fun _ => ?_⟩)
    · refine p.here R _ (den_tup.mpr ⟨a, vs, rfl, h1, ?_⟩)
      have e : cutD l0 l u = l0 := by
        unfold cutD
        rw [h2.len] at c
        rw [c.1, c.2]
        simp
      rw [e]; exact h2
    · have h3 : DenL G et H (cutD l0 l u) (cutV vs l u) := by
        unfold cutD cutV
        rw [h2.len]
        exact (h2.drop _).take _
      exact p.newT R h3
  · split at p
    · rename_i xs hx
      obtain ⟨a, vs, rfl, h1, h2⟩ := lst_ok R hx rx
      have h3 : DenL G et H (cutD xs l u) (cutV vs l u) := by
        unfold cutD cutV
        rw [h2.len]
        exact (h2.drop _).take _
      exact .inl ⟨a, vs, rfl, h1, p.newL R h3⟩
    · exact p.elim
theorem me_slice (hK : X.K = G.K) (ha : PE X e (tE G W me)) (h1 : PO X lo (tO G W mo1)) (h2 : PO X hi (tO G W mo2)) : PE X (.Subscript e (.Slice lo hi none p2) pos) (tE G W (mSlice me mo1 mo2)) :=
  PE.imp (pe_slice sl_all ha h1 h2) fun σ H Q ⟨et, env, h, hE, hH, hP⟩ => by
    refine ⟨et, env, h, hE, hH, (Pst.of_bind hP).imp fun et1 H1 h1 x p e hr q v hv => ?_⟩
    have hE1 := hE.mono p e
    refine ⟨et1, env, h1, hE1, hr, (Pst.of_bind q).imp fun et2 H2 h2 l p2 e2 hr2 q2 => ?_⟩
    have hE2 := hE1.mono p2 e2
    refine ⟨et2, env, h2, hE2, hr2, (Pst.of_bind q2).imp fun et3 H3 h3 u p3 e3 hr3 q3 => ?_⟩
    rw [hK]
    exact slice_ok hr3 ((hv.mono p2 e2).mono p3 e3) q3
end

/-! ### built-ins by values -/
def CallS (G : Cf) (r : List V → Hp → VK → Prop) (f : List D → IH → R D) : Prop := ∀ (et : List Addr) (H : Hp) (h : IH) (xs : List D) (vs : List V) (W : Value → Option Addr → Hp → Prop) (Q : VK), DenL G et H xs vs → HRel G et h H →
  Pst G et H (f xs h) (fun et' H' _ d => ∀ v, Den G et' H' d v → Q v H') W → r vs H Q
def mB (f : List D → IH → R D) (t : MA) : ME := fun env h => (t env h).bind fun xs h1 => f xs h1
section
variable {X : Cx} {G : Cf} {W : WX} {e : Expr} {es : List Expr} {mt : MA} {pos p : Pos} {x : Str} {r : List V → Hp → VK → Prop} {f : List D → IH → R D}
theorem me_callB {id : String} (hc : CallR X (.builtin id) r) (hs : CallS G r f) (hm : X.mg x = none) (hv : bootBuiltins x = some (.builtin id)) (ha : PA X (e :: es) (tA G W mt)) (hg : Gl X x := by rfl) (hn : x ≠ "__name__" := by decide) (hdb : (x == ("__debug__" : Str)) = false := by decide)
    (he : starEach (e :: es) X.env = (false, eval e X.env) :: starEach es X.env := by rfl) (hpl : (backTo pos (starEach es X.env)).any (·.1) = false := by rfl) : PE X (.Call (.Name x p) (e :: es) [] pos) (tE G W (mB f mt)) :=
  PE.imp (pe_callB hc hg hm hv ha hn hdb he hpl) fun σ H Q ⟨et, env, h, hE, hH, hP⟩ => ⟨et, env, h, hE, hH, (Pst.of_bind hP).imp fun et1 H1 h1 xs p e hr q vs hv => hs et1 H1 h1 xs vs _ Q hv hr q⟩
theorem me_callT {T : String} (hc : CallR X (.type T) r) (hs : CallS G r f) (hm : X.mg x = none) (hv : bootBuiltins x = some (.type T)) (ha : PA X (e :: es) (tA G W mt)) (hg : Gl X x := by rfl) (hn : x ≠ "__name__" := by decide) (hdb : (x == ("__debug__" : Str)) = false := by decide)
    (he : starEach (e :: es) X.env = (false, eval e X.env) :: starEach es X.env := by rfl) (hpl : (backTo pos (starEach es X.env)).any (·.1) = false := by rfl) : PE X (.Call (.Name x p) (e :: es) [] pos) (tE G W (mB f mt)) :=
  PE.imp (pe_callTy hc hg hm hv ha hn hdb he hpl) fun σ H Q ⟨et, env, h, hE, hH, hP⟩ => ⟨et, env, h, hE, hH, (Pst.of_bind hP).imp fun et1 H1 h1 xs p e hr q vs hv => hs et1 H1 h1 xs vs _ Q hv hr q⟩
end

def bAbs : List D → IH → R D
  | [.int i], h => .ok (.int (if i < 0 then -i else i)) h
  | _, _ => .no
def bMax2 : List D → IH → R D
  | [.int i, .int j], h => .ok (.int (if j > i then j else i)) h
  | _, _ => .no
def bMin2 : List D → IH → R D
  | [.int i, .int j], h => .ok (.int (if j < i then j else i)) h
  | _, _ => .no
def bInt1 : List D → IH → R D
  | [.int i], h => .ok (.int i) h
  | [.bl b], h => .ok (.int (if b then 1 else 0)) h
  | _, _ => .no
def bLen : List D → IH → R D
  | [.str s], h => if s.length ≤ 10000000 then .ok (.int (s.length : Nat)) h else .no
  | [.tup l], h => .ok (.int (l.length : Nat)) h
  | [.fl l], h => .ok (.int (l.length : Nat)) h
  | [.ref n], h => match h[n]? with
    | some (.lst xs) => .ok (.int (xs.length : Nat)) h
    | some (.frz xs) => .ok (.int (xs.length : Nat)) h
    | some (.dk kvs) => .ok (.int (kvs.length : Nat)) h
    | _ => .no
  | _, _ => .no
def bList : List D → IH → R D
  | [x], h => match x with
    | .str _ => .no
    | x => match seqOf h x with
      | some xs => .ok (.ref h.length) (h ++ [.lst xs])
      | none => .no
  | _, _ => .no
def bTuple : List D → IH → R D
  | [x], h => match x with
    | .str _ => .no
    | .tup l => .ok (.tup l) h
    | x => match lstOf h x with
      | some xs => .ok (.tup xs) h
      | none => .no
  | _, _ => .no
def bSum : List D → IH → R D
  | [x], h => match (lstOf h x).bind (allM D.int?) with
    | some ns => .ok (.int ns.sum) h
    | none => .no
  | _, _ => .no
def bAny : List D → IH → R D
  | [x], h => match (lstOf h x).bind (allM D.bl?) with
    | some bs => .ok (.bl (bs.any id)) h
    | none => .no
  | _, _ => .no
def bAll : List D → IH → R D
  | [x], h => match (lstOf h x).bind (allM D.bl?) with
    | some bs => .ok (.bl (bs.all id)) h
    | none => .no
  | _, _ => .no
section
variable {X : Cx} {G : Cf}
theorem list1 {et : List Addr} {H : Hp} {x : D} {vs : List V} (r : DenL G et H [x] vs) : ∃ v, vs = [v] ∧ Den G et H x v := by
  obtain ⟨v, ws, rfl, h1, h2⟩ := denL_cons.mp r
  rw [denL_nil] at h2
  subst h2
  exact ⟨v, rfl, h1⟩
theorem list2 {et : List Addr} {H : Hp} {x y : D} {vs : List V} (r : DenL G et H [x, y] vs) : ∃ v w, vs = [v, w] ∧ Den G et H x v ∧ Den G et H y w := by
  obtain ⟨v, ws, rfl, h1, h2⟩ := denL_cons.mp r
  obtain ⟨w, rfl, h3⟩ := list1 h2
  exact ⟨v, w, rfl, h1, h3⟩
theorem bAbs_ok : CallS G (fun xs H Q => ∃ i, xs = [.int i] ∧ Q (.int (if i < 0 then -i else i)) H) bAbs := by
  intro et H h xs vs W Q rv R p
  unfold bAbs at p
  split at p
  · obtain ⟨v, rfl, h1⟩ := list1 rv
    exact ⟨_, by rw [den_int.mp h1], p.here R _ (by simp)⟩
  · exact p.elim
theorem bMax2_ok : CallS G (fun xs H Q => ∃ i j, xs = [.int i, .int j] ∧ Q (.int (if j > i then j else i)) H) bMax2 := by
  intro et H h xs vs W Q rv R p
  unfold bMax2 at p
  split at p
  · obtain ⟨v, w, rfl, h1, h2⟩ := list2 rv
    exact ⟨_, _, by rw [den_int.mp h1, den_int.mp h2], p.here R _ (by simp)⟩
  · exact p.elim
theorem bMin2_ok : CallS G (fun xs H Q => ∃ i j, xs = [.int i, .int j] ∧ Q (.int (if j < i then j else i)) H) bMin2 := by
  intro et H h xs vs W Q rv R p
  unfold bMin2 at p
  split at p
  · obtain ⟨v, w, rfl, h1, h2⟩ := list2 rv
    exact ⟨_, _, by rw [den_int.mp h1, den_int.mp h2], p.here R _ (by simp)⟩
  · exact p.elim
theorem bInt1_ok : CallS G (fun xs H Q => (∃ i, xs = [.int i] ∧ Q (.int i) H) ∨ ∃ k, xs = [.bl k] ∧ Q (.int (if k then 1 else 0)) H) bInt1 := by
  intro et H h xs vs W Q rv R p
  unfold bInt1 at p
  split at p
  · obtain ⟨v, rfl, h1⟩ := list1 rv
    exact .inl ⟨_, by rw [den_int.mp h1], p.here R _ (by simp)⟩
  · obtain ⟨v, rfl, h1⟩ := list1 rv
    exact .inr ⟨_, by rw [den_bl.mp h1], p.here R _ (by simp)⟩
  · exact p.elim
def rLenA (K : PySem.W.Frag) : List V → Hp → VK → Prop := fun xs H Q => (∃ x n, xs = [x] ∧ LenV K x H n ∧ Q (.int n) H) ∨ (∃ a kvs, xs = [V.ref a] ∧ H a = some (.dK kvs) ∧ Q (.int kvs.length) H)
theorem call_lenA : CallR X (.builtin "len") (rLenA X.K) := CallR.or call_len call_lenD
theorem bLen_ok : CallS G (rLenA G.K) bLen := by
  intro et H h xs vs W Q rv R p
  unfold bLen at p
  split at p
  · split at p
    · rename_i s c
      obtain ⟨v, rfl, h1⟩ := list1 rv
      refine .inl ⟨_, s.length, rfl, ?_, p.here R _ (by simp)⟩
      rw [den_str.mp h1]
      exact ⟨by rw [strV_length]; exact sz c, by rw [strV_length]⟩
    · exact p.elim
  · rename_i l
    obtain ⟨v, rfl, h1⟩ := list1 rv
    obtain ⟨a, vs, rfl, h2, h3⟩ := den_tup.mp h1
    exact .inl ⟨_, l.length, rfl, .inr ⟨vs, h2, h3.len.symm⟩, p.here R _ (by simp)⟩
  · rename_i l
    obtain ⟨v, rfl, h1⟩ := list1 rv
    obtain ⟨a, vs, rfl, h2, h3⟩ := den_fl.mp h1
    exact .inl ⟨_, l.length, rfl, .inl ⟨vs, h2.sq, h3.len.symm⟩, p.here R _ (by simp)⟩
  · obtain ⟨v, rfl, h1⟩ := list1 rv
    obtain ⟨a, h2, rfl⟩ := den_ref.mp h1
    split at p
    · rename_i xs hx
      obtain ⟨vs, h3, h4⟩ := R.cell _ _ a hx h2
      exact .inl ⟨_, xs.length, rfl, .inl ⟨vs, SqL.of h3, h4.len.symm⟩, p.here R _ (by simp)⟩
    · rename_i xs hx
      obtain ⟨vs, h3, h4⟩ := R.cell _ _ a hx h2
      exact .inl ⟨_, xs.length, rfl, .inl ⟨vs, h3.sq, h4.len.symm⟩, p.here R _ (by simp)⟩
    · rename_i kvs hx
      obtain ⟨ws, h3, h4, h5⟩ := R.cell _ _ a hx h2
      have hl := congrArg List.length h4
      simp at hl
      exact .inr ⟨a, ws, rfl, h3, p.here R _ (by simp [hl])⟩
    · exact p.elim
  · exact p.elim
theorem bSum_ok : CallS G (rSum G.K) bSum := by
  intro et H h xs vs W Q rv R p
  unfold bSum at p
  split at p
  · split at p
    · rename_i ns e
      simp only [Option.bind_eq_some_iff] at e
      obtain ⟨ds, e1, e2⟩ := e
      obtain ⟨v, rfl, h1⟩ := list1 rv
      obtain ⟨a, vs, rfl, h2, h3⟩ := lst_ok R e1 h1
      rw [allM_ints e2] at h3
      rw [h3.ints] at h2
      exact ⟨a, ns, rfl, h2, p.here R _ (by simp)⟩
    · exact p.elim
  · exact p.elim
theorem bAny_ok : CallS G (rAny G.K) bAny := by
  intro et H h xs vs W Q rv R p
  unfold bAny at p
  split at p
  · split at p
    · rename_i ns e
      simp only [Option.bind_eq_some_iff] at e
      obtain ⟨ds, e1, e2⟩ := e
      obtain ⟨v, rfl, h1⟩ := list1 rv
      obtain ⟨a, vs, rfl, h2, h3⟩ := lst_ok R e1 h1
      rw [allM_bls e2] at h3
      rw [h3.bls] at h2
      exact ⟨a, ns, rfl, h2, p.here R _ (by simp)⟩
    · exact p.elim
  · exact p.elim
theorem bAll_ok : CallS G (rAll G.K) bAll := by
  intro et H h xs vs W Q rv R p
  unfold bAll at p
  split at p
  · split at p
    · rename_i ns e
      simp only [Option.bind_eq_some_iff] at e
      obtain ⟨ds, e1, e2⟩ := e
      obtain ⟨v, rfl, h1⟩ := list1 rv
      obtain ⟨a, vs, rfl, h2, h3⟩ := lst_ok R e1 h1
      rw [allM_bls e2] at h3
      rw [h3.bls] at h2
      exact ⟨a, ns, rfl, h2, p.here R _ (by simp)⟩
    · exact p.elim
  · exact p.elim
end
end NR

set_option Elab.async false
set_option linter.all false
set_option maxRecDepth 100000
/-! Methods, loops, comprehensions. -/
namespace NR
open PySem PySem.Spec PyProof.Rows L2

/-! ### methods of built-in types -/
def tyD (T : String) (h : IH) : D → Bool
  | .str _ => T == "str"
  | .int _ => T == "int"
  | .fl _ => T == "list"
  | .ref n => match h[n]? with
    | some (.lst _) => T == "list"
    | some (.frz _) => T == "list"
    | some (.dk _) => T == "dict"
    | _ => false
  | _ => false
def mMeth (T : String) (f : D → List D → IH → R D) (mo : ME) (mt : MA) : ME := fun env h => (mo env h).bind fun x h1 => if tyD T h1 x = true then (mt env h1).bind fun xs h2 => f x xs h2 else .no
def MethS (G : Cf) (r : V → List V → Hp → VK → Prop) (f : D → List D → IH → R D) : Prop := ∀ (et : List Addr) (H : Hp) (h : IH) (x : D) (v : V) (xs : List D) (vs : List V) (W : Value → Option Addr → Hp → Prop) (Q : VK), Den G et H x v → DenL G et H xs vs → HRel G et h H →
  Pst G et H (f x xs h) (fun et' H' _ d => ∀ v, Den G et' H' d v → Q v H') W → r v vs H Q
section
variable {X : Cx} {G : Cf} {W : WX} {o e : Expr} {es : List Expr} {mo : ME} {mt : MA} {name : Str} {apos cpos : Pos} {T id : String} {r : V → List V → Hp → VK → Prop} {f : D → List D → IH → R D}
theorem tyD_ok {et : List Addr} {H : Hp} {h : IH} (R : HRel G et h H) {x : D} {v : V} (e : tyD T h x = true) (r : Den G et H x v) : tyV G.K T v H := by
  cases x with
  | str s => rw [den_str.mp r]; exact (show T = "str" by simpa [tyD] using e)
  | int s => rw [den_int.mp r]; exact (show T = "int" by simpa [tyD] using e)
  | fl l =>
    obtain ⟨a, vs, rfl, h2, h3⟩ := den_fl.mp r
    exact .inl ⟨by simpa [tyD] using e, vs, h2.sq⟩
  | ref n =>
    obtain ⟨a, h1, rfl⟩ := den_ref.mp r
    simp only [tyD] at e
    split at e
    · rename_i xs hx
      obtain ⟨vs, h2, h3⟩ := R.cell n _ a hx h1
      exact .inl ⟨by simpa using e, vs, SqL.of h2⟩
    · rename_i xs hx
      obtain ⟨vs, h2, h3⟩ := R.cell n _ a hx h1
      exact .inl ⟨by simpa using e, vs, h2.sq⟩
    · rename_i xs hx
      obtain ⟨vs, h2, h3⟩ := R.cell n _ a hx h1
      exact .inr (.inr (.inl ⟨by simpa using e, .inl ⟨vs, h2⟩⟩))
    · cases e
  | _ => simp [tyD] at e
theorem me_meth (hK : X.K = G.K) (pa : PlainAttrs T) (slot : Slot T name id) (hty : typeOf (.builtin id) = pure (.type "method_descriptor")) (hm : MtR X id r) (hs : MethS G r f) (ho : PE X o (tE G W mo)) (ha : PA X (e :: es) (tA G W mt))
    (hbase : attributeBase o name X.env (eval o X.env) = eval o X.env := by rfl) (hall : ((backTo cpos (starEach (e :: es) X.env)).all (!·.1) && (backToKw cpos (keywordEach [] X.env)).all (·.1.isSome) && decide ((e :: es).length + ([] : List Keyword).length + (if ([] : List Keyword).isEmpty = true then 0 else 1) < 30)) = true := by rfl)
    (hline : (apos.endLine == cpos.line) = true := by rfl) (he : starEach (e :: es) X.env = (false, eval e X.env) :: starEach es X.env := by rfl) (hpl : (backTo cpos (starEach es X.env)).any (·.1) = false := by rfl) :
    PE X (.Call (.Attribute o name apos) (e :: es) [] cpos) (tE G W (mMeth T f mo mt)) := PE.imp (pe_bm pa slot hty hm ho ha hbase hall hline he hpl) fun σ H Q ⟨et, env, h, hE, hH, hP⟩ => by
  refine ⟨et, env, h, hE, hH, (Pst.of_bind hP).imp fun et1 H1 h1 x p e hr q v hv => ?_⟩
  split at q
  · rename_i ht
    rw [hK]
    exact ⟨tyD_ok hr ht hv, et1, env, h1, hE.mono p e, hr, (Pst.of_bind q).imp fun et2 H2 h2 xs p2 e2 hr2 q2 vs hvs => hs et2 H2 h2 x v xs vs _ Q (hv.mono p2 e2) hvs hr2 q2⟩
  · exact q.elim
end
def fAppend : D → List D → IH → R D
  | .ref n, [y], h => match h[n]? with
    | some (.lst xs) => if xs.length < 10000000 then .ok .non (h.set n (.lst (xs ++ [y]))) else .no
    | _ => .no
  | _, _, _ => .no
def rExtendR : V → List V → Hp → VK → Prop := fun x vs H Q => ∃ l b xs zs, x = .ref l ∧ vs = [.ref b] ∧ H l = some (.lst xs) ∧ Rd H b (.lst zs) ∧ xs.length + zs.length ≤ sizeLine ∧ Q .non (upd H l (.lst (xs ++ zs)))
theorem mt_extendR {X : Cx} : MtM X "list.extend" rExtendR := by
  intro pins s σ H x vs v us Q I rx rv h
  obtain ⟨l, b, xs, zs, rfl, rfl, hH, hB, hz, q⟩ := h
  cases rx
  obtain ⟨u, rfl, ru⟩ := rv.one
  cases ru
  obtain ⟨z, its, n, r, hl, e⟩ := I.lstM hH
  obtain ⟨z2, its2, n2, r2, e2⟩ := Inv.lstR I hB
  have hl2 := r2.length
  have hsz : its.toArray.size + its2.toArray.size ≤ sizeLine := by rw [List.size_toArray, List.size_toArray]; omega
  have hlong : ¬ (!its.toArray.isEmpty && Builtin.List.listTooLong (its.toArray.size + its2.toArray.size)) = true := by
    rw [notLongL hsz, Bool.and_false]
    exact Bool.false_ne_true
  refine call_meets F.slot_list_extend ⟨_, e, rfl⟩ F.entry_list_extend (F.args_list_extend_2 _ _)
    (AutoSeq1.list_extend_list_list_0 l its.toArray n b its2.toArray n2 hlong (by rw [List.size_toArray]; omega) (by omega)) ⟨e, e2, ?_⟩
  refine ⟨.non, _, I.lset (its' := its ++ its2) hH e (by simp) (r.append r2) ?_, rfl, q⟩
  rw [List.length_append]
  omega
def fExtend : D → List D → IH → R D
  | .ref n, [y], h => match h[n]?, lsOf h y with
    | some (.lst xs), some ys => if xs.length + ys.length ≤ 10000000 then .ok .non (h.set n (.lst (xs ++ ys))) else .no
    | _, _ => .no
  | _, _, _ => .no
def joinN (a : List Nat) : List (List Nat) → List Nat
  | [] => []
  | [x] => x
  | x :: y :: r => x ++ a ++ joinN a (y :: r)
def fJoin : D → List D → IH → R D
  | .str a, [y], h => match (seqOf h y).bind (allM D.str?) with
    | some ys => if (ys.map List.length).sum + ys.length * a.length ≤ 10000000 then .ok (.str (joinN a ys)) h else .no
    | none => .no
  | _, _, _ => .no
theorem glue_fold (a : List Nat) : ∀ (ys : List (List Nat)) (x : List Nat), (ys.map strV).foldl (fun acc p => acc ++ (strV a).cps ++ p.cps) (strV x).cps = (strV (joinN a (x :: ys))).cps
  | [], x => rfl
  | y :: ys, x => by
    have ih := glue_fold a ys (x ++ a ++ y)
    rw [List.map_cons, List.foldl_cons]
    have e1 : (strV x).cps ++ (strV a).cps ++ (strV y).cps = (strV (x ++ a ++ y)).cps := by simp [strV]
    rw [e1, ih]
    congr 2
    cases ys with
    | nil => simp [joinN]
    | cons z zs => simp [joinN]
theorem join_ok (a : List Nat) (ys : List (List Nat)) : Txt.join (strV a) (ys.map strV) = strV (joinN a ys) := by
  show Builtin.Str.glued _ _ = _
  unfold Builtin.Str.glued
  cases ys with
  | nil => rfl
  | cons y ys =>
    simp only [List.map_cons, List.drop_succ_cons, List.drop_zero, List.headD_cons]
    rw [glue_fold]
section
variable {X : Cx} {G : Cf}
theorem fAppend_ok : MethS G rAppend fAppend := by
  intro et H h x v xs vs W Q rx rv R p
  unfold fAppend at p
  split at p
  · split at p
    · split at p
      · rename_i n y ys hx c
        obtain ⟨w, rfl, h1⟩ := list1 rv
        obtain ⟨a, us, h2, rfl, h3, h4⟩ := den_list R hx rx
        refine ⟨a, us, w, rfl, rfl, h3, ?_, ?_⟩
        · rw [h4.len, sizeLine_eq]; omega
        · have ex : Ext H (upd H a (.lst (us ++ [w]))) := Ext.mut h3 True.intro
          exact p et _ List.prefix_rfl ex (R.set hx h2 rfl h3 True.intro ⟨_, upd_same, (h4.app (denL_cons.mpr ⟨w, [], rfl, h1, by simp⟩)).mono List.prefix_rfl ex⟩) _ (by simp)
      · exact p.elim
    · exact p.elim
  · exact p.elim
theorem fExtend_ok : MethS G rExtendR fExtend := by
  intro et H h x v xs vs W Q rx rv R p
  unfold fExtend at p
  split at p
  · split at p
    · split at p
      · rename_i n y _ _ xs' ys hx hy c
        obtain ⟨w, rfl, h1⟩ := list1 rv
        obtain ⟨a, us, h2, rfl, h3, h4⟩ := den_list R hx rx
        obtain ⟨b, ws, rfl, k3, k4⟩ := ls_ok R hy h1
        refine ⟨a, b, us, ws, rfl, rfl, h3, k3, sz (by rw [h4.len, k4.len]; exact c), ?_⟩
        have ex : Ext H (upd H a (.lst (us ++ ws))) := Ext.mut h3 True.intro
        exact p et _ List.prefix_rfl ex (R.set hx h2 rfl h3 True.intro ⟨_, upd_same, (h4.app k4).mono List.prefix_rfl ex⟩) _ (by simp)
      · exact p.elim
    · exact p.elim
  · exact p.elim
theorem sum_len (ys : List (List Nat)) : ((ys.map strV).map (·.length)).sum = (ys.map List.length).sum := by
  rw [List.map_map]
  congr 1
theorem fJoin_ok : MethS G (fun x xs H Q => ∃ a p, ∃ ys : List Str, x = .str a ∧ xs = [.ref p] ∧ (SqL G.K H p (ys.map V.str) ∨ SqT G.K H p (ys.map V.str)) ∧ (ys.map (·.length)).sum + ys.length * a.length ≤ 16777216 ∧ Q (.str (Txt.join a ys)) H) fJoin := by
  intro et H h x v xs vs W Q rx rv R p
  unfold fJoin at p
  split at p
  · rename_i a y
    split at p
    · rename_i ys e
      split at p
      · rename_i c
        obtain ⟨w, rfl, h1⟩ := list1 rv
        simp only [Option.bind_eq_some_iff] at e
        obtain ⟨ds, e1, e2⟩ := e
        obtain ⟨q, us, rfl, h2, h3⟩ := seq_ok R e1 h1
        rw [allM_strs e2] at h3
        rw [h3.strs] at h2
        refine ⟨strV a, q, ys.map strV, den_str.mp rx, rfl, h2, ?_, ?_⟩
        · rw [sum_len, strV_length, List.length_map]; omega
        · exact p.here R _ (by simp [join_ok])
      · exact p.elim
    · exact p.elim
  · exact p.elim
end

/-! ### what a loop walks -/
inductive Src where
  | st (ds : List D)
  | ls (n : Nat)
  /-- what is read of the heap each time -/
  | dy (f : IH → Option (List D))
def Src.get : Src → IH → Nat → Option D
  | .st ds, _, i => ds[i]?
  | .ls n, h, i => (lstOf h (.ref n)).bind fun xs => xs[i]?
  | .dy f, h, i => (f h).bind fun xs => xs[i]?
def Src.ok : Src → IH → Bool
  | .st _, _ => true
  | .ls n, h => (lstOf h (.ref n)).isSome
  | .dy f, h => (f h).isSome
def Src.many : Src → IH → Nat
  | .st ds, _ => ds.length
  | .ls n, h => ((lstOf h (.ref n)).getD []).length
  | .dy f, h => ((f h).getD []).length
/-- the iterator J yields what the source tells -/
def JRel (G : Cf) (et0 : List Addr) (H0 : Hp) (src : Src) (J : It) : Prop := ∀ (et : List Addr) (H : Hp) (h : IH), et0 <+: et → Ext H0 H → HRel G et h H → src.ok h = true → ∀ i : Nat,
  match src.get h i with
  | some d => J.go i H ∧ ∀ x H', J.yld i H x H' → Ext H H' ∧ HRel G et h H' ∧ Den G et H' d x
  | none => J.stop i H
abbrev MI := EV → IH → R Src
def tI (G : Cf) (W : WX) (m : MI) : TI := fun σ H R => ∃ et env h, EnvR G et H env σ ∧ HRel G et h H ∧
  Pst G et H (m env h) (fun et' H' _ src => ∀ J, JRel G et' H' src J → R J H') (fun c d H' => W c d σ H')
theorem PI.imp {X : Cx} {tg iter : Expr} {w w' : TI} (h : PI X tg iter w) (k : ∀ σ H R, w' σ H R → w σ H R) : PI X tg iter w' := ⟨fun pins s σ H R I x => h.run pins s σ H R I (k σ H R x)⟩
abbrev MG := D → EV → Option EV
/-- the target's slots ws get what they get, no other slot changes -/
def OnlyS (ws : List Nat) (σ σ' : L2.St) : Prop := σ'.length = σ.length ∧ ∀ j, j ∉ ws → σ'[j]? = σ[j]?
def tG (G : Cf) (ws : List Nat) (g : MG) : TG := fun v σ H Q => ∃ et env h d, EnvR G et H env σ ∧ HRel G et h H ∧ Den G et H d v ∧ match g d env with
  | some env' => ∀ σ', OnlyS ws σ σ' → EnvR G et H env' σ' → Q σ' H
  | none => False
theorem PG.imp {X : Cx} {e : Expr} {w w' : TG} (h : PG X e w) (k : ∀ v σ H R, w' v σ H R → w v σ H R) : PG X e w' := ⟨fun pins s σ H v u R I r x => h.run pins s σ H v u R I r (k v σ H R x)⟩
def gSet (i : Nat) : MG := fun d env => some (env.set i (some d))
def gSets (is : List Nat) : MG := fun d env => match d with
  | .tup ds => if ds.length = is.length then some ((is.zip ds).foldl (fun e p => e.set p.1 (some p.2)) env) else none
  | .fl ds => if ds.length = is.length then some ((is.zip ds).foldl (fun e p => e.set p.1 (some p.2)) env) else none
  | _ => none
theorem PG.or {X : Cx} {e : Expr} {w w' : TG} (h : PG X e w) (h' : PG X e w') : PG X e (fun v σ H Q => w v σ H Q ∨ w' v σ H Q) := ⟨fun pins s σ H v u Q I r x => by
  rcases x with x | x
  · exact h.run pins s σ H v u Q I r x
  · exact h'.run pins s σ H v u Q I r x⟩
theorem OnlyS.refl (ws : List Nat) (σ : L2.St) : OnlyS ws σ σ := ⟨rfl, fun _ _ => rfl⟩
theorem OnlyS.set {ws : List Nat} {σ σ' : L2.St} (x : OnlyS ws σ σ') {i : Nat} (hi : i ∈ ws) (v : Option V) : OnlyS ws σ (σ'.set i v) :=
  ⟨by rw [List.length_set, x.1], fun j hj => by
    have hne : i ≠ j := fun z => hj (by rw [← z]; exact hi)
    rw [List.getElem?_set_ne hne]; exact x.2 j hj⟩
section
variable {X : Cx} {G : Cf} {W : WX} {e : Expr} {es : List Expr} {pos : Pos}
theorem mg_name (i : Nat) {x : Str} (hN : X.N.Nodup) (hi : X.N[i]? = some x := by rfl) (hx : Loc X.env.scope x := by first | exact Or.inl rfl | exact Or.inr rfl) (hf : X.fn x = true ∨ X.env.scope.names.lookup x = some .local := by first | exact .inl rfl | exact .inr rfl) :
    PG X (.Name x pos) (tG G [i] (gSet i)) := PG.imp (pg_name hN hi hx hf) fun v σ H Q ⟨et, env, h, d, hE, hH, hD, hP⟩ => by
  exact hP _ ((OnlyS.refl _ _).set (by simp) _) (hE.set i hD)
/-- several names -/
inductive PGN (X : Cx) (G : Cf) : List Nat → List Expr → TGs → Prop
  | nil : PGN X G [] [] gNil
  | cons {i : Nat} {is : List Nat} {e : Expr} {es : List Expr} {t : TGs} : PG X e (gName i) → PGN X G is es t → (assignEach (e :: es) X.env).map (·.2) = assign e X.env :: (assignEach es X.env).map (·.2) → PGN X G (i :: is) (e :: es) (gCons (gName i) t)
theorem PGN.pgs {is : List Nat} {es : List Expr} {t : TGs} (h : PGN X G is es t) : PGs X es t := by
  induction h with
  | nil => exact pgs_nil
  | cons h1 h2 h3 ih => exact pgs_cons h1 ih h3
theorem PGN.run {is : List Nat} {es : List Expr} {t : TGs} (h : PGN X G is es t) {et : List Addr} {H : Hp} {env : EV} {σ σ0 : L2.St} {ds : List D} {vs : List V} {ws : List Nat} {Q : L2.St → Hp → Prop} (hE : EnvR G et H env σ) (hD : DenL G et H ds vs) (hl : ds.length = is.length) (hw : ∀ i ∈ is, i ∈ ws)
    (ho : OnlyS ws σ0 σ) (q : ∀ σ', OnlyS ws σ0 σ' → EnvR G et H ((is.zip ds).foldl (fun e p => e.set p.1 (some p.2)) env) σ' → Q σ' H) : t vs σ H Q := by
  induction h generalizing env σ ds vs with
  | nil =>
    cases ds with
    | nil => rw [denL_nil] at hD; exact ⟨hD, q σ ho hE⟩
    | cons _ _ => simp at hl
  | cons h1 h2 h3 ih =>
    rename_i i is' e' es' t'
    cases ds with
    | nil => simp at hl
    | cons d ds =>
      obtain ⟨v, ws', rfl, r1, r2⟩ := denL_cons.mp hD
      refine ⟨v, ws', rfl, ?_⟩
      exact ih (hE.set i r1) r2 (by simpa using hl) (fun j hj => hw j (List.mem_cons_of_mem _ hj)) (ho.set (hw i List.mem_cons_self) _) q
theorem mg_tup {is : List Nat} {t : TGs} {k n : Nat} (hK : X.K = G.K) (hc : X.calm = true) (h : PGN X G is es t) (hln : is.length = n := by rfl) (hn : (assignEach es X.env).length = n := by rfl) (hst : (assignEach es X.env).findIdx? (·.1) = none := by rfl) :
    PG X (.Tuple es k pos) (tG G is (gSets is)) := PG.imp (PG.or (pg_tup hc h.pgs hn hst) (pg_unl hc h.pgs hn hst)) fun v σ H Q ⟨et, env, h0, d, hE, hH, hD, hP⟩ => by
  unfold gSets at hP
  cases d with
  | tup ds =>
    simp only at hP
    split at hP
    · rename_i hl
      split at hl
      · rename_i l
        obtain ⟨a, vs, rfl, r1, r2⟩ := den_tup.mp hD
        cases hl
        rw [hK]
        exact .inl ⟨a, vs, rfl, r1, by rw [r2.len, l, hln], h.run hE r2 l (fun i hi => hi) (OnlyS.refl _ _) fun σ' o hE' => hP σ' o hE'⟩
      · cases hl
    · exact hP.elim
  | fl ds =>
    simp only at hP
    split at hP
    · rename_i hl
      split at hl
      · rename_i l
        obtain ⟨a, vs, rfl, r1, r2⟩ := den_fl.mp hD
        cases hl
        rw [hK]
        exact .inr ⟨a, vs, rfl, r1.sq, by rw [r2.len, l, hln], h.run hE r2 l (fun i hi => hi) (OnlyS.refl _ _) fun σ' o hE' => hP σ' o hE'⟩
      · cases hl
    · exact hP.elim
  | _ => exact hP.elim
end
end NR

set_option Elab.async false
set_option linter.all false
set_option maxRecDepth 100000
/-! Loops, comprehensions. -/
namespace NR
open PySem PySem.Spec PyProof.Rows L2

/-! ### sources -/
/-- a list or a tuple or a text, as it comes -/
def iSeq (m : ME) : MI := fun env h => (m env h).bind fun x h1 => match x with
  | .ref n => if (lstOf h1 (.ref n)).isSome then .ok (.ls n) h1 else .no
  | .tup l => .ok (.st l) h1
  | .fl l => .ok (.st l) h1
  | .str s => if s.length ≤ 10000000 then .ok (.st (s.map fun c => .str [c])) h1 else .no
  | _ => .no
def intsFrom (lo : Int) (n : Nat) : List D := (List.range n).map fun i => .int (lo + (i : Nat))
def iRange1 (m : MA) : MI := fun env h => (m env h).bind fun xs h1 => match xs with
  | [.int j] => if -10000000 ≤ j ∧ j ≤ 10000000 then .ok (.st (intsFrom 0 j.toNat)) h1 else .no
  | _ => .no
def iRange2 (m : MA) : MI := fun env h => (m env h).bind fun xs h1 => match xs with
  | [.int i, .int j] => if -10000000 ≤ i ∧ i ≤ 10000000 ∧ -10000000 ≤ j ∧ j ≤ 10000000 then .ok (.st (intsFrom i (j - i).toNat)) h1 else .no
  | _ => .no
section
variable {X : Cx} {G : Cf} {W : WX} {e tg : Expr} {es : List Expr} {me : ME} {mt : MA} {pos p : Pos}
/-- a walk of what e holds: a list, a tuple, a text (the reading takes any of the three) -/
theorem pi_any {te : TE} (he : PE X e te) : PI X tg e (fun σ H R => iList X.K te σ H R ∨ iTup X.K te σ H R ∨ iStr te σ H R) :=
  ⟨fun pins s σ H R I x => by
    rcases x with x | x | x
    · exact (pi_list he).run pins s σ H R I x
    · exact (pi_tup he).run pins s σ H R I x
    · exact (pi_str he).run pins s σ H R I x⟩
theorem jrel_list {et : List Addr} {H : Hp} {n : Nat} {a : Addr} (e : et[n]? = some a) : JRel G et H (.ls n) (Itl G.K a) := by
  intro et1 H1 h1 p ex R ok i
  have e1 : et1[n]? = some a := by
    obtain ⟨t, rfl⟩ := p
    rw [List.getElem?_append_left (List.getElem?_eq_some_iff.mp e).1]
    exact e
  have ok' : (lstOf h1 (.ref n)).isSome = true := ok
  obtain ⟨xs, hx⟩ := Option.isSome_iff_exists.mp ok'
  obtain ⟨b, vs, hb, h2, h3⟩ := lst_ok R hx (den_ref.mpr ⟨a, e1, rfl⟩)
  cases hb
  show match (lstOf h1 (.ref n)).bind fun xs => xs[i]? with
    | some d => _
    | none => _
  rw [hx]
  show match xs[i]? with
    | some d => _
    | none => _
  cases hd : xs[i]? with
  | some d =>
    obtain ⟨v, hv, r⟩ := h3.get hd
    refine ⟨⟨vs, v, h2, hv⟩, fun x H' ⟨hH, hy⟩ => ?_⟩
    rw [hH]
    have := hy vs h2
    rw [hv] at this
    cases this
    exact ⟨Ext.refl _, R, r⟩
  | none =>
    refine ⟨vs, h2, ?_⟩
    rw [h3.len]
    exact List.getElem?_eq_none_iff.mp hd
theorem jrel_st {et : List Addr} {H : Hp} {l : List D} {J : It} (k : ∀ (et1 : List Addr) (H1 : Hp) (h1 : IH), et <+: et1 → Ext H H1 → HRel G et1 h1 H1 → ∀ i : Nat, match l[i]? with
    | some d => J.go i H1 ∧ ∀ x H', J.yld i H1 x H' → Ext H1 H' ∧ HRel G et1 h1 H' ∧ Den G et1 H' d x
    | none => J.stop i H1) : JRel G et H (.st l) J := fun et1 H1 h1 p ex R _ i => k et1 H1 h1 p ex R i
theorem mi_seq (hK : X.K = G.K) (he : PE X e (tE G W me)) : PI X tg e (tI G W (iSeq me)) := PI.imp (pi_any he) fun σ H R ⟨et, env, h, hE, hH, hP⟩ => by
  unfold iSeq at hP
  rw [hK]
  cases hr : me env h with
  | no => rw [hr] at hP; exact hP.elim
  | ex c d h1 =>
    rw [hr] at hP
    exact .inl ⟨et, env, h, hE, hH, by rw [hr]; exact hP⟩
  | ok x h1 =>
    rw [hr] at hP
    cases x with
    | ref n =>
      refine .inl ⟨et, env, h, hE, hH, ?_⟩
      rw [hr]
      refine fun et1 H1 p e R1 v hv => ?_
      obtain ⟨a, ha, rfl⟩ := den_ref.mp hv
      have q : Pst G et H (if (lstOf h1 (.ref n)).isSome then NR.R.ok (Src.ls n) h1 else .no) (fun et' H' _ src => ∀ J, JRel G et' H' src J → R J H') (fun c d H' => W c d σ H') := hP
      split at q
      · rename_i ok
        obtain ⟨xs, hx⟩ := Option.isSome_iff_exists.mp ok
        obtain ⟨b, vs, hb, h2, h3⟩ := lst_ok R1 hx hv
        cases hb
        exact ⟨a, rfl, ⟨vs, h2⟩, q et1 H1 p e R1 _ (jrel_list ha)⟩
      · exact q.elim
    | tup l =>
      refine .inr (.inl ⟨et, env, h, hE, hH, ?_⟩)
      rw [hr]
      refine fun et1 H1 p e R1 v hv => ?_
      obtain ⟨a, vs, rfl, h2, h3⟩ := den_tup.mp hv
      refine ⟨a, rfl, ⟨vs, h2⟩, hP et1 H1 p e R1 _ (jrel_st fun et2 H2 h2' p2 e2 R2 i => ?_)⟩
      cases hd : l[i]? with
      | none =>
        refine ⟨vs, e2.sqT h2, ?_⟩
        rw [h3.len]
        exact List.getElem?_eq_none_iff.mp hd
      | some d =>
        obtain ⟨v, hv, r⟩ := h3.get hd
        refine ⟨⟨vs, v, e2.sqT h2, hv⟩, fun x H' ⟨hH, hy⟩ => ?_⟩
        rw [hH]
        have := hy vs (e2.sqT h2)
        rw [hv] at this
        cases this
        exact ⟨Ext.refl _, R2, r.mono p2 e2⟩
    | fl l =>
      refine .inl ⟨et, env, h, hE, hH, ?_⟩
      rw [hr]
      refine fun et1 H1 p e R1 v hv => ?_
      obtain ⟨a, vs, rfl, h2, h3⟩ := den_fl.mp hv
      refine ⟨a, rfl, ⟨vs, h2.sq⟩, hP et1 H1 p e R1 _ (jrel_st fun et2 H2 h2' p2 e2 R2 i => ?_)⟩
      cases hd : l[i]? with
      | none =>
        refine ⟨vs, (h2.ext e2).sq, ?_⟩
        rw [h3.len]
        exact List.getElem?_eq_none_iff.mp hd
      | some d =>
        obtain ⟨v, hv, r⟩ := h3.get hd
        refine ⟨⟨vs, v, (h2.ext e2).sq, hv⟩, fun x H' ⟨hH, hy⟩ => ?_⟩
        rw [hH]
        have := hy vs (h2.ext e2).sq
        rw [hv] at this
        cases this
        exact ⟨Ext.refl _, R2, r.mono p2 e2⟩
    | str s =>
      refine .inr (.inr ⟨et, env, h, hE, hH, ?_⟩)
      rw [hr]
      refine fun et1 H1 p e R1 v hv => ?_
      have q : Pst G et H (if s.length ≤ 10000000 then NR.R.ok (Src.st (s.map fun c => .str [c])) h1 else .no) (fun et' H' _ src => ∀ J, JRel G et' H' src J → R J H') (fun c d H' => W c d σ H') := hP
      split at q
      · refine ⟨strV s, den_str.mp hv, q et1 H1 p e R1 _ (jrel_st fun et2 H2 h2' p2 e2 R2 i => ?_)⟩
        rw [List.getElem?_map]
        cases hs : s[i]? with
        | none =>
          show (strV s).cps.size ≤ i
          simp [strV]
          exact List.getElem?_eq_none_iff.mp hs
        | some c =>
          refine ⟨?_, fun x H' ⟨hH, c', hc, hx⟩ => ?_⟩
          · show i < (strV s).cps.size
            simp [strV]
            exact (List.getElem?_eq_some_iff.mp hs).1
          · subst hx
            rw [hH]
            have : c' = c := by
              have h5 : s[i]? = some c' := by simpa [strV] using hc
              rw [hs] at h5
              exact (Option.some.inj h5).symm
            subst this
            exact ⟨Ext.refl _, R2, by simp [strV]⟩
      · exact q.elim
    | _ => exact hP.elim
theorem ints_get (lo : Int) (n i : Nat) : (intsFrom lo n)[i]? = if i < n then some (.int (lo + (i : Nat))) else none := by
  unfold intsFrom
  rw [List.getElem?_map]
  by_cases h : i < n
  · rw [if_pos h, List.getElem?_range h]
    rfl
  · rw [if_neg h, List.getElem?_eq_none (by simpa using h)]
    rfl
theorem jrel_ints {et : List Addr} {H : Hp} {lo : Int} {n : Nat} : JRel G et H (.st (intsFrom lo n)) (Itr lo n) := jrel_st fun et1 H1 h1 p ex R i => by
  rw [ints_get]
  by_cases h : i < n
  · rw [if_pos h]
    refine ⟨h, fun x H' ⟨hH, hx⟩ => ?_⟩
    rw [hH, hx]
    exact ⟨Ext.refl _, R, by simp⟩
  · rw [if_neg h]
    show n ≤ i
    omega
theorem mi_range1 {a : Expr} (ha : PA X [a] (tA G W mt)) (hm : X.mg "range" = none) (hg : Gl X "range" := by rfl) (hs : starEach [a] X.env = [(false, eval a X.env)] := by rfl) : PI X tg (.Call (.Name "range" p) [a] [] pos) (tI G W (iRange1 mt)) :=
  PI.imp (pi_range1 hg hm ha hs) fun σ H R ⟨et, env, h, hE, hH, hP⟩ => by
    refine ⟨et, env, h, hE, hH, (Pst.of_bind hP).imp fun et1 H1 h1 xs p e hr q vs hv => ?_⟩
    split at q
    · split at q
      · rename_i j c
        obtain ⟨v, rfl, r⟩ := list1 hv
        exact ⟨j, by rw [den_int.mp r], by omega, by omega, q.here hr _ jrel_ints⟩
      · exact q.elim
    · exact q.elim
theorem mi_range2 {a b : Expr} (ha : PA X [a, b] (tA G W mt)) (hm : X.mg "range" = none) (hg : Gl X "range" := by rfl) (hs : starEach [a, b] X.env = [(false, eval a X.env), (false, eval b X.env)] := by rfl) (hs2 : starEach [b] X.env = [(false, eval b X.env)] := by rfl) : PI X tg (.Call (.Name "range" p) [a, b] [] pos) (tI G W (iRange2 mt)) :=
  PI.imp (pi_range2 hg hm ha hs hs2) fun σ H R ⟨et, env, h, hE, hH, hP⟩ => by
    refine ⟨et, env, h, hE, hH, (Pst.of_bind hP).imp fun et1 H1 h1 xs p e hr q vs hv => ?_⟩
    split at q
    · split at q
      · rename_i i j c
        obtain ⟨v, w, rfl, r1, r2⟩ := list2 hv
        exact ⟨i, j, by rw [den_int.mp r1, den_int.mp r2], by omega, q.here hr _ jrel_ints⟩
      · exact q.elim
    · exact q.elim
end

/-! ### for -/
def forM (src : Src) (g : MG) (b : MS) : Nat → Nat → EV → IH → RS
  | 0, _, _, _ => .no
  | m + 1, i, env, h => if src.ok h = true then (match src.get h i with
    | none => .nx env h
    | some d => match g d env with
      | none => .no
      | some e1 => match b e1 h with
        | .nx e2 h2 => forM src g b m (i + 1) e2 h2
        | .ct e2 h2 => forM src g b m (i + 1) e2 h2
        | .bk e2 h2 => .nx e2 h2
        | r => r) else .no
def msFor (it : MI) (g : MG) (b : MS) : MS := fun env h => (it env h).bindS env fun src h1 => forM src g b (src.many h1 + 1) 0 env h1
section
variable {X : Cx} {G : Cf} {W : WX} {iter tg : Expr} {body : List Stmt} {it : MI} {g : MG} {ws : List Nat} {b : MS} {pos : Pos}
theorem ms_for (hc : X.calm = true) (hp : PassesOwn (model X.prog X.w) X.A X.env X.xe) (hi : PI X tg iter (tI G W it)) (hg : PG X tg (tG G ws g)) (hb : PSs X body (tS G W b)) (hs : ∀ x, foldedSetIterable iter X.env x = pure x := by intro _; rfl) :
    PS X (.For tg iter body [] pos) (tS G W (msFor it g b)) := PS.imp (ps_for hp hc hi hg hb hs) fun D σ H ⟨et, env, h, hE, hH, hP⟩ => by
  refine ⟨et, env, h, hE, hH, (PstS.of_bind hE hP).imp fun et1 H1 h1 src p e hr q J hJ => ?_⟩
  refine ⟨fun i m σ H => ∃ et2 env h, et1 <+: et2 ∧ Ext H1 H ∧ EnvR G et2 H env σ ∧ HRel G et2 h H ∧ PstS G et2 H (forM src g b m i env h) D W, ⟨_, et1, env, h1, List.prefix_rfl, Ext.refl _, hE.mono p e, hr, q⟩, fun i m σ H ⟨et2, env, h, pp, ee, hE2, hr2, q2⟩ => ?_⟩
  cases m with
  | zero => exact q2.elim
  | succ m =>
    unfold forM at q2
    split at q2
    · rename_i hok
      have j := hJ et2 H h pp ee hr2 hok i
      revert j q2
      cases hd : src.get h i with
      | none =>
        intro q2 j
        exact .inl ⟨j, q2 et2 H σ List.prefix_rfl (Ext.refl _) hr2 hE2⟩
      | some d =>
        intro q2 j
        dsimp only at q2
        refine .inr ⟨j.1, fun σ' H' => ∃ et3 env3 h3, et1 <+: et3 ∧ Ext H1 H' ∧ EnvR G et3 H' env3 σ' ∧ HRel G et3 h3 H' ∧ PstS G et3 H' (forM src g b m (i + 1) env3 h3) D W, fun σ' H' x => ⟨m, Nat.lt_succ_self m, x⟩, fun x H' hy => ?_⟩
        obtain ⟨ex, hr3, hx⟩ := j.2 x H' hy
        refine ⟨et2, env, h, d, hE2.mono List.prefix_rfl ex, hr3, hx, ?_⟩
        cases hgd : g d env with
        | none => rw [hgd] at q2; exact q2.elim
        | some e1 =>
          rw [hgd] at q2
          dsimp only at q2
          refine fun σ' _ hE' => ⟨et2, e1, h, hE', hr3, ?_⟩
          have q3 := q2
          revert q3
          cases hbr : b e1 h with
          | nx e2 h2 => exact fun q3 et' H'' σ'' p3 e3 hr4 hE4 => ⟨et', e2, h2, pp.trans p3, (ee.trans ex).trans e3, hE4, hr4, PstS.weak p3 (ex.trans e3) q3⟩
          | ct e2 h2 => exact fun q3 et' H'' σ'' p3 e3 hr4 hE4 => ⟨et', e2, h2, pp.trans p3, (ee.trans ex).trans e3, hE4, hr4, PstS.weak p3 (ex.trans e3) q3⟩
          | bk e2 h2 => exact fun q3 et' H'' σ'' p3 e3 hr4 hE4 => q3 et' H'' σ'' p3 (ex.trans e3) hr4 hE4
          | rt d2 h2 => exact fun q3 et' H'' v p3 e3 hr4 hv => q3 et' H'' v p3 (ex.trans e3) hr4 hv
          | ex c d2 e2 h2 => exact fun q3 et' H'' σ'' cls dd p3 e3 hr4 hE4 hx => q3 et' H'' σ'' cls dd p3 (ex.trans e3) hr4 hE4 hx
          | no => exact fun q3 => q3
    · exact q2.elim
end

/-! ### while -/
def whN (c : MT) (b : MS) : Nat → EV → IH → Option RS
  | 0, _, _ => none
  | k + 1, env, h => match c env h with
    | .ok true h1 => match b env h1 with
      | .nx e2 h2 => whN c b k e2 h2
      | .ct e2 h2 => whN c b k e2 h2
      | .bk e2 h2 => some (.nx e2 h2)
      | r => some r
    | .ok false h1 => some (.nx env h1)
    | .ex cl d h1 => some (.ex cl d env h1)
    | .no => some .no
open Classical in
noncomputable def msWhile (c : MT) (b : MS) : MS := fun env h => if x : ∃ r, ∃ k, whN c b k env h = some r then x.choose else .no
theorem whN_mono {c : MT} {b : MS} : ∀ {k j : Nat} {env : EV} {h : IH} {r : RS}, whN c b k env h = some r → k ≤ j → whN c b j env h = some r
  | 0, _, _, _, _, e, _ => by simp [whN] at e
  | k + 1, 0, _, _, _, _, l => absurd l (Nat.not_succ_le_zero _)
  | k + 1, j + 1, env, h, r, e, l => by
    unfold whN at e ⊢
    have l' : k ≤ j := Nat.le_of_succ_le_succ l
    revert e
    cases c env h with
    | ok a h1 =>
      cases a with
      | false => exact fun e => e
      | true =>
        dsimp only
        cases b env h1 with
        | nx e2 h2 => exact fun e => whN_mono e l'
        | ct e2 h2 => exact fun e => whN_mono e l'
        | bk e2 h2 => exact fun e => e
        | rt d2 h2 => exact fun e => e
        | ex c d2 e2 h2 => exact fun e => e
        | no => exact fun e => e
    | ex cl d h1 => exact fun e => e
    | no => exact fun e => e
theorem msWhile_of {c : MT} {b : MS} {k : Nat} {env : EV} {h : IH} {r : RS} (e : whN c b k env h = some r) : msWhile c b env h = r := by
  unfold msWhile
  have x : ∃ r, ∃ k, whN c b k env h = some r := ⟨r, k, e⟩
  rw [dif_pos x]
  obtain ⟨j, hj⟩ := x.choose_spec
  have h1 := whN_mono e (Nat.le_max_left k j)
  have h2 := whN_mono hj (Nat.le_max_right k j)
  rw [h1] at h2
  exact (Option.some.inj h2).symm
/-- one turn of a while -/
theorem msWhile_eq (c : MT) (b : MS) (env : EV) (h : IH) : msWhile c b env h = match c env h with
    | .ok true h1 => match b env h1 with
      | .nx e2 h2 => msWhile c b e2 h2
      | .ct e2 h2 => msWhile c b e2 h2
      | .bk e2 h2 => .nx e2 h2
      | r => r
    | .ok false h1 => .nx env h1
    | .ex cl d h1 => .ex cl d env h1
    | .no => .no := by
  have go : ∀ e2 h2, (∀ k, whN c b (k + 1) env h = whN c b k e2 h2) → msWhile c b env h = msWhile c b e2 h2 := fun e2 h2 hk => by
    by_cases x : ∃ r, ∃ k, whN c b k e2 h2 = some r
    · obtain ⟨r, k, e⟩ := x
      rw [msWhile_of e]
      exact msWhile_of (k := k + 1) (by rw [hk]; exact e)
    · have y : ¬ ∃ r, ∃ k, whN c b k env h = some r := fun ⟨r, k, e⟩ => by
        cases k with
        | zero => simp [whN] at e
        | succ k => rw [hk] at e; exact x ⟨r, k, e⟩
      unfold msWhile
      rw [dif_neg x, dif_neg y]
  cases hc : c env h with
  | ok a h1 =>
    cases a with
    | false => exact msWhile_of (k := 1) (by unfold whN; rw [hc])
    | true =>
      dsimp only
      cases hb : b env h1 with
      | nx e2 h2 => exact go e2 h2 fun k => by conv => lhs; unfold whN; rw [hc]; dsimp only; rw [hb]
      | ct e2 h2 => exact go e2 h2 fun k => by conv => lhs; unfold whN; rw [hc]; dsimp only; rw [hb]
      | bk e2 h2 => exact msWhile_of (k := 1) (by unfold whN; rw [hc]; dsimp only; rw [hb])
      | rt d2 h2 => exact msWhile_of (k := 1) (by unfold whN; rw [hc]; dsimp only; rw [hb])
      | ex cl d2 e2 h2 => exact msWhile_of (k := 1) (by unfold whN; rw [hc]; dsimp only; rw [hb])
      | no => exact msWhile_of (k := 1) (by unfold whN; rw [hc]; dsimp only; rw [hb])
  | ex cl d h1 => exact msWhile_of (k := 1) (by unfold whN; rw [hc])
  | no => exact msWhile_of (k := 1) (by unfold whN; rw [hc])
section
variable {X : Cx} {G : Cf} {W : WX} {c : Expr} {body : List Stmt} {mc : MT} {b : MS} {pos : Pos}
theorem ms_while (hp : PassesOwn (model X.prog X.w) X.A X.env X.xe) (hc : PT X c (tT G W mc)) (hb : PSs X body (tS G W b)) : PS X (.While c body [] pos) (tS G W (msWhile mc b)) := PS.imp (ps_while hp hc hb) fun D σ H ⟨et, env, h, hE, hH, hP⟩ => by
  unfold msWhile at hP
  split at hP
  · rename_i x
    refine ⟨fun m σ H => ∃ et env h r, EnvR G et H env σ ∧ HRel G et h H ∧ whN mc b m env h = some r ∧ PstS G et H r D W, ⟨_, et, env, h, _, hE, hH, x.choose_spec.choose_spec, hP⟩, ?_⟩
    rintro m σ H ⟨et, env, h, r, hE, hH, e, hP⟩
    cases m with
    | zero => simp [whN] at e
    | succ m =>
      unfold whN at e
      refine ⟨et, env, h, hE, hH, ?_⟩
      revert e
      cases mc env h with
      | ok a h1 =>
        cases a with
        | false =>
          intro e
          cases e
          exact fun et1 H1 p ex hr => (show D.nx σ H1 from hP et1 H1 σ p ex hr (hE.mono p ex))
        | true =>
          intro e et1 H1 p ex hr
          dsimp only
          rw [if_pos rfl]
          refine ⟨fun σ' H' => ∃ et env h r, EnvR G et H' env σ' ∧ HRel G et h H' ∧ whN mc b m env h = some r ∧ PstS G et H' r D W, fun σ' H' x => ⟨m, Nat.lt_succ_self m, x⟩, et1, env, h1, hE.mono p ex, hr, ?_⟩
          dsimp only at e
          revert e
          cases hb : b env h1 with
          | nx e2 h2 => exact fun e et2 H2 σ2 p2 ex2 hr2 hE2 => ⟨et2, e2, h2, r, hE2, hr2, e, PstS.weak (p.trans p2) (ex.trans ex2) hP⟩
          | ct e2 h2 => exact fun e et2 H2 σ2 p2 ex2 hr2 hE2 => ⟨et2, e2, h2, r, hE2, hr2, e, PstS.weak (p.trans p2) (ex.trans ex2) hP⟩
          | bk e2 h2 => intro e; cases e; exact fun et2 H2 σ2 p2 ex2 hr2 hE2 => hP et2 H2 σ2 (p.trans p2) (ex.trans ex2) hr2 hE2
          | rt d2 h2 => intro e; cases e; exact fun et2 H2 v p2 ex2 hr2 hv => hP et2 H2 v (p.trans p2) (ex.trans ex2) hr2 hv
          | ex cl d2 e2 h2 => intro e; cases e; exact fun et2 H2 σ2 cls dd p2 ex2 hr2 hE2 hx => hP et2 H2 σ2 cls dd (p.trans p2) (ex.trans ex2) hr2 hE2 hx
          | no => intro e; cases e; exact hP.elim
      | ex cl d h1 => intro e; cases e; exact fun et1 H1 cls dd p ex hr hx => hP et1 H1 σ cls dd p ex hr (hE.mono p ex) hx
      | no => intro e; cases e; exact hP.elim
  · exact hP.elim
end
end NR

set_option Elab.async false
set_option linter.all false
set_option maxRecDepth 100000
/-! Comprehensions, isinstance, the end. -/
namespace NR
open PySem PySem.Spec PyProof.Rows L2

def wipeE (env : EV) : List Nat → EV
  | [] => env
  | v :: vs => (wipeE env vs).set v none
abbrev W0 : WX := fun _ _ _ _ => False
theorem wipe_get (σ : L2.St) (j : Nat) : ∀ vs : List Nat, (wipe σ vs)[j]? = if j ∈ vs then (if j < σ.length then some none else none) else σ[j]?
  | [] => by simp [wipe]
  | v :: vs => by
    unfold wipe
    by_cases h : v = j
    · subst h
      rw [if_pos List.mem_cons_self]
      by_cases hl : v < σ.length
      · rw [List.getElem?_set_self (by rw [wipe_length]; exact hl), if_pos hl]
      · rw [List.getElem?_eq_none (by rw [List.length_set, wipe_length]; omega), if_neg hl]
    · rw [List.getElem?_set_ne h, wipe_get σ j vs]
      have : (j ∈ v :: vs) ↔ j ∈ vs := by
        rw [List.mem_cons]
        exact ⟨fun z => z.elim (fun z => absurd z.symm h) id, .inr⟩
      simp only [this]
theorem wipe_again {σ σ2 : L2.St} {vs : List Nat} (h : OnlyS vs (wipe σ vs) σ2) : wipe σ2 vs = wipe σ vs := by
  apply List.ext_getElem?
  intro j
  rw [wipe_get, wipe_get]
  have hl : σ2.length = σ.length := by rw [h.1, wipe_length]
  by_cases hj : j ∈ vs
  · rw [if_pos hj, if_pos hj, hl]
  · rw [if_neg hj, if_neg hj, h.2 j hj, wipe_out hj]
theorem EnvR.wipe {G : Cf} {et : List Addr} {H : Hp} {env : EV} {σ : L2.St} (x : EnvR G et H env σ) : ∀ vs : List Nat, EnvR G et H (wipeE env vs) (wipe σ vs)
  | [] => x
  | v :: vs => by
    have ih := x.wipe vs
    unfold wipeE L2.wipe
    refine ⟨by simp [ih.1], fun i d e => ?_⟩
    by_cases h : v = i
    · subst h
      by_cases hl : v < (wipeE env vs).length
      · rw [List.getElem?_set_self hl] at e; cases e
      · rw [List.getElem?_eq_none (by rw [List.length_set]; omega)] at e; cases e
    · rw [List.getElem?_set_ne h] at e
      obtain ⟨u, a, b⟩ := ih.2 i d e
      exact ⟨u, by rw [List.getElem?_set_ne h]; exact a, b⟩
def mYes : MT := fun _ h => .ok true h
def lcM (src : Src) (g : MG) (t : MT) (e : ME) (n : Nat) : Nat → Nat → EV → IH → R D
  | 0, _, _, _ => .no
  | m + 1, i, env, h => if src.ok h = true then (match src.get h i with
    | none => .ok (.ref n) h
    | some d => match g d env with
      | none => .no
      | some e1 => match t e1 h with
        | .ok true h2 => match e e1 h2 with
          | .ok y h3 => match h3[n]? with
            | some (.lst acc) => if acc.length < 10000000 then lcM src g t e n m (i + 1) env (h3.set n (.lst (acc ++ [y]))) else .no
            | _ => .no
          | _ => .no
        | .ok false h2 => lcM src g t e n m (i + 1) env h2
        | _ => .no) else .no
def mLc (it : MI) (g : MG) (t : MT) (e : ME) (ws : List Nat) : ME := fun env h => (it env h).bind fun src h1 => lcM src g t e h1.length (src.many h1 + 1) 0 (wipeE env ws) (h1 ++ [.lst []])
section
variable {X : Cx} {G : Cf} {W : WX} {elt tg iter : Expr} {ifs : List Expr} {scope : Scope} {own : List (Str × Nat)} {it : MI} {g : MG} {t : MT} {e : ME} {pos : Pos}
theorem mts_nil : PTs X [] (tT G W mYes) := ⟨fun pins s σ H Q I ⟨et, env, h, hE, hH, hP⟩ => pts_nil.run pins s σ H Q I (show Q true H from hP.here hH)⟩
theorem mts_one {c : Expr} {m : MT} (h : PT X c (tT G W m)) : PTs X [c] (tT G W m) := pts_one h
theorem tLc_of {σ : L2.St} {H : Hp} {Q : VK} (x : tE G W (mLc it g t e (own.map (·.2))) σ H Q) : tLc (tI G W it) (tG G (own.map (·.2)) g) (tT G W0 t) (tE G W0 e) (own.map (·.2)) σ H Q := by
  obtain ⟨et, env, h, hE, hH, hP⟩ := x
  refine ⟨et, env, h, hE, hH, (Pst.of_bind hP).imp fun et1 H1 h1 src p ex hr q J hJ Dd hD => ?_⟩
  have pf : et1 <+: et1 ++ [Dd] := List.prefix_append _ _
  have ex0 : Ext H1 (upd H1 Dd (.lst [])) := Ext.new hD
  have hr0 : HRel G (et1 ++ [Dd]) (h1 ++ [.lst []]) (upd H1 Dd (.lst [])) := hr.push hD ⟨[], upd_same, by simp⟩
  have hE0 : EnvR G (et1 ++ [Dd]) (upd H1 Dd (.lst [])) env σ := (hE.mono p ex).mono pf ex0
  have at0 : (et1 ++ [Dd])[h1.length]? = some Dd := by
    rw [← hr.len, List.getElem?_append_right (Nat.le_refl _), Nat.sub_self]
    rfl
  refine ⟨fun i m H => ∃ et2 h, et1 ++ [Dd] <+: et2 ∧ Ext H1 H ∧ EnvR G et2 H (wipeE env (own.map (·.2))) (wipe σ (own.map (·.2))) ∧ HRel G et2 h H ∧ Pst G et2 H (lcM src g t e h1.length m i (wipeE env (own.map (·.2))) h) (fun et' H' _ d => ∀ v, Den G et' H' d v → Q v H') (fun c d H' => W c d σ H'),
    ⟨_, et1 ++ [Dd], h1 ++ [.lst []], List.prefix_rfl, ex0, hE0.wipe _, hr0, Pst.weak pf ex0 q⟩, fun i m H ⟨et2, h, pp, ee, hE2, hr2, q2⟩ => ?_⟩
  have at2 : et2[h1.length]? = some Dd := by
    obtain ⟨t2, rfl⟩ := pp
    rw [List.getElem?_append_left (List.getElem?_eq_some_iff.mp at0).1]
    exact at0
  cases m with
  | zero => exact q2.elim
  | succ m =>
    unfold lcM at q2
    split at q2
    · rename_i hok
      have j := hJ et2 H h (pf.trans pp) ee hr2 hok i
      revert j q2
      cases hd : src.get h i with
      | none =>
        intro q2 j
        exact .inl ⟨j, q2.here hr2 _ (den_ref.mpr ⟨Dd, at2, rfl⟩)⟩
      | some d =>
        intro q2 j
        dsimp only at q2
        refine .inr ⟨j.1, fun H' => ∃ et3 h3, et1 ++ [Dd] <+: et3 ∧ Ext H1 H' ∧ EnvR G et3 H' (wipeE env (own.map (·.2))) (wipe σ (own.map (·.2))) ∧ HRel G et3 h3 H' ∧ Pst G et3 H' (lcM src g t e h1.length m (i + 1) (wipeE env (own.map (·.2))) h3) (fun et' H' _ d => ∀ v, Den G et' H' d v → Q v H') (fun c d H' => W c d σ H'),
          fun H' x => ⟨m, Nat.lt_succ_self m, x⟩, fun x H' hy => ?_⟩
        obtain ⟨ex1, hr3, hx⟩ := j.2 x H' hy
        have hE3 := hE2.mono List.prefix_rfl ex1
        refine ⟨et2, _, h, d, hE3, hr3, hx, ?_⟩
        cases hgd : g d (wipeE env (own.map (·.2))) with
        | none => rw [hgd] at q2; exact q2.elim
        | some e1 =>
          rw [hgd] at q2
          dsimp only at q2
          refine fun σ2 o2 hE4 => ⟨wipe_again o2, et2, e1, h, hE4, hr3, ?_⟩
          revert q2
          cases ht : t e1 h with
          | no => exact fun q2 => q2
          | ex _ _ _ => exact fun q2 => q2.elim
          | ok b h2 =>
            cases b with
            | false =>
              intro q2 et4 H4 p4 ex4 hr4
              dsimp only
              rw [if_neg Bool.false_ne_true]
              exact ⟨et4, h2, pp.trans p4, (ee.trans ex1).trans ex4, hE3.mono p4 ex4, hr4, Pst.weak p4 (ex1.trans ex4) q2⟩
            | true =>
              intro q2 et4 H4 p4 ex4 hr4
              dsimp only at q2 ⊢
              rw [if_pos rfl]
              refine ⟨et4, e1, h2, hE4.mono p4 ex4, hr4, ?_⟩
              revert q2
              cases he : e e1 h2 with
              | no => exact fun q2 => q2
              | ex _ _ _ => exact fun q2 => q2.elim
              | ok y h3 =>
                intro q2 et5 H5 p5 ex5 hr5 v hv
                dsimp only at q2
                split at q2
                · rename_i acc hacc
                  split at q2
                  · rename_i hl
                    have at5 : et5[h1.length]? = some Dd := by
                      obtain ⟨t5, rfl⟩ := p4.trans p5
                      rw [List.getElem?_append_left (List.getElem?_eq_some_iff.mp at2).1]
                      exact at2
                    obtain ⟨us, hus, dus⟩ := hr5.cell _ _ _ hacc at5
                    have ex6 : Ext H5 (upd H5 Dd (.lst (us ++ [v]))) := Ext.mut hus True.intro
                    have hr6 := hr5.set (u := .lst (us ++ [v])) (c' := .lst (acc ++ [y])) hacc at5 rfl hus True.intro ⟨_, upd_same, (dus.app (denL_cons.mpr ⟨v, [], rfl, hv, by simp⟩)).mono List.prefix_rfl ex6⟩
                    refine ⟨us, hus, by rw [dus.len, sizeLine_eq]; omega, et5, _, (pp.trans p4).trans p5, (((ee.trans ex1).trans ex4).trans ex5).trans ex6, ((hE3.mono p4 ex4).mono p5 ex5).mono List.prefix_rfl ex6, hr6, ?_⟩
                    exact Pst.weak (p4.trans p5) (((ex1.trans ex4).trans ex5).trans ex6) q2
                  · exact q2.elim
                · exact q2.elim
    · exact q2.elim
theorem me_lc (hc : X.calm = true) (hN : X.N.Nodup) (hi : PI X tg iter (tI G W it)) (ok : BlkOk X.N X.env.scope scope own)
    (hg : ∀ (s : Shared) (H : Hp) (C : Addr) (cl : List (Str × Addr)) (fp : List Addr), PG (X.blk s H scope (compEnvC scope cl C X.env) fp) tg (tG G (own.map (·.2)) g))
    (ht : ∀ (s : Shared) (H : Hp) (C : Addr) (cl : List (Str × Addr)) (fp : List Addr), PTs (X.blk s H scope (compEnvC scope cl C X.env) fp) ifs (tT G W0 t))
    (he : ∀ (s : Shared) (H : Hp) (C : Addr) (cl : List (Str × Addr)) (fp : List Addr), PE (X.blk s H scope (compEnvC scope cl C X.env) fp) elt (tE G W0 e)) (hs : ∀ x, foldedSetIterable iter X.env x = pure x := by intro _; rfl) :
    PE X (.ListComp elt [⟨tg, iter, ifs, 0⟩] scope pos) (tE G W (mLc it g t e (own.map (·.2)))) := PE.imp (pe_lc hc hN hi ok hg ht he hs) fun _ _ _ x => tLc_of x
theorem ms_setLc (i : Nat) {y : Str} {py spos : Pos} (hc : X.calm = true) (hN : X.N.Nodup) (hi : PI X tg iter (tI G W it)) (ok : BlkOk X.N X.env.scope scope own)
    (hg : ∀ (s : Shared) (H : Hp) (C : Addr) (cl : List (Str × Addr)) (fp : List Addr), PG (X.blk s H scope (compEnvC scope cl C X.env) fp) tg (tG G (own.map (·.2)) g))
    (ht : ∀ (s : Shared) (H : Hp) (C : Addr) (cl : List (Str × Addr)) (fp : List Addr), PTs (X.blk s H scope (compEnvC scope cl C X.env) fp) ifs (tT G W0 t))
    (he : ∀ (s : Shared) (H : Hp) (C : Addr) (cl : List (Str × Addr)) (fp : List Addr), PE (X.blk s H scope (compEnvC scope cl C X.env) fp) elt (tE G W0 e))
    (hsw : swapsWith (.ListComp elt [⟨tg, iter, ifs, 0⟩] scope pos) (some (.Name y py)) spos.line X.env = pure true) (hy : X.N[i]? = some y := by rfl) (hyl : X.env.scope.names.lookup y = some .local := by rfl) (hs : ∀ x, foldedSetIterable iter X.env x = pure x := by intro _; rfl) :
    PS X (.Assign [.Name y py] (.ListComp elt [⟨tg, iter, ifs, 0⟩] scope pos) spos) (tS G W (msSet i (mLc it g t e (own.map (·.2))))) := PS.imp (ps_setLc hc hN hy hyl hsw hi ok hg ht he hs) fun D σ H ⟨et, env, h, hE, hH, hP⟩ => by
  refine tLc_of ⟨et, env, h, hE, hH, (PstS.of_bind hE hP).imp fun et1 H1 h1 d p e hr q v hv => q et1 H1 _ List.prefix_rfl (Ext.refl _) hr ((hE.mono p e).set i hv)⟩
end

/-! ### isinstance -/
def isT (T : String) (h : IH) : D → Option Bool
  | .non => kitB "NoneType" T
  | .bl _ => kitB "bool" T
  | .int _ => kitB "int" T
  | .str _ => kitB "str" T
  | .tup _ => kitB "tuple" T
  | .fl _ => kitB "list" T
  | .fd _ _ => kitB "dict" T
  | .ref n => match h[n]? with
    | some (.lst _) => kitB "list" T
    | some (.frz _) => kitB "list" T
    | some (.dk _) => kitB "dict" T
    | _ => none
  | _ => none
def mIs (T : String) (m : ME) : ME := fun env h => (m env h).bind fun x h1 => match isT T h1 x with
  | some b => .ok (.bl b) h1
  | none => .no
section
variable {X : Cx} {G : Cf} {W : WX} {a : Expr} {ma : ME} {pos p p2 : Pos} {T : String} {y : Str}
theorem sqT_ty {K : PySem.W.Frag} {H : Hp} {a : Addr} {vs : List V} (h : SqT K H a vs) : TyX K H (.ref a) (.type "tuple") := by
  rcases h with (h | ⟨o, h⟩) | ⟨o, its, n, hk, hc, _⟩
  · exact .base (.tup h)
  · exact .fTuple h
  · exact .kTuple hk hc
theorem frzL_ty {K : PySem.W.Frag} {H : Hp} {a : Addr} {vs : List V} (h : FrzL K H a vs) : TyX K H (.ref a) (.type "list") := by
  rcases h with ⟨o, h⟩ | ⟨o, its, n, hk, hc, _⟩
  · exact .base (.frz h)
  · exact .kList hk hc
theorem isT_ok {et : List Addr} {H : Hp} {h : IH} (R : HRel G et h H) {x : D} {v : V} {b : Bool} (e : isT T h x = some b) (r : Den G et H x v) : ∃ t, TyX G.K H v t ∧ PySem.W.kitOne G.K t (.type T) = some b := by
  cases x with
  | non => rw [den_non.mp r]; exact ⟨_, .base .non, kit_ty e⟩
  | bl _ => rw [den_bl.mp r]; exact ⟨_, .base (.bl _), kit_ty e⟩
  | int _ => rw [den_int.mp r]; exact ⟨_, .base (.int _), kit_ty e⟩
  | str _ => rw [den_str.mp r]; exact ⟨_, .base (.str _), kit_ty e⟩
  | tup l =>
    obtain ⟨a, vs, rfl, h1, _⟩ := den_tup.mp r
    exact ⟨_, sqT_ty (TpT.sq h1), kit_ty e⟩
  | ref n =>
    obtain ⟨a, h1, rfl⟩ := den_ref.mp r
    simp only [isT] at e
    split at e
    · rename_i xs hx
      obtain ⟨vs, h2, _⟩ := R.cell n _ a hx h1
      exact ⟨_, .base (.lst h2), kit_ty e⟩
    · rename_i xs hx
      obtain ⟨vs, h2, _⟩ := R.cell n _ a hx h1
      exact ⟨_, frzL_ty h2, kit_ty e⟩
    · rename_i xs hx
      obtain ⟨vs, h2, _⟩ := R.cell n _ a hx h1
      exact ⟨_, .base (.dK h2), kit_ty e⟩
    · cases e
  | fl l =>
    obtain ⟨a, vs, rfl, h1, _⟩ := den_fl.mp r
    exact ⟨_, frzL_ty (K := G.K) h1.frz, kit_ty e⟩
  | fd ks l =>
    obtain ⟨a, ws, rfl, ⟨o, h1⟩, _⟩ := den_fd.mp r
    exact ⟨_, .fDict h1, kit_ty e⟩
  | exc a => simp [isT] at e
theorem me_is (hK : X.K = G.K) (ha : PE X a (tE G W ma)) (hm : X.mg "isinstance" = none) (hmT : X.mg y = none) (hv : bootBuiltins "isinstance" = some (.builtin "isinstance") := by decide +kernel) (hvT : bootBuiltins y = some (.type T) := by decide +kernel) (hg : Gl X "isinstance" := by rfl) (hgT : Gl X y := by rfl) (hnT : y ≠ "__name__" := by decide) (hdT : (y == ("__debug__" : Str)) = false := by decide)
    (hs1 : starEach [a, .Name y p2] X.env = (false, eval a X.env) :: starEach [.Name y p2] X.env := by rfl) (hs2 : starEach [.Name y p2] X.env = (false, eval (.Name y p2) X.env) :: starEach [] X.env := by rfl) (hpl : (backTo pos (starEach [.Name y p2] X.env)).any (·.1) = false := by rfl) :
    PE X (.Call (.Name "isinstance" p) [a, .Name y p2] [] pos) (tE G W (mIs T ma)) :=
  PE.imp (pe_callB call_isi hg hm hv (pa_cons ha (pa_cons (pe_bltn (v := .ty T) hgT hmT hvT rfl hnT hdT) pa_nil hs2) hs1) (by decide) (by decide) hs1 hpl) fun σ H Q ⟨et, env, h, hE, hH, hP⟩ => by
    refine ⟨et, env, h, hE, hH, (Pst.of_bind hP).imp fun et1 H1 h1 x p e hr q v hv => ?_⟩
    split at q
    · rename_i b hb
      obtain ⟨t, h2, h3⟩ := isT_ok hr hb hv
      rw [hK]
      exact ⟨v, .ty T, t, _, b, rfl, .ty T, h2, h3, q.here hr _ (by simp)⟩
    · exact q.elim
end
/-! ### the law's promise -/
def spLaw (G : Cf) (fm : MF) : Sp := fun vs H Q E => ∃ (a : Addr) (ns : List Int), vs = [.ref a] ∧ ns.length ≤ 63 ∧ Only H ∧ SqL G.K H a (ns.map V.int) ∧ ∀ H', Q (.bl true) H'
theorem FrzL.of_only {K : PySem.W.Frag} {H : Hp} {a : Addr} {vs : List V} (o : Only H) (h : SqL K H a vs) : FrzL K H a vs := by
  rcases h with (h | ⟨ob, h⟩) | h
  · rcases o a with z | ⟨o', xs, z⟩
    · rw [z] at h; cases h
    · rw [z] at h; cases h
  · exact .inl ⟨ob, h⟩
  · exact .inr h
/-- the law's function says True on every script -/
def LawOk (fm : MF) : Prop := ∀ ns : List Int, ns.length ≤ 63 → ∃ h', fm [.ref 0] [.frz (ns.map D.int)] = .ok (.bl true) h'
theorem law_ok {P : Program} {w : World} {K : PySem.W.Frag} {mg : Str → Option Value} {base : Heap} {CX : CXT} {k : Nat} {f : Addr} {fd : FuncData} {ps : List Str} {G : Cf} {fm : MF} (F : FnOk P w K mg base CX k f fd ps (FSp G 1 fm)) (hl : LawOk fm) : FnOk P w K mg base CX k f fd ps (spLaw G fm) :=
  F.imp fun vs H Q E ⟨a, ns, e, l, o, hS, q⟩ => by
    refine ⟨by rw [e]; rfl, [a], [.ref 0], [.frz (ns.map D.int)], ?_, ⟨rfl, ?_, ?_⟩, ?_⟩
    · rw [e]
      exact denL_cons.mpr ⟨_, [], rfl, den_ref.mpr ⟨a, rfl, rfl⟩, by simp⟩
    · intro n m c c' b h1 h2 h3 h4 f1 f2
      have : n = 0 := by
        have := (List.getElem?_eq_some_iff.mp h3).1
        simp at this
        omega
      subst this
      simp at h1
      subst h1
      cases f1
    · intro n c b h1 h2
      have : n = 0 := by
        have := (List.getElem?_eq_some_iff.mp h2).1
        simp at this
        omega
      subst this
      simp at h1 h2
      subst h1 h2
      exact ⟨_, FrzL.of_only o hS, DenL.ofInts⟩
    · obtain ⟨h', e2⟩ := hl ns l
      rw [e2]
      intro et' H' _ _ _ v hv
      rw [den_bl.mp hv]
      exact q H'
end NR

set_option Elab.async false
set_option linter.all false
set_option maxRecDepth 100000
/-! o[i] op= e; callees. -/
namespace NR
open PySem PySem.Spec PyProof.Rows L2
section
variable {X : Cx}
theorem get_list : PGet X (rIxL X.K) := by
  intro pins s σ H x y v u Q I rx ry h
  obtain ⟨p, xs, i, z, rfl, rfl, hq, he, q⟩ := h
  cases rx
  obtain ⟨t, rfl⟩ := ry
  obtain ⟨its, r, pl, hz⟩ := I.list hq
  obtain ⟨j, h1, h2, h3, h4, h5⟩ := atI_get he
  obtain ⟨w, ew, rw'⟩ := r.get h2
  have hl := r.length
  have hn := line63
  have fin : EP X pins σ Q w s := ⟨z, H, I, rw', q⟩
  by_cases h0 : 0 ≤ i
  · have hj : i.toNat = j := by
      rw [seqIndex_of h0 h5] at h1
      exact Option.some.inj h1
    exact wpAny_getItem_list pl.isList h0 (by omega) (by rw [hj]; simpa using ew) fin
  · have hj : (i + (its.toArray.size : Int)).toNat = j := by
      rw [seqIndex_neg (by omega) h4] at h1
      rw [List.size_toArray, ← hl]
      exact Option.some.inj h1
    exact wpAny_getItem_list_neg pl.isList (by omega) (by rw [List.size_toArray] <;> omega) (by omega) (by rw [hj]; simpa using ew) fin
end
/-- a list's item -/
def getL (o i : D) (h : IH) : Option D := match i with
  | .int k => (lstOf h o).bind fun xs => (ixN xs.length k).bind fun j => xs[j]?
  | _ => none
def msAugI (f : D → D → IH → R D) (mo mi me : ME) : MS := fun env h => (mo env h).bindS env fun o h1 => (mi env h1).bindS env fun i h2 => match getL o i h2 with
  | none => .no
  | some x => (me env h2).bindS env fun y h3 => (f x y h3).bindS env fun z h4 => match putD o i z h4 with
    | some h5 => .nx env h5
    | none => .no
section
variable {X : Cx} {G : Cf} {W : WX} {o i e : Expr} {me mo mi : ME} {pos tpos : Pos} {r : R2} {f : D → D → IH → R D} {op : Operator}
theorem getL_ok {et : List Addr} {H : Hp} {h : IH} {x y d : D} {v w : V} {Q : VK} (R : HRel G et h H) (e : getL x y h = some d) (rx : Den G et H x v) (ry : Den G et H y w) (q : ∀ u, Den G et H d u → Q u H) : rIxL G.K v w H Q := by
  unfold getL at e
  split at e
  · rename_i k
    simp only [Option.bind_eq_some_iff] at e
    obtain ⟨xs, e1, e2⟩ := e
    obtain ⟨a, vs, rfl, h1, h2⟩ := lst_ok R e1 rx
    obtain ⟨u, e3, r3⟩ := atI_den h2 (k := k) (by simpa only [Option.bind_eq_some_iff] using e2)
    exact ⟨a, vs, k, u, rfl, den_int.mp ry, h1, e3, q u r3⟩
  · cases e
theorem ms_augI (hK : X.K = G.K) (hop : OpR X (inplaceOp op) r) (hs : OpS G r f) (ho : PE X o (tE G W mo)) (hi : PE X i (tE G W mi)) (he : PE X e (tE G W me))
    (ha : ∀ ov iv new, augStore i ov iv new = (do holding [new, ov, iv] (setItem ov iv new); release [new, ov, iv] []; pure .next) := by intros; rfl) : PS X (.AugAssign (.Subscript o i tpos) op e pos) (tS G W (msAugI f mo mi me)) :=
  PS.imp (ps_augS ho hi get_list he (tip := r) hop set_list ha) fun D σ H ⟨et, env, h, hE, hH, hP⟩ => by
    refine ⟨et, env, h, hE, hH, (PstS.of_bind hE hP).imp fun et1 H1 h1 o p e hr q vo ho => ?_⟩
    have hE1 := hE.mono p e
    refine ⟨et1, env, h1, hE1, hr, (PstS.of_bind hE1 q).imp fun et2 H2 h2 i p2 e2 hr2 q2 vi hi => ?_⟩
    have hE2 := hE1.mono p2 e2
    have ho2 := ho.mono p2 e2
    revert q2
    cases hg : getL o i h2 with
    | none => exact fun q2 => q2.elim
    | some x =>
      intro q2
      dsimp only at q2
      rw [hK]
      refine getL_ok hr2 hg ho2 hi fun vx hx => ?_
      refine ⟨et2, env, h2, hE2, hr2, (PstS.of_bind hE2 q2).imp fun et3 H3 h3 y p3 e3 hr3 q3 vy hy => ?_⟩
      have hE3 := hE2.mono p3 e3
      refine hs et3 H3 h3 x y vx vy _ _ (hx.mono p3 e3) hy hr3 ((PstS.of_bind hE3 q3).imp fun et4 H4 h4 z p4 e4 hr4 q4 vz hz => ?_)
      have hE4 := hE3.mono p4 e4
      revert q4
      cases hp : putD o i z h4 with
      | none => exact fun q4 => q4.elim
      | some h5 =>
        intro q4
        exact put_ok hr4 hp ((ho2.mono p3 e3).mono p4 e4) ((hi.mono p3 e3).mono p4 e4) hz fun H' ex hr5 => q4 et4 H' σ List.prefix_rfl ex hr5 (hE4.mono List.prefix_rfl ex)
end
/-! ### a def by its name -/
structure FnG (P : Program) (w : World) (K : PySem.W.Frag) (mg : Str → Option Value) (base : Heap) (G : Cf) (x : Str) (k n : Nat) (fm : MF) : Prop where
  ex : ∃ f fd ps, FnOk P w K mg base (L2.CX P w) k f fd ps (FSp G n fm) ∧ mg x = some (.ref f) ∧ PySem.W.keepIn K (.ref f) = true ∧ Binds K fd ps []
section
variable {X : Cx} {G : Cf} {W : WX} {k j n : Nat} {fm : MF} {x : Str} {p pos : Pos} {e : Expr} {es : List Expr} {mt : MA}
theorem me_callG (F : FnG X.prog X.w X.K X.mg X.base G x k n fm) (hr : Room j X.A) (hj : k ≤ j) (tk : Takes X W) (ha : PA X (e :: es) (tA G W mt)) (hg : Gl X x := by rfl) (hdb : (x == ("__debug__" : Str)) = false := by decide)
    (he : starEach (e :: es) X.env = (false, eval e X.env) :: starEach es X.env := by rfl) (hpl : (backTo pos (starEach es X.env)).any (·.1) = false := by rfl) : PE X (.Call (.Name x p) (e :: es) [] pos) (tE G W (mCall n fm mt)) := by
  obtain ⟨f, fd, ps, h1, h2, h3, h4⟩ := F.ex
  exact me_call h1 (hr.mono hj) h2 h3 h4 tk ha hg hdb he hpl
theorem me_callG0 (F : FnG X.prog X.w X.K X.mg X.base G x k n fm) (hr : Room j X.A) (hj : k ≤ j) (tk : Takes X W) (hg : Gl X x := by rfl) (hdb : (x == ("__debug__" : Str)) = false := by decide) : PE X (.Call (.Name x p) [] [] pos) (tE G W (mCall n fm mNil)) := by
  obtain ⟨f, fd, ps, h1, h2, h3, h4⟩ := F.ex
  exact me_call0 h1 (hr.mono hj) h2 h3 h4 tk hg hdb
end
/-- what the written part tells of a def -/
structure DefAt (K : PySem.W.Frag) (mg : Str → Option Value) (x : Str) (st : Stmt) (ps : List Str) : Prop where
  ex : ∃ f fd, Fun K x x st f fd ∧ mg x = some (.ref f) ∧ Binds K fd ps []
theorem DefAt.fn {P : Program} {w : World} {K : PySem.W.Frag} {mg : Str → Option Value} {base : Heap} {G : Cf} {x : Str} {st : Stmt} {ps : List Str} {k n : Nat} {fm : MF} (d : DefAt K mg x st ps) (h : ∀ f fd, Fun K x x st f fd → FnOk P w K mg base (L2.CX P w) k f fd ps (FSp G n fm)) : FnG P w K mg base G x k n fm := by
  obtain ⟨f, fd, h1, h2, h3⟩ := d.ex
  exact ⟨f, fd, ps, h f fd h1, h2, h1.kp, h3⟩
end NR

set_option Elab.async false
set_option linter.all false
set_option maxRecDepth 100000
/-! list(x), tuple(x), a, b = e; constants; the end. -/
namespace NR
open PySem PySem.Spec PyProof.Rows L2
section
variable {X : Cx} {G : Cf} {W : WX}
def rListA (K : PySem.W.Frag) : List V → Hp → VK → Prop := fun xs H Q => ∃ p ys, xs = [.ref p] ∧ (SqL K H p ys ∨ SqT K H p ys) ∧ ∀ l, H l = none → Q (.ref l) (upd H l (.lst ys))
def rTupleA (K : PySem.W.Frag) : List V → Hp → VK → Prop := fun xs H Q => ∃ p ys, xs = [.ref p] ∧ ((SqL K H p ys ∧ ∀ l, H l = none → Q (.ref l) (upd H l (.tup ys))) ∨ (SqT K H p ys ∧ Q (.ref p) H))
theorem call_listA : CallR X (.type "list") (rListA X.K) := call_list_of
theorem call_tupleA : CallR X (.type "tuple") (rTupleA X.K) := call_tuple_of
theorem bList_ok : CallS G (rListA G.K) bList := by
  intro et H h xs vs W Q rv R p
  unfold bList at p
  split at p
  · split at p
    · exact p.elim
    · split at p
      · rename_i ys e
        obtain ⟨v, rfl, h1⟩ := list1 rv
        obtain ⟨a, vs, rfl, h2, h3⟩ := seq_ok R e h1
        exact ⟨a, vs, rfl, h2, p.newL R h3⟩
      · exact p.elim
  · exact p.elim
theorem bTuple_ok : CallS G (rTupleA G.K) bTuple := by
  intro et H h xs vs W Q rv R p
  unfold bTuple at p
  split at p
  · split at p
    · exact p.elim
    · obtain ⟨v, rfl, h1⟩ := list1 rv
      obtain ⟨a, vs, rfl, h2, h3⟩ := den_tup.mp h1
      exact ⟨a, vs, rfl, .inr ⟨h2, p.here R _ h1⟩⟩
    · split at p
      · rename_i ys e
        obtain ⟨v, rfl, h1⟩ := list1 rv
        obtain ⟨a, vs, rfl, h2, h3⟩ := lst_ok R e h1
        exact ⟨a, vs, rfl, .inl ⟨h2, p.newT R h3⟩⟩
      · exact p.elim
  · exact p.elim
def msSetT (g : MG) (m : ME) : MS := fun env h => (m env h).bindS env fun d h1 => match g d env with
  | some e => .nx e h1
  | none => .no
theorem ms_setT {es : List Expr} {k : Nat} {e : Expr} {me : ME} {g : MG} {ws : List Nat} {pos pos' : Pos} (he : PE X e (tE G W me)) (hg : PG X (.Tuple es k pos') (tG G ws g)) (hs : swapsWithSole [.Tuple es k pos'] e pos.line X.env = pure false := by rfl) (hw : swappedStores [.Tuple es k pos'] e X.env = pure none := by rfl)
    (h1 : (assignEach [.Tuple es k pos'] X.env).map (·.2) = [assign (.Tuple es k pos') X.env] := by rfl) : PS X (.Assign [.Tuple es k pos'] e pos) (tS G W (msSetT g me)) :=
  PS.imp (ps_asg he hg hs hw h1) fun D σ H ⟨et, env, h, hE, hH, hP⟩ => by
    refine ⟨et, env, h, hE, hH, (PstS.of_bind hE hP).imp fun et1 H1 h1 d p e hr q v hv => ?_⟩
    refine ⟨et1, env, h1, d, hE.mono p e, hr, hv, ?_⟩
    cases hgd : g d env with
    | none => rw [hgd] at q; exact q.elim
    | some e1 =>
      rw [hgd] at q
      exact fun σ' _ hE' => q et1 H1 σ' List.prefix_rfl (Ext.refl _) hr hE'
end
/-- a constant of the top -/
def GlC (mg : Str → Option Value) (x : Str) (d : D) : Prop := ∃ u, OfC d u ∧ mg x = some u
theorem me_globG {X : Cx} {G : Cf} {W : WX} {x : Str} {d : D} {pos : Pos} (g : GlC X.mg x d) (hg : Gl X x := by rfl) (hd : (x == ("__debug__" : Str)) = false := by decide) : PE X (.Name x pos) (tE G W (mC d)) := by
  obtain ⟨u, h1, h2⟩ := g
  exact me_glob d h1 h2 hg hd
theorem glI_of {K : PySem.W.Frag} {h : Heap} {mg : Str → Option Value} {x : Str} {n : Int} {d : D} (X : K.In h) (Gn : h.Ns mainGlobals mg) (g : ∃ t, PySem.W.nsIn K mainGlobals x = some (some (.int n t))) (e : (match d with | .int m => decide (m = n) | _ => false) = true) : GlC mg x d := by
  obtain ⟨t, g⟩ := g
  cases d with
  | int m =>
    have e' : m = n := by simpa using e
    subst e'
    exact ⟨_, ⟨t, rfl⟩, PySem.W.mg_of X Gn g⟩
  | _ => cases e
theorem glS_of {K : PySem.W.Frag} {h : Heap} {mg : Str → Option Value} {x s : Str} {d : D} (X : K.In h) (Gn : h.Ns mainGlobals mg) (g : ∃ t, PySem.W.nsIn K mainGlobals x = some (some (.str s t))) (e : (match d with | .str m => decide (strV m = s) | _ => false) = true) : GlC mg x d := by
  obtain ⟨t, g⟩ := g
  cases d with
  | str m =>
    have e' : strV m = s := by simpa using e
    subst e'
    exact ⟨_, ⟨t, rfl⟩, PySem.W.mg_of X Gn g⟩
  | _ => cases e
theorem cx_no {P : Program} {w : World} {H : Hp} {s : Shared} {e : Value} {s' : Shared} (hx : L2.CX P w [] H s (fun _ _ _ => False) e s') : False := by
  obtain ⟨_, _, _, _, _, _, _, _, _, _, _, _, z⟩ := hx
  exact z
end NR

set_option Elab.async false
set_option linter.all false
set_option maxRecDepth 100000
/-! Texts: list(s), tuple(s), count, find, index of one sign; displays of dicts. -/
namespace NR
open PySem PySem.Spec PyProof.Rows L2
theorem vals_of_get : ∀ {xs : List V} {us : List Value}, xs.length = us.length → (∀ (i : Nat) (x : V) (u : Value), xs[i]? = some x → us[i]? = some u → RelV x u) → Vals xs us
  | [], [], _, _ => .nil
  | [], _ :: _, h, _ => by simp at h
  | _ :: _, [], h, _ => by simp at h
  | x :: xs, u :: us, h, k => .cons (k 0 x u rfl rfl) (vals_of_get (by simpa using h) fun i a b h1 h2 => k (i + 1) a b (by simpa using h1) (by simpa using h2))
def sgD (s : List Nat) : List D := s.map fun c => .str [c]
def sgV (s : List Nat) : List V := s.map fun c => .str (strV [c])
theorem sg_den {G : Cf} {et : List Addr} {H : Hp} : ∀ {s : List Nat}, DenL G et H (sgD s) (sgV s)
  | [] => by simp [sgD, sgV]
  | c :: s => denL_cons.mpr ⟨_, _, rfl, by simp [strV], sg_den⟩
theorem sg_vals {s : List Nat} {acc : Array Value} (h : ItemsOf (SignAt (strV s)) acc (strV s).cps.size) : Vals (sgV s) acc.toList := by
  obtain ⟨h1, h2⟩ := h
  refine vals_of_get ?_ fun i x u hx hu => ?_
  · simp [sgV, strV] at h1 ⊢
    exact h1.symm
  · obtain ⟨c, t, h3, h4⟩ := h2 i u (by simpa using hu)
    subst h4
    have h5 : s[i]? = some c := by simpa [strV] using h3
    unfold sgV at hx
    rw [List.getElem?_map, h5] at hx
    cases hx
    exact ⟨t, rfl⟩
section
variable {X : Cx} {G : Cf} {W : WX}
def rListS : List V → Hp → VK → Prop := fun xs H Q => ∃ z : List Nat, xs = [.str (strV z)] ∧ z.length ≤ 10000000 ∧ ∀ l, H l = none → Q (.ref l) (upd H l (.lst (sgV z)))
def rTupS : List V → Hp → VK → Prop := fun xs H Q => ∃ z : List Nat, xs = [.str (strV z)] ∧ z.length ≤ 10000000 ∧ ∀ l, H l = none → Q (.ref l) (upd H l (.tup (sgV z)))
theorem call_listS (hc : X.calm = true) : CallR X (.type "list") rListS := by
  intro pins s σ H xs us Q I r h
  obtain ⟨z, rfl, hz, q⟩ := h
  obtain ⟨u, rfl, t, rfl⟩ := vals1 r
  refine call_list_str (I.ok.hd hc) (strV z) t (fun h' tk acc c' hk hD hacc => ?_) (by show (strV z).length ≤ _; rw [strV_length]; exact sz hz)
  refine ⟨.ref s.heap.objs.size, upd H s.heap.objs.size (.lst (sgV z)), I.laid (t' := tk) hk (Nat.le_refl _)
    (show ObjOk X.prog X.w _ _ _ (.lst (sgV z)) from ⟨by simp only [sgV, List.length_map]; exact sz hz, acc.toList, c', sg_vals hacc, by rw [Array.toArray_toList]; exact hD⟩), rfl, q _ (I.hok.fresh (Nat.le_refl _))⟩
theorem call_tupS (hc : X.calm = true) : CallR X (.type "tuple") rTupS := by
  intro pins s σ H xs us Q I r h
  obtain ⟨z, rfl, hz, q⟩ := h
  obtain ⟨u, rfl, t, rfl⟩ := vals1 r
  refine call_tuple_str (I.ok.hd hc) (strV z) t (fun h' tk acc hk hacc => ?_) (by show (strV z).length ≤ _; rw [strV_length]; exact sz hz)
  have I1 : Inv X pins σ H { s with heap := h', toks := tk } := I.kept (t' := tk) hk
  refine ⟨.ref h'.objs.size, upd H h'.objs.size (.tup (sgV z)), I1.laid (t' := tk) (fun b o e => Heap.get?_push_of_some _ e) (Nat.le_refl _)
    (show ObjOk X.prog X.w _ _ _ (.tup (sgV z)) from ⟨by simp only [sgV, List.length_map]; exact sz hz, acc.toList, sg_vals hacc, ?_⟩), rfl, q _ (I1.hok.fresh (Nat.le_refl _))⟩
  have := IsTup.new h' acc.toList.toArray
  simpa using this
def bListX : List D → IH → R D
  | [.str s], h => if s.length ≤ 10000000 then .ok (.ref h.length) (h ++ [.lst (sgD s)]) else .no
  | xs, h => bList xs h
def bTupleX : List D → IH → R D
  | [.str s], h => if s.length ≤ 10000000 then .ok (.tup (sgD s)) h else .no
  | xs, h => bTuple xs h
def rListX (K : PySem.W.Frag) : List V → Hp → VK → Prop := fun xs H Q => rListA K xs H Q ∨ rListS xs H Q
def rTupleX (K : PySem.W.Frag) : List V → Hp → VK → Prop := fun xs H Q => rTupleA K xs H Q ∨ rTupS xs H Q
theorem call_listX (hc : X.calm = true) : CallR X (.type "list") (rListX X.K) := CallR.or call_listA (call_listS hc)
theorem call_tupleX (hc : X.calm = true) : CallR X (.type "tuple") (rTupleX X.K) := CallR.or call_tupleA (call_tupS hc)
theorem bListX_ok : CallS G (rListX G.K) bListX := by
  intro et H h xs vs W Q rv R p
  unfold bListX at p
  split at p
  · rename_i s
    obtain ⟨v, rfl, r⟩ := list1 rv
    split at p
    · rename_i l
      exact .inr ⟨s, by rw [den_str.mp r], l, p.newL R sg_den⟩
    · exact p.elim
  · exact .inl (bList_ok et H h xs vs W Q rv R p)
theorem bTupleX_ok : CallS G (rTupleX G.K) bTupleX := by
  intro et H h xs vs W Q rv R p
  unfold bTupleX at p
  split at p
  · rename_i s
    obtain ⟨v, rfl, r⟩ := list1 rv
    split at p
    · rename_i l
      exact .inr ⟨s, by rw [den_str.mp r], l, p.newT R sg_den⟩
    · exact p.elim
  · exact .inl (bTuple_ok et H h xs vs W Q rv R p)
end

/-! ### places of a sign -/
def fnd (c : Nat) : List Nat → Option Nat
  | [] => none
  | d :: s => if d = c then some 0 else (fnd c s).map (· + 1)
theorem fnd_none {c : Nat} : ∀ {s : List Nat}, fnd c s = none ↔ c ∉ s
  | [] => by simp [fnd]
  | d :: s => by
    unfold fnd
    by_cases e : d = c
    · simp [e]
    · rw [if_neg e]
      simp [fnd_none (s := s), Ne.symm e]
theorem fnd_some {c : Nat} : ∀ {s : List Nat} {i : Nat}, fnd c s = some i ↔ s[i]? = some c ∧ ∀ k, k < i → s[k]? ≠ some c
  | [], i => by simp [fnd]
  | d :: s, i => by
    unfold fnd
    by_cases e : d = c
    · rw [if_pos e]
      subst e
      constructor
      · intro h
        cases h
        exact ⟨rfl, fun k hk => absurd hk (Nat.not_lt_zero k)⟩
      · rintro ⟨h1, h2⟩
        cases i with
        | zero => rfl
        | succ i => exact absurd rfl (h2 0 (Nat.succ_pos i))
    · rw [if_neg e]
      cases i with
      | zero =>
        simp only [List.getElem?_cons_zero, Option.some.injEq, e, false_and, iff_false]
        cases fnd c s <;> simp
      | succ i =>
        rw [show (Option.map (· + 1) (fnd c s) = some (i + 1)) ↔ fnd c s = some i by cases fnd c s <;> simp, fnd_some (s := s)]
        constructor
        · rintro ⟨h1, h2⟩
          refine ⟨by simpa using h1, fun k hk => ?_⟩
          cases k with
          | zero => simpa using e
          | succ k => simpa using h2 k (by omega)
        · rintro ⟨h1, h2⟩
          exact ⟨by simpa using h1, fun k hk => by simpa using h2 (k + 1) (by omega)⟩
open Builtin.Str StrLaws in
theorem occ_fnd (s : List Nat) (c : Nat) : (match fnd c s with | some i => ∃ r, occurrences (strV s) (strV [c]) 0 (strV s).length 1 = i :: r | none => occurrences (strV s) (strV [c]) 0 (strV s).length 1 = []) := by
  have at_ : ∀ i, At (strV s) (strV [c]) (strV s).length i ↔ s[i]? = some c := fun i => by
    have := subAt_one (strV s) c i
    simpa [strV, At] using this
  rcases occ_head (strV s) (strV [c]) 1 (Nat.le_refl 1) with ⟨h1, h2⟩ | ⟨i, r, h1, h2, h3⟩
  · have : fnd c s = none := fnd_none.mpr fun hm => by
      obtain ⟨i, hi⟩ := List.mem_iff_getElem?.mp hm
      exact h2 i ((at_ i).mpr hi)
    rw [this]
    exact h1
  · have : fnd c s = some i := fnd_some.mpr ⟨(at_ i).mp h2, fun k hk e => h3 k hk ((at_ k).mpr e)⟩
    rw [this]
    exact ⟨r, h1⟩
open Builtin.Str StrLaws in
theorem occ_go (s : List Nat) (c limit : Nat) : ∀ (l : List Nat) (st : Array Nat × Nat), l.Pairwise (· < ·) → (∀ i ∈ l, st.2 ≤ i) → st.1.size + l.length ≤ limit →
    (forIn l st (occBody (strV s) (strV [c]) (strV s).length limit)).run.fst.toList = st.1.toList ++ l.filter (fun i => decide (s[i]? = some c))
  | [], st, _, _, _ => by simp
  | a :: l, st, hp, hf, hl => by
    have hp' := List.pairwise_cons.mp hp
    have ha : st.2 ≤ a := hf a List.mem_cons_self
    rw [List.length_cons] at hl
    have at_ : (a + (strV [c]).length ≤ (strV s).length ∧ subAt (strV s) (strV [c]) a = true) ↔ s[a]? = some c := by
      have := subAt_one (strV s) c a
      simpa [strV] using this
    rw [List.forIn_cons]
    unfold occBody
    by_cases hc : s[a]? = some c
    · have c1 : ((st.fst.size < limit ∧ st.snd ≤ a) ∧ a + (strV [c]).length ≤ (strV s).length) ∧ subAt (strV s) (strV [c]) a = true := ⟨⟨⟨by omega, ha⟩, (at_.mpr hc).1⟩, (at_.mpr hc).2⟩
      rw [if_pos c1]
      refine (occ_go s c limit l (st.1.push a, a + (strV [c]).length) hp'.2 (fun i hi => ?_) (by simp; omega)).trans ?_
      · have := hp'.1 i hi
        show a + (strV [c]).length ≤ i
        rw [strV_length]
        exact this
      · rw [List.filter_cons, if_pos (by simpa using hc)]
        simp
    · have c2 : ¬ (((st.fst.size < limit ∧ st.snd ≤ a) ∧ a + (strV [c]).length ≤ (strV s).length) ∧ subAt (strV s) (strV [c]) a = true) := fun z => hc (at_.mp ⟨z.1.2, z.2⟩)
      rw [if_neg c2]
      refine (occ_go s c limit l (st.1, st.2) hp'.2 (fun i hi => hf i (List.mem_cons_of_mem _ hi)) (by show st.1.size + l.length ≤ limit; omega)).trans ?_
      rw [List.filter_cons, if_neg (by simpa using hc)]
theorem filter_range (c : Nat) : ∀ (s : List Nat) (n : Nat), s.length ≤ n → ((List.range n).filter (fun i => decide (s[i]? = some c))).length = s.count c
  | [], n, _ => by simp
  | d :: s, 0, h => by simp at h
  | d :: s, n + 1, h => by
    rw [List.range_succ_eq_map, List.filter_cons, List.filter_map]
    have ih := filter_range c s n (by simpa using h)
    have e : ((fun i => decide ((d :: s)[i]? = some c)) ∘ Nat.succ) = fun i => decide (s[i]? = some c) := by funext i; simp
    rw [e]
    by_cases hd : d = c
    · subst hd
      simp [ih]
    · simp [ih, hd]
theorem count_one (s : List Nat) (c : Nat) : Txt.count (strV s) (strV [c]) = (s.count c : Nat) := by
  unfold Txt.count
  rw [StrLaws.occ_eq]
  have h := occ_go s c ((strV s).length + 1) (List.range' 0 ((strV s).length + 1 - 0)) (#[], 0) (List.pairwise_lt_range') (fun _ _ => Nat.zero_le _) (by simp)
  rw [h]
  have e : List.range' 0 ((strV s).length + 1 - 0) = List.range (s.length + 1) := by rw [strV_length, List.range_eq_range']; rfl
  rw [e]
  show (((([] : List Nat) ++ _).length : Nat) : Int) = _
  rw [List.nil_append, filter_range c s _ (by omega)]
theorem find_one (s : List Nat) (c : Nat) : Txt.find (strV s) (strV [c]) = match fnd c s with | some i => (i : Int) | none => -1 := by
  have := occ_fnd s c
  unfold Txt.find
  revert this
  cases fnd c s with
  | none => intro h; rw [h]
  | some i => rintro ⟨r, h⟩; rw [h]
def fCount : D → List D → IH → R D
  | .str s, [.str [c]], h => .ok (.int (s.count c : Nat)) h
  | _, _, _ => .no
def fFind : D → List D → IH → R D
  | .str s, [.str [c]], h => .ok (.int (match fnd c s with | some i => (i : Int) | none => -1)) h
  | _, _, _ => .no
def fIndex : D → List D → IH → R D
  | .str s, [.str [c]], h => match fnd c s with
    | some i => .ok (.int (i : Nat)) h
    | none => .no
  | _, _, _ => .no
section
variable {X : Cx} {G : Cf} {W : WX}
theorem fCount_ok : MethS G (fun x xs H Q => ∃ a b, x = .str a ∧ xs = [.str b] ∧ Q (.int (Txt.count a b)) H) fCount := by
  intro et H h x v xs vs W Q rx rv R p
  unfold fCount at p
  split at p
  · obtain ⟨w, rfl, r⟩ := list1 rv
    exact ⟨_, _, den_str.mp rx, by rw [den_str.mp r], p.here R _ (by rw [count_one]; simp)⟩
  · exact p.elim
theorem fFind_ok : MethS G (fun x xs H Q => ∃ a b, x = .str a ∧ xs = [.str b] ∧ Q (.int (Txt.find a b)) H) fFind := by
  intro et H h x v xs vs W Q rx rv R p
  unfold fFind at p
  split at p
  · obtain ⟨w, rfl, r⟩ := list1 rv
    exact ⟨_, _, den_str.mp rx, by rw [den_str.mp r], p.here R _ (by rw [find_one]; simp)⟩
  · exact p.elim
theorem fIndex_ok : MethS G (fun x xs H Q => ∃ a b i rest, x = .str a ∧ xs = [.str b] ∧ Builtin.Str.occurrences a b 0 a.length 1 = i :: rest ∧ Q (.int (i : Nat)) H) fIndex := by
  intro et H h x v xs vs W Q rx rv R p
  unfold fIndex at p
  split at p
  · rename_i s c
    obtain ⟨w, rfl, r⟩ := list1 rv
    have o := occ_fnd s c
    revert p o
    cases fnd c s with
    | none => exact fun p => p.elim
    | some i =>
      rintro p ⟨rest, o⟩
      exact ⟨_, _, i, rest, den_str.mp rx, by rw [den_str.mp r], o, p.here R _ (by simp)⟩
  · exact p.elim
end

/-! ### displays of dicts: texts and ints as keys -/
def keyD? : D → Option DKey
  | .int i => some (.inl i)
  | .str s => some (.inr s)
  | _ => none
def putKD {κ : Type} [DecidableEq κ] (kvs : List (κ × D)) (k : κ) (v : D) : List (κ × D) := if (kvs.any fun p => decide (p.1 = k)) = true then kvs.map (fun p => if p.1 = k then (p.1, v) else p) else kvs ++ [(k, v)]
def mPr : List (ME × ME) → EV → IH → R (List (D × D))
  | [], _, h => .ok [] h
  | (k, v) :: r, env, h => (k env h).bind fun x h1 => (v env h1).bind fun y h2 => (mPr r env h2).bind fun ps h3 => .ok ((x, y) :: ps) h3
def keyPs : List (D × D) → Option (List (DKey × D))
  | [] => some []
  | p :: r => match keyD? p.1, keyPs r with
    | some k, some l => some ((k, p.2) :: l)
    | _, _ => none
def dkAt (h : IH) (n : Nat) : Bool := match h[n]? with
  | some (.dk []) => true
  | _ => false
def mDict (ps : List (ME × ME)) : ME := fun env h => (mPr ps env (h ++ [.dk []])).bind fun qs h1 => match keyPs qs with
  | some kvs => if kvs.length ≤ 15 ∧ dkAt h1 h.length = true then .ok (.ref h.length) (h1.set h.length (.dk (kvs.foldl (fun acc p => putKD acc p.1 p.2) []))) else .no
  | none => .no
theorem keyV_inj {a b : DKey} (e : keyV a = keyV b) : a = b := by
  cases a <;> cases b <;> simp [keyV] at e
  · rw [e]
  · rw [strV_inj e]
theorem any_keys {κ κ' : Type} [DecidableEq κ] [DecidableEq κ'] {f : κ → κ'} (inj : ∀ a b, f a = f b → a = b) (k : κ) : ∀ {kvs : List (κ × D)} {ws : List (κ' × V)}, ws.map (·.1) = kvs.map (fun p => f p.1) → (ws.any fun p => decide (p.1 = f k)) = kvs.any fun p => decide (p.1 = k)
  | [], [], _ => rfl
  | [], _ :: _, h => by simp at h
  | _ :: _, [], h => by simp at h
  | p :: kvs, q :: ws, h => by
    simp only [List.map_cons, List.cons.injEq] at h
    rw [List.any_cons, List.any_cons, any_keys inj k h.2, h.1]
    congr 1
    exact decide_eq_decide.mpr ⟨inj _ _, fun e => by rw [e]⟩
theorem denK_set {κ κ' : Type} [DecidableEq κ] [DecidableEq κ'] {f : κ → κ'} (inj : ∀ a b, f a = f b → a = b) {G : Cf} {et : List Addr} {H : Hp} {k : κ} {d : D} {v : V} (r : Den G et H d v) : ∀ {kvs : List (κ × D)} {ws : List (κ' × V)}, DenK f G et H kvs ws →
    DenK f G et H (kvs.map fun p => if p.1 = k then (p.1, d) else p) (ws.map fun p => if p.1 = f k then (p.1, v) else p)
  | [], [], _ => ⟨rfl, by simp⟩
  | [], _ :: _, h => by have := h.1; simp at this
  | _ :: _, [], h => by have := h.1; simp at this
  | p :: kvs, q :: ws, h => by
    obtain ⟨h1, h2⟩ := h
    simp only [List.map_cons, List.cons.injEq] at h1
    simp only [List.map_cons] at h2
    obtain ⟨v0, ws0, e0, h3, h4⟩ := denL_cons.mp h2
    simp only [List.cons.injEq] at e0
    obtain ⟨rfl, rfl⟩ := e0
    obtain ⟨i1, i2⟩ := denK_set inj r (kvs := kvs) (ws := ws) ⟨h1.2, h4⟩
    by_cases e : p.1 = k
    · have e' : q.1 = f k := by rw [h1.1, e]
      refine ⟨?_, ?_⟩
      · simp only [List.map_cons, e, e', if_pos]
        rw [i1]
      · simp only [List.map_cons, if_pos e, if_pos e']
        exact denL_cons.mpr ⟨v, _, rfl, r, i2⟩
    · have e' : ¬ q.1 = f k := fun z => e (inj _ _ (h1.1.symm.trans z))
      refine ⟨?_, ?_⟩
      · simp only [List.map_cons, if_neg e, if_neg e']
        rw [i1, h1.1]
      · simp only [List.map_cons, if_neg e, if_neg e']
        exact denL_cons.mpr ⟨q.2, _, rfl, h3, i2⟩
theorem denK_put {κ κ' : Type} [DecidableEq κ] [DecidableEq κ'] {f : κ → κ'} (inj : ∀ a b, f a = f b → a = b) {G : Cf} {et : List Addr} {H : Hp} {k : κ} {d : D} {v : V} (r : Den G et H d v) {kvs : List (κ × D)} {ws : List (κ' × V)} (h : DenK f G et H kvs ws) :
    DenK f G et H (putKD kvs k d) (putK ws (f k) v) := by
  unfold putKD putK
  rw [any_keys inj k h.1]
  split
  · exact denK_set inj r h
  · exact ⟨by simp [h.1], by
      rw [List.map_append, List.map_append]
      exact DenL.app h.2 (denL_cons.mpr ⟨v, [], rfl, r, by simp⟩)⟩
theorem denK_fold {G : Cf} {et : List Addr} {H : Hp} : ∀ {more : List (DKey × D)} {mw : List (Key × V)} {kvs : List (DKey × D)} {ws : List (Key × V)}, DenK keyV G et H more mw → DenK keyV G et H kvs ws → DenK keyV G et H (more.foldl (fun acc p => putKD acc p.1 p.2) kvs) (mergeK ws mw)
  | [], [], _, _, _, h => h
  | [], _ :: _, _, _, h, _ => by have := h.1; simp at this
  | _ :: _, [], _, _, h, _ => by have := h.1; simp at this
  | p :: more, q :: mw, kvs, ws, h, h0 => by
    obtain ⟨h1, h2⟩ := h
    simp only [List.map_cons, List.cons.injEq] at h1
    simp only [List.map_cons] at h2
    obtain ⟨v0, ws0, e0, h3, h4⟩ := denL_cons.mp h2
    simp only [List.cons.injEq] at e0
    obtain ⟨rfl, rfl⟩ := e0
    show DenK keyV G et H (more.foldl _ (putKD kvs p.1 p.2)) (mergeK (putK ws q.1 q.2) mw)
    refine denK_fold ⟨h1.2, h4⟩ ?_
    rw [h1.1]
    exact denK_put (fun a b => keyV_inj) h3 h0
theorem keyPs_ok {G : Cf} {et : List Addr} {H : Hp} : ∀ {ps : List (D × D)} {kvs : List (DKey × D)} {vs : List (V × V)}, keyPs ps = some kvs → DenL G et H (ps.map (·.1)) (vs.map (·.1)) → DenL G et H (ps.map (·.2)) (vs.map (·.2)) → ∃ ws : List (Key × V), vs = ws.map (fun kv => (kV kv.1, kv.2)) ∧ DenK keyV G et H kvs ws
  | [], kvs, [], e, _, _ => by
    simp only [keyPs, Option.some.injEq] at e
    subst e
    exact ⟨[], rfl, rfl, by simp⟩
  | [], _, _ :: _, _, h, _ => by
    have := h.len
    simp at this
  | _ :: _, _, [], _, h, _ => by
    have := h.len
    simp at this
  | p :: ps, kvs, q :: vs, e, h1, h2 => by
    unfold keyPs at e
    split at e
    · rename_i k l e1 e2
      cases e
      simp only [List.map_cons] at h1 h2
      obtain ⟨v0, w0, z0, a1, a2⟩ := denL_cons.mp h1
      simp only [List.cons.injEq] at z0
      obtain ⟨rfl, rfl⟩ := z0
      obtain ⟨v0, w0, z0, b1, b2⟩ := denL_cons.mp h2
      simp only [List.cons.injEq] at z0
      obtain ⟨rfl, rfl⟩ := z0
      obtain ⟨ws, rfl, c1, c2⟩ := keyPs_ok e2 a2 b2
      refine ⟨(keyV k, q.2) :: ws, ?_, ?_, ?_⟩
      · have : q.1 = kV (keyV k) := by
          unfold keyD? at e1
          split at e1
          · rename_i i he; cases e1; rw [he] at a1; exact den_int.mp a1
          · rename_i i he; cases e1; rw [he] at a1; exact den_str.mp a1
          · cases e1
        obtain ⟨q1, q2⟩ := q
        simp only at this
        subst this
        rfl
      · simp [c1]
      · exact denL_cons.mpr ⟨q.2, _, rfl, b1, c2⟩
    · cases e
section
variable {X : Cx} {G : Cf} {W : WX} {pos : Pos}
/-- the pairs of a display -/
structure Prs (X : Cx) (G : Cf) (W : WX) (pos : Pos) (keys : List (Option Expr)) (values : List Expr) (ps : List (ME × ME)) : Prop where
  pp : PPs X pos keys values (ps.map fun p => (tE G W p.1, tE G W p.2))
theorem prs_nil : Prs X G W pos [] [] [] := ⟨pps_nil⟩
theorem prs_cons {k v : Expr} {ks : List (Option Expr)} {vs : List Expr} {mk mv : ME} {ps : List (ME × ME)} (hk : PE X k (tE G W mk)) (hv : PE X v (tE G W mv)) (h : Prs X G W pos ks vs ps) : Prs X G W pos (some k :: ks) (v :: vs) ((mk, mv) :: ps) := ⟨pps_cons hk hv h.pp⟩
theorem tPairs_of {σ : L2.St} : ∀ {ps : List (ME × ME)} {H : Hp} {Q : List (V × V) → Hp → Prop} {et : List Addr} {env : EV} {h : IH}, EnvR G et H env σ → HRel G et h H →
    Pst G et H (mPr ps env h) (fun et' H' h' qs => HRel G et' h' H' → ∀ vs : List (V × V), DenL G et' H' (qs.map (·.1)) (vs.map (·.1)) → DenL G et' H' (qs.map (·.2)) (vs.map (·.2)) → Q vs H') (fun c d H' => W c d σ H') →
    tPairs (ps.map fun p => (tE G W p.1, tE G W p.2)) σ H Q
  | [], H, Q, et, env, h, hE, hH, hP => hP et H List.prefix_rfl (Ext.refl H) hH hH [] (by simp) (by simp)
  | (k, v) :: ps, H, Q, et, env, h, hE, hH, hP => by
    refine ⟨et, env, h, hE, hH, (Pst.of_bind hP).imp fun et1 H1 h1 x p1 e1 hr1 q1 vx hx => ?_⟩
    have hE1 := hE.mono p1 e1
    refine ⟨et1, env, h1, hE1, hr1, (Pst.of_bind q1).imp fun et2 H2 h2 y p2 e2 hr2 q2 vy hy => ?_⟩
    have hE2 := hE1.mono p2 e2
    refine tPairs_of hE2 hr2 ((Pst.of_bind q2).imp fun et3 H3 h3 qs p3 e3 hr3 q3 _ vs a1 a2 => ?_)
    exact q3 et3 H3 List.prefix_rfl (Ext.refl _) hr3 hr3 ((vx, vy) :: vs) (denL_cons.mpr ⟨vx, _, rfl, (hx.mono p2 e2).mono p3 e3, a1⟩) (denL_cons.mpr ⟨vy, _, rfl, hy.mono p3 e3, a2⟩)
theorem me_dict {keys : List (Option Expr)} {values : List Expr} {ps : List (ME × ME)} (h : Prs X G W pos keys values ps) (hall : keys.all (·.isSome) = true := by rfl) (hl : keys.length = values.length := by rfl) (h0 : keys ≠ [] := by exact fun z => nomatch z) (h15 : keys.length ≤ 15 := by decide) :
    PE X (.Dict keys values pos) (tE G W (mDict ps)) := PE.imp (pe_disp h.pp hall hl h0 h15) fun σ H Q ⟨et, env, h, hE, hH, hP⟩ p hp => by
  have hH1 : HRel G (et ++ [p]) (h ++ [.dk []]) (upd H p (.dK [])) := hH.push hp ⟨[], upd_same, rfl, by simp⟩
  have pf : et <+: et ++ [p] := List.prefix_append _ _
  refine tPairs_of (hE.mono pf (Ext.new hp)) hH1 ((Pst.of_bind (Pst.weak pf (Ext.new hp) hP)).imp fun et2 H2 h2 qs p2 e2 hr2 q2 => ?_)
  split at q2
  · rename_i kvs ek
    split at q2
    · rename_i c
      intro _ vs a1 a2
      obtain ⟨ws, rfl, k1⟩ := keyPs_ok ek a1 a2
      have hp2 : et2[h.length]? = some p := by
        obtain ⟨t, rfl⟩ := p2
        rw [List.getElem?_append_left (by simp [hH.len]), ← hH.len]
        simp
      have hc := c.2
      unfold dkAt at hc
      split at hc
      · rename_i hcell
        obtain ⟨w0, c1, c2, c3⟩ := hr2.cell _ _ p hcell hp2
        have w00 : w0 = [] := by simpa using c2
        subst w00
        have hl : ws.length = kvs.length := by have := congrArg List.length k1.1; simpa using this
        refine ⟨c1, ws, rfl, by rw [hl]; exact c.1, ?_⟩
        have hcl : CellOk G et2 (upd H2 p (.dK (mergeK [] ws))) p (.dk (kvs.foldl (fun acc p => putKD acc p.1 p.2) [])) :=
          ⟨_, upd_same, (denK_fold k1 (kvs := []) (ws := []) ⟨rfl, by simp⟩).mono List.prefix_rfl (Ext.mut c1 trivial)⟩
        exact q2 et2 _ List.prefix_rfl (Ext.mut c1 trivial) (hr2.set hcell hp2 rfl c1 trivial hcl) _ (den_ref.mpr ⟨p, hp2, rfl⟩)
      · cases hc
    · exact q2.elim
  · exact q2.elim
theorem me_dict0 : PE X (.Dict [] [] pos) (tE G W (mDict [])) := PE.imp pe_dnewK fun σ H Q ⟨et, env, h, hE, hH, hP⟩ p hp => by
  have hH1 : HRel G (et ++ [p]) (h ++ [.dk []]) (upd H p (.dK [])) := hH.push hp ⟨[], upd_same, rfl, by simp⟩
  have e : mDict [] env h = .ok (.ref h.length) (h ++ [.dk []]) := by
    simp [mDict, mPr, R.bind, keyPs, dkAt]
  rw [e] at hP
  refine hP (et ++ [p]) _ (List.prefix_append _ _) (Ext.new hp) hH1 _ (den_ref.mpr ⟨p, ?_, rfl⟩)
  rw [← hH.len]
  simp
end
end NR

set_option Elab.async false
set_option linter.all false
set_option maxRecDepth 100000
/-! Lists and dicts that are locked: values from then on. -/
namespace NR
open PySem PySem.Spec PyProof.Rows L2
open Classical in
/-- what an expression made anew is locked -/
noncomputable def fzR (h : IH) (r : R D) : R D := match r with
  | .ok (.ref n) h' => match h'[n]? with
    | some (.lst xs) => if h.length ≤ n ∧ D.loL h.length xs = true ∧ okB h.length h h' then .ok (.fl xs) (h'.take h.length) else .ok (.ref n) h'
    | some (.dk kvs) => if h.length ≤ n ∧ D.loL h.length (kvs.map (·.2)) = true ∧ okB h.length h h' then .ok (.fd (kvs.map (·.1)) (kvs.map (·.2))) (h'.take h.length) else .ok (.ref n) h'
    | _ => .ok (.ref n) h'
  | r => r
noncomputable def mFz (m : ME) : ME := fun env h => fzR h (m env h)
/-- a variable's list is locked ahead of a statement -/
def msFz (i : Nat) (b : MS) : MS := fun env h => match env[i]? with
  | some (some (.ref n)) => match h[n]? with
    | some (.lst xs) => b (env.set i (some (.fl xs))) (h.set n (.frz xs))
    | _ => b env h
  | _ => b env h
section
variable {G : Cf} {et et' : List Addr} {H H' : Hp} {h h' : IH}
theorem HRel.lock (R : HRel G et h H) {a : Addr} {o u : HO} (ho : H a = some o) (mu : Mut (some o)) (nin : ∀ (n : Nat) (c : Cell), h[n]? = some c → et[n]? = some a → c.isFrz = true) : HRel G et h (upd H a u) := by
  have ex : Ext H (upd H a u) := Ext.mut ho mu
  refine ⟨R.len, R.nd, fun n c b h1 h2 => ?_⟩
  have old := R.cell n c b h1 h2
  by_cases nb : b = a
  · subst nb
    have hf := nin n c h1 h2
    cases c with
    | frz xs =>
      obtain ⟨vs, h5, h6⟩ := old
      exact ⟨vs, h5.ext ex, h6.mono List.prefix_rfl ex⟩
    | _ => cases hf
  · exact old.mono List.prefix_rfl ex fun w e => by rw [upd_ne nb]; exact e
/-- a new cell is locked and forgotten -/
theorem HRel.lockNew {R0 : HRel G et h H} (R : HRel G et' h' H') (p : et <+: et') {n : Nat} {a : Addr} {c : Cell} {o u : HO} (hn : h'[n]? = some c) (ha : et'[n]? = some a) (f : c.isFrz = false) (ho : H' a = some o) (mu : Mut (some o)) (ln : h.length ≤ n)
    (ok : okB h.length h h') : HRel G et (h'.take h.length) (upd H' a u) := by
  have al := okB_all R0 ok
  have R1 := R.cut p al
  rw [R0.len] at R1
  refine R1.lock ho mu fun m c' h1 h2 => ?_
  have hm : m < h.length := by
    have := (List.getElem?_eq_some_iff.mp h1).1
    rw [List.length_take] at this
    omega
  rw [List.getElem?_take_of_lt hm] at h1
  obtain ⟨t, rfl⟩ := p
  have h3 : (et ++ t)[m]? = some a := by
    rw [List.getElem?_append_left (by rw [R0.len]; exact hm)]
    exact h2
  cases hf : c'.isFrz with
  | true => rfl
  | false =>
    have := R.nd m n c' c a h1 hn h3 ha hf f
    omega
end
section
variable {X : Cx} {G : Cf} {W : WX} {e : Expr} {m : ME} {st : Stmt} {b : MS}
theorem me_fz (he : PE X e (tE G W m)) : PE X e (tE G W (mFz m)) := ⟨fun pins s σ H Q I ⟨et, env, h, hE, hH, hP⟩ => by
  have main : Pst G et H (m env h) (fun et' H' _ d => ∀ v, Den G et' H' d v → Q v H' ∨ ∃ a u, H' a = some u ∧ Mut (some u) ∧ ∀ od, Q v (upd H' a (.frz od u))) (fun c d H' => W c d σ H') := by
    have hP : Pst G et H (fzR h (m env h)) _ _ := hP
    revert hP
    cases m env h with
    | no => exact fun z => z
    | ex c d h' => exact fun z => z
    | ok d h' =>
      intro hP
      have dull : Pst G et H (.ok d h') (fun et' H' _ d => ∀ v, Den G et' H' d v → Q v H') (fun c d H' => W c d σ H') → Pst G et H (.ok d h') (fun et' H' _ d => ∀ v, Den G et' H' d v → Q v H' ∨ ∃ a u, H' a = some u ∧ Mut (some u) ∧ ∀ od, Q v (upd H' a (.frz od u))) (fun c d H' => W c d σ H') := fun z => z.imp fun et1 H1 h1 a p e hr q v hv => .inl (q v hv)
      unfold fzR at hP
      split at hP
      · rename_i n h2 heq
        cases heq
        split at hP
        · rename_i xs hx
          split at hP
          · rename_i c
            intro et' H' p e hr v hv
            obtain ⟨a, ha, rfl⟩ := den_ref.mp hv
            obtain ⟨vs, k1, k2⟩ := hr.cell n _ a hx ha
            refine .inr ⟨a, .lst vs, k1, True.intro, fun od => ?_⟩
            have hr2 : HRel G et (h'.take h.length) (upd H' a (.frz od (.lst vs))) := HRel.lockNew (R0 := hH) hr p hx ha rfl k1 True.intro c.1 c.2.2
            have ex : Ext H' (upd H' a (.frz od (.lst vs))) := Ext.mut k1 True.intro
            have lo := c.2.1
            rw [← hH.len] at lo
            exact hP et _ List.prefix_rfl (e.trans ex) hr2 _ (den_fl.mpr ⟨a, vs, rfl, ⟨od, upd_same⟩, (k2.back p lo).mono List.prefix_rfl ex⟩)
          · exact dull hP
        · rename_i xs hx
          split at hP
          · rename_i c
            intro et' H' p e hr v hv
            obtain ⟨a, ha, rfl⟩ := den_ref.mp hv
            obtain ⟨ws, k1, k2, k3⟩ := hr.cell n _ a hx ha
            refine .inr ⟨a, .dK ws, k1, True.intro, fun od => ?_⟩
            have hr2 : HRel G et (h'.take h.length) (upd H' a (.frz od (.dK ws))) := HRel.lockNew (R0 := hH) hr p hx ha rfl k1 True.intro c.1 c.2.2
            have ex : Ext H' (upd H' a (.frz od (.dK ws))) := Ext.mut k1 True.intro
            have lo := c.2.1
            rw [← hH.len] at lo
            exact hP et _ List.prefix_rfl (e.trans ex) hr2 _ (den_fd.mpr ⟨a, ws, rfl, ⟨od, upd_same⟩, by rw [k2, List.map_map]; rfl, (k3.back p lo).mono List.prefix_rfl ex⟩)
          · exact dull hP
        · exact dull hP
      · exact dull hP
  refine thn (he.run pins s σ H _ I ⟨et, env, h, hE, hH, main⟩) fun v s1 ⟨x, H1, I1, r, q⟩ => ?_
  rcases q with q | ⟨a, u, k1, mu, q⟩
  · exact ⟨x, H1, I1, r, q⟩
  · obtain ⟨od, I2⟩ := I1.lock k1 mu
    exact ⟨x, _, I2, r, q od⟩⟩
theorem ms_fz (i : Nat) (hs : PS X st (tS G W b)) : PS X st (tS G W (msFz i b)) := ⟨fun pins s σ H D I ⟨et, env, h, hE, hH, hP⟩ => by
  unfold msFz at hP
  split at hP
  · rename_i n he
    split at hP
    · rename_i xs hx
      obtain ⟨v, e1, r⟩ := hE.2 i _ he
      obtain ⟨a, ha, rfl⟩ := den_ref.mp r
      obtain ⟨vs, k1, k2⟩ := hH.cell n _ a hx ha
      obtain ⟨od, I1⟩ := I.lock k1 True.intro
      have ex : Ext H (upd H a (.frz od (.lst vs))) := Ext.mut k1 True.intro
      have hf : DenL G et (upd H a (.frz od (.lst vs))) xs vs := k2.mono List.prefix_rfl ex
      have hE1 := (hE.mono (et' := et) List.prefix_rfl ex).set i (den_fl.mpr ⟨a, vs, rfl, ⟨od, upd_same⟩, hf⟩)
      have es : σ.set i (some (.ref a)) = σ := by
        apply List.ext_getElem?
        intro j
        by_cases hj : i = j
        · subst hj
          rw [List.getElem?_set_self (List.getElem?_eq_some_iff.mp e1).1, e1]
        · rw [List.getElem?_set_ne hj]
      rw [es] at hE1
      have hc : CellOk G et (upd H a (.frz od (.lst vs))) a (.frz xs) := ⟨vs, .inl ⟨od, upd_same⟩, hf⟩
      exact hs.run pins s σ _ D I1 ⟨et, _, _, hE1, hH.set hx ha rfl k1 True.intro hc, hP.weak List.prefix_rfl ex⟩
    · exact hs.run pins s σ H D I ⟨et, env, h, hE, hH, hP⟩
  · exact hs.run pins s σ H D I ⟨et, env, h, hE, hH, hP⟩⟩
theorem ms_setF {i : Nat} (hs : PS X st (tS G W (msSet i m))) : PS X st (tS G W (msSet i (mFz m))) := ⟨fun pins s σ H D I ⟨et, env, h, hE, hH, hP⟩ => by
  have main : PstS G et H (msSet i m env h) { D with nx := fun σ' H' => D.nx σ' H' ∨ ∃ a u, H' a = some u ∧ Mut (some u) ∧ ∀ od, D.nx σ' (upd H' a (.frz od u)) } W := by
    have hP : PstS G et H ((fzR h (m env h)).bindS env fun d h1 => .nx (env.set i (some d)) h1) D W := hP
    show PstS G et H ((m env h).bindS env fun d h1 => .nx (env.set i (some d)) h1) _ W
    revert hP
    cases m env h with
    | no => exact fun z => z
    | ex c d h' => exact fun z => z
    | ok d h' =>
      intro hP
      have dull : PstS G et H (.nx (env.set i (some d)) h') D W → PstS G et H (.nx (env.set i (some d)) h') { D with nx := fun σ' H' => D.nx σ' H' ∨ ∃ a u, H' a = some u ∧ Mut (some u) ∧ ∀ od, D.nx σ' (upd H' a (.frz od u)) } W := fun z et1 H1 σ1 p e r E => .inl (z et1 H1 σ1 p e r E)
      have slots : ∀ {n : Nat} {et' : List Addr} {H' : Hp} {σ' : L2.St} {a : Addr} {d' : NR.D} {H2 : Hp}, EnvR G et' H' (env.set i (some (.ref n))) σ' → et <+: et' → et'[n]? = some a → Ext H' H2 → Den G et H2 d' (.ref a) → EnvR G et H2 (env.set i (some d')) σ' := fun {n et' H' σ' a d' H2} E p ha ex r => by
        refine ⟨by have := E.1; simpa using this, fun j d'' q => ?_⟩
        by_cases hj : i = j
        · subst hj
          by_cases hl : i < env.length
          · rw [List.getElem?_set_self hl] at q
            cases q
            obtain ⟨v, e1, r1⟩ := E.2 i (.ref n) (by rw [List.getElem?_set_self hl])
            obtain ⟨b, hb, rfl⟩ := den_ref.mp r1
            rw [ha] at hb
            cases hb
            exact ⟨_, e1, r⟩
          · rw [List.getElem?_eq_none (by simp; omega)] at q
            cases q
        · rw [List.getElem?_set_ne hj] at q
          obtain ⟨v0, _, r0⟩ := hE.2 j d'' q
          obtain ⟨v, e1, r1⟩ := E.2 j d'' (by rw [List.getElem?_set_ne hj]; exact q)
          exact ⟨v, e1, (r1.back p r0.lo).mono List.prefix_rfl ex⟩
      unfold fzR at hP
      split at hP
      · rename_i n h2 heq
        cases heq
        split at hP
        · rename_i xs hx
          split at hP
          · rename_i c
            intro et' H' σ' p e hr E
            obtain ⟨a, ha⟩ := hr.addr hx
            obtain ⟨vs, k1, k2⟩ := hr.cell n _ a hx ha
            refine .inr ⟨a, .lst vs, k1, True.intro, fun od => ?_⟩
            have hr2 : HRel G et (h'.take h.length) (upd H' a (.frz od (.lst vs))) := HRel.lockNew (R0 := hH) hr p hx ha rfl k1 True.intro c.1 c.2.2
            have ex : Ext H' (upd H' a (.frz od (.lst vs))) := Ext.mut k1 True.intro
            have lo := c.2.1
            rw [← hH.len] at lo
            exact hP et _ σ' List.prefix_rfl (e.trans ex) hr2 (slots E p ha ex (den_fl.mpr ⟨a, vs, rfl, ⟨od, upd_same⟩, (k2.back p lo).mono List.prefix_rfl ex⟩))
          · exact dull hP
        · rename_i xs hx
          split at hP
          · rename_i c
            intro et' H' σ' p e hr E
            obtain ⟨a, ha⟩ := hr.addr hx
            obtain ⟨ws, k1, k2, k3⟩ := hr.cell n _ a hx ha
            refine .inr ⟨a, .dK ws, k1, True.intro, fun od => ?_⟩
            have hr2 : HRel G et (h'.take h.length) (upd H' a (.frz od (.dK ws))) := HRel.lockNew (R0 := hH) hr p hx ha rfl k1 True.intro c.1 c.2.2
            have ex : Ext H' (upd H' a (.frz od (.dK ws))) := Ext.mut k1 True.intro
            have lo := c.2.1
            rw [← hH.len] at lo
            exact hP et _ σ' List.prefix_rfl (e.trans ex) hr2 (slots E p ha ex (den_fd.mpr ⟨a, ws, rfl, ⟨od, upd_same⟩, by rw [k2, List.map_map]; rfl, (k3.back p lo).mono List.prefix_rfl ex⟩))
          · exact dull hP
        · exact dull hP
      · exact dull hP
  refine thn (hs.run pins s σ H _ I ⟨et, env, h, hE, hH, main⟩) fun f s1 q => ?_
  cases f with
  | next =>
    obtain ⟨σ', H', I2, q⟩ := q
    rcases q with q | ⟨a, u, k1, mu, q⟩
    · exact ⟨σ', H', I2, q⟩
    · obtain ⟨od, I3⟩ := I2.lock k1 mu
      exact ⟨σ', _, I3, q od⟩
  | brk => exact q
  | cont => exact q
  | ret v => exact q⟩
end
end NR

set_option Elab.async false
set_option linter.all false
set_option maxRecDepth 100000
/-! Exceptions: raise, try .. except X (as e), isinstance of what is caught. -/
namespace NR
open PySem PySem.Spec PyProof.Rows L2
/-- classes by their names -/
def clOf (l : List (Str × Addr)) (s : Str) : Addr := (l.lookup s).getD 0
/-- ValueError, or an own class -/
def clV (cl : Str → Addr) (y : Str) : V := if y = "ValueError" then .ty "ValueError" else .ref (cl y)
def clU (cl : Str → Addr) (y : Str) : Value := if y = "ValueError" then .type "ValueError" else .ref (cl y)
abbrev CTab := List ((Str × Str) × Bool)
def CTab.get (t : CTab) (c y : Str) : Option Bool := t.lookup (c, y)
/-- an own class over ValueError, without __init__ -/
structure ExC1 (K : PySem.W.Frag) (mg : Str → Option Value) (x : Str) (C : Addr) : Prop where
  g : mg x = some (.ref C)
  q : PySem.W.excIn K C [.type "ValueError", .type "Exception", .type "BaseException", .type "object"] "ValueError.__new__" = true
  k : PySem.W.keepIn K (.ref C) = true
  b : PySem.W.subIn K (.ref C) (.type "BaseException") = some true
  t : PySem.W.typeIn K (.ref C) = some (.type "type")
  e : ExcC K C
/-- pairs of classes: is the one under the other (as a clause asks, as isinstance asks) -/
def ExH (K : PySem.W.Frag) (cl : Str → Addr) (t : CTab) : Prop := ∀ p ∈ t, PySem.W.exmOne K (.ref (cl p.1.1)) (clU cl p.1.2) = some p.2
def ExI (K : PySem.W.Frag) (cl : Str → Addr) (t : CTab) : Prop := ∀ p ∈ t, PySem.W.kitOne K (.ref (cl p.1.1)) (clU cl p.1.2) = some p.2 ∧ ExcC K (cl p.1.1)
theorem exH_nil {K : PySem.W.Frag} {cl : Str → Addr} : ExH K cl [] := fun _ h => by cases h
theorem exH_cons {K : PySem.W.Frag} {cl : Str → Addr} {t : CTab} {p : (Str × Str) × Bool} (h : PySem.W.exmOne K (.ref (cl p.1.1)) (clU cl p.1.2) = some p.2) (r : ExH K cl t) : ExH K cl (p :: t) := fun q hq => by
  rcases List.mem_cons.mp hq with rfl | hq
  · exact h
  · exact r q hq
theorem exI_nil {K : PySem.W.Frag} {cl : Str → Addr} : ExI K cl [] := fun _ h => by cases h
theorem exI_cons {K : PySem.W.Frag} {cl : Str → Addr} {t : CTab} {p : (Str × Str) × Bool} (h : PySem.W.kitOne K (.ref (cl p.1.1)) (clU cl p.1.2) = some p.2) (e : ExcC K (cl p.1.1)) (r : ExI K cl t) : ExI K cl (p :: t) := fun q hq => by
  rcases List.mem_cons.mp hq with rfl | hq
  · exact ⟨h, e⟩
  · exact r q hq
theorem CTab.mem : ∀ {t : CTab} {c y : Str} {b : Bool}, t.get c y = some b → ((c, y), b) ∈ t
  | [], _, _, _, h => by simp [CTab.get] at h
  | (k, v) :: t, c, y, b, h => by
    unfold CTab.get at h
    rw [List.lookup_cons] at h
    split at h
    · rename_i e
      cases h
      have := eq_of_beq e
      rw [← this]
      exact List.mem_cons_self
    · exact List.mem_cons_of_mem _ (CTab.mem (t := t) h)
theorem ExH.get {K : PySem.W.Frag} {cl : Str → Addr} {t : CTab} (x : ExH K cl t) {c y : Str} {b : Bool} (h : t.get c y = some b) : PySem.W.exmOne K (.ref (cl c)) (clU cl y) = some b := x _ (CTab.mem h)
theorem ExI.get {K : PySem.W.Frag} {cl : Str → Addr} {t : CTab} (x : ExI K cl t) {c y : Str} {b : Bool} (h : t.get c y = some b) : PySem.W.kitOne K (.ref (cl c)) (clU cl y) = some b ∧ ExcC K (cl c) := x _ (CTab.mem h)

theorem kit_ref {K : PySem.W.Frag} {C D : Addr} {b : Bool} (hdct : PySem.W.hasDictIn K C = true) (ht : PySem.W.typeIn K (.ref C) = some (.type "type")) (h : PySem.W.subIn K (.ref D) (.ref C) = some b) (h0 : PySem.W.subIn K (.ref C) (.ref C) = some true) : PySem.W.kitOne K (.ref D) (.ref C) = some b := by
  obtain ⟨cd, hc, _⟩ := PySem.W.any_some hdct
  unfold PySem.W.kitOne
  split
  · rename_i e
    have := eq_of_beq e
    cases this
    rw [h0] at h
    exact h
  · unfold PySem.W.kitCls
    dsimp only
    rw [hc, ht]
    exact h
theorem kit_val {K : PySem.W.Frag} {D : Addr} {b : Bool} (h : PySem.W.subIn K (.ref D) (.type "ValueError") = some b) : PySem.W.kitOne K (.ref D) (.type "ValueError") = some b := by
  unfold PySem.W.kitOne
  split
  · rename_i e
    have := eq_of_beq e
    cases this
  · unfold PySem.W.kitCls
    dsimp only
    rw [if_pos (by decide +kernel)]
    exact h
/-! ### raise -/
def msRaise (x : Str) : MS := fun env h => .ex x none env h
section
variable {X : Cx} {G : Cf} {W : WX}
theorem ms_raise {x m : Str} {j : Nat} {p p2 pos pos2 : Pos} (hc : X.calm = true) (tk : Takes X W) (F : ExC1 X.K X.mg x (G.C x)) (hg : Gl X x := by rfl) (hdb : (x == ("__debug__" : Str)) = false := by decide) :
    PS X (.Raise (some (.Call (.Name x p) [.Constant (.str m) j p2] [] pos)) none pos2) (tS G W (msRaise x)) :=
  PS.imp (ps_raise hc tk (pmk_own PySem.F.excBase_ValueError F.q F.g F.k (raises_own F.b F.t) hg hdb)) fun D σ H ⟨et, env, h, hE, hH, hP⟩ =>
    hP et H σ _ none List.prefix_rfl (Ext.refl H) hH hE ⟨rfl, rfl⟩
end
/-! ### isinstance in a suite -/
def rIsET (K : PySem.W.Frag) (D a : Addr) : List V → Hp → VK → Prop := fun xs H Q => ∃ (tp : Addr) (cs : List V) (us : List Value) (b : Bool), xs = [.ref a, .ref tp] ∧ H tp = some (.tup cs) ∧ Paired ClsV cs us ∧ PySem.W.kitAny K (.ref D) us = some b ∧ Q (.bl b) H
theorem call_isET {X : Cx} {a D : Addr} {oe : Obj} {pn : List (Addr × Obj)} (C : ExcC X.K D) (hz : Zc (.ref D) none oe) (hf : ∃ vs, oe.data = .fields vs) : CallR (X.suite a ((a, oe) :: pn)) (.builtin "isinstance") (rIsET X.K D a) := by
  intro pins s σ H xs us Q I r h
  obtain ⟨tp, cs, ws, b, rfl, hT, k, e, q⟩ := h
  obtain ⟨u1, u2, rfl, r1, r2⟩ := vals2 r
  cases (show u2 = Value.ref tp from r2)
  cases (show u1 = Value.ref a from r1)
  obtain ⟨hget, _⟩ := I.pin (a, oe) (List.mem_append.mpr (.inl List.mem_cons_self))
  obtain ⟨vs, hv⟩ := hf
  have J : PySem.W.InstAt s.heap a oe D none := by
    obtain ⟨oc, od, oda, osl⟩ := oe
    obtain ⟨h1, h2⟩ := hz
    dsimp only at h1 h2 hv
    subst h1 h2 hv
    exact ⟨hget, rfl, rfl, trivial⟩
  obtain ⟨_, its, rv, o, h1, h2, n, h3⟩ := (show ObjOk _ _ H s.heap tp (.tup cs) from I.hok tp _ hT)
  have e3 := ClsV.all k rv
  subst e3
  obtain ⟨oc, od, dt, sl⟩ := o
  simp only at h2 h3
  subst h2 h3
  exact PySem.W.kia_tup (PySem.W.handS_kitx_exc C.hg C.hk C.hs C.hd C.ha C.hn C.ht C.hm) I.kIn J h1 e (fun z => nomatch z) fun tk => ⟨.bl b, H, I.kept (t' := tk) fun _ _ z => z, rfl, q⟩
theorem pe_no {X : Cx} {G : Cf} {W : WX} {e : Expr} {m : ME} (h0 : ∀ env h, m env h = .no) : PE X e (tE G W m) := ⟨fun _ _ _ _ _ _ ⟨et, env, h, _, _, hP⟩ => by
  rw [h0] at hP
  exact hP.elim⟩
def mIsE (t : CTab) (c : Str) (a i : Nat) (y : Str) : ME := fun env h => match env[i]? with
  | some (some (.exc a')) => if a' = a then (match t.get c y with | some b => .ok (.bl b) h | none => .no) else .no
  | _ => .no
def mIsET (t : CTab) (c : Str) (a i : Nat) (ys : List Str) : ME := fun env h => match env[i]? with
  | some (some (.exc a')) => if a' = a then (match allM' (t.get c) ys with | some bs => .ok (.bl (bs.any id)) h | none => .no) else .no
  | _ => .no
where allM' (f : Str → Option Bool) : List Str → Option (List Bool)
  | [] => some []
  | y :: ys => match f y, allM' f ys with
    | some b, some bs => some (b :: bs)
    | _, _ => none
/-- the classes that a tuple names -/
inductive CNs (X : Cx) (cl : Str → Addr) : List Str → List Expr → Prop
  | nil : CNs X cl [] []
  | own {y : Str} {ys : List Str} {es : List Expr} {p : Pos} (hg : Gl X y) (hm : X.mg y = some (.ref (cl y))) (hn : y ≠ "ValueError") (hd : (y == ("__debug__" : Str)) = false) (h : CNs X cl ys es) : CNs X cl (y :: ys) (.Name y p :: es)
  | val {ys : List Str} {es : List Expr} {p : Pos} (hg : Gl X "ValueError") (hm : X.mg "ValueError" = none) (h : CNs X cl ys es) : CNs X cl ("ValueError" :: ys) (.Name "ValueError" p :: es)
section
variable {X : Cx} {cl : Str → Addr}
theorem clV_own {y : Str} (hn : y ≠ "ValueError") : clV cl y = .ref (cl y) := by unfold clV; rw [if_neg hn]
theorem clU_own {y : Str} (hn : y ≠ "ValueError") : clU cl y = .ref (cl y) := by unfold clU; rw [if_neg hn]
theorem clV_val : clV cl "ValueError" = .ty "ValueError" := if_pos rfl
theorem clU_val : clU cl "ValueError" = .type "ValueError" := if_pos rfl
theorem clV_U (y : Str) : ClsV (clV cl y) (clU cl y) := by
  unfold clV clU
  split
  · exact .ty _
  · exact .own _
theorem CNs.pa : ∀ {ys : List Str} {es : List Expr}, CNs X cl ys es → PA X es (fun _ H Q => Q (ys.map (clV cl)) H)
  | [], _, .nil => pa_nil
  | _ :: _, _, .own (y := y) hg hm hn hd h => ⟨fun pos pins s σ H Q I q => (pa_cons (pe_glob (v := .ref (cl y)) hg hm rfl hd) h.pa rfl).run pos pins s σ H Q I (by rw [List.map_cons, clV_own hn] at q; exact q)⟩
  | _ :: _, _, .val hg hm h => ⟨fun pos pins s σ H Q I q => (pa_cons (pe_bltn (v := .ty "ValueError") hg hm (by decide +kernel : bootBuiltins "ValueError" = some (.type "ValueError")) rfl) h.pa rfl).run pos pins s σ H Q I (by rw [List.map_cons, clV_val] at q; exact q)⟩
theorem CNs.len : ∀ {ys : List Str} {es : List Expr}, CNs X cl ys es → es.length = ys.length
  | [], _, .nil => rfl
  | _ :: _, _, .own _ _ _ _ h => by simp [h.len]
  | _ :: _, _, .val _ _ h => by simp [h.len]
theorem paired_cls : ∀ ys : List Str, Paired ClsV (ys.map (clV cl)) (ys.map (clU cl))
  | [] => .nil
  | y :: ys => .cons (clV_U y) (paired_cls ys)
theorem kitAny_of {K : PySem.W.Frag} {t : CTab} {c : Str} (F : ExI K cl t) : ∀ {ys : List Str} {bs : List Bool}, mIsET.allM' (t.get c) ys = some bs → PySem.W.kitAny K (.ref (cl c)) (ys.map (clU cl)) = some (bs.any id)
  | [], bs, e => by
    simp only [mIsET.allM', Option.some.injEq] at e
    subst e
    rfl
  | y :: ys, bs, e => by
    unfold mIsET.allM' at e
    split at e
    · rename_i b bs' e1 e2
      cases e
      rw [List.map_cons]
      unfold PySem.W.kitAny
      rw [(F.get e1).1]
      cases b with
      | true => simp
      | false =>
        dsimp only
        rw [kitAny_of F e2]
        simp
    · cases e
end
section
variable {X : Cx} {G : Cf} {W : WX} {a : Addr} {oe : Obj} {pn : List (Addr × Obj)} {p p1 p2 pos : Pos}
theorem me_isE {t : CTab} {c y n : Str} (i : Nat) (hz : Zc (.ref (G.C c)) none oe) (hf : ∃ vs, oe.data = .fields vs) (F : ExI X.K G.C t) (hm : X.mg "isinstance" = none) (hy : CNs (X.suite a ((a, oe) :: pn)) G.C [y] [.Name y p2])
    (hN : X.N[i]? = some n := by rfl) (hv : Vis X.env.scope n := by first | exact Or.inl rfl | exact Or.inr (Or.inl rfl) | exact Or.inr (Or.inr rfl)) (hg : Gl X "isinstance" := by rfl) (hd : (n == ("__debug__" : Str)) = false := by decide) (hcd : (n == ("__classdict__" : Str)) = false := by decide) (hb : bootBuiltins "isinstance" = some (.builtin "isinstance") := by decide +kernel)
    (hs1 : starEach [.Name n p1, .Name y p2] X.env = (false, eval (.Name n p1) X.env) :: starEach [.Name y p2] X.env := by rfl) (hpl : (backTo pos (starEach [.Name y p2] X.env)).any (·.1) = false := by rfl) :
    PE (X.suite a ((a, oe) :: pn)) (.Call (.Name "isinstance" p) [.Name n p1, .Name y p2] [] pos) (tE G W (mIsE t c a i y)) := by
  cases hg0 : t.get c y with
  | none =>
    refine pe_no fun env h => ?_
    unfold mIsE
    split
    · split
      · rw [hg0]
      · rfl
    · rfl
  | some b0 =>
  have C := (F.get hg0).2
  exact PE.imp (pe_callB (X := X.suite a ((a, oe) :: pn)) (call_isE C hz hf) hg hm hb (pa_cons (pe_var (X := X.suite a ((a, oe) :: pn)) hN hv hd hcd) hy.pa hs1) (by decide) (by decide) hs1 hpl) fun σ H Q ⟨et, env, h, hE, hH, hP⟩ => by
    unfold mIsE at hP
    split at hP
    · rename_i a' ha
      obtain ⟨v, e1, r⟩ := hE.2 i _ ha
      have ev : v = .ref a' := by simpa [Den] using r
      subst ev
      split at hP
      · rename_i ea
        subst ea
        split at hP
        · rename_i b hb
          exact ⟨_, e1, clV G.C y, clU G.C y, b, rfl, fun u ru => ClsV.eq (clV_U y) ru, (F.get hb).1, hP.here hH _ (by simp)⟩
        · exact hP.elim
      · exact hP.elim
    · exact hP.elim
theorem me_isET {t : CTab} {c n : Str} {ys : List Str} {es : List Expr} {k : Nat} (i : Nat) (hz : Zc (.ref (G.C c)) none oe) (hf : ∃ vs, oe.data = .fields vs) (F : ExI X.K G.C t) (hm : X.mg "isinstance" = none) (hy : CNs (X.suite a ((a, oe) :: pn)) G.C ys es)
    (hN : X.N[i]? = some n := by rfl) (hv : Vis X.env.scope n := by first | exact Or.inl rfl | exact Or.inr (Or.inl rfl) | exact Or.inr (Or.inr rfl)) (hl : ys.length ≤ 1000 := by decide) (hl0 : ys.length ≠ 0 := by decide) (hg : Gl X "isinstance" := by rfl) (hd : (n == ("__debug__" : Str)) = false := by decide) (hcd : (n == ("__classdict__" : Str)) = false := by decide) (hb : bootBuiltins "isinstance" = some (.builtin "isinstance") := by decide +kernel)
    (hs1 : starEach [.Name n p1, .Tuple es k p2] X.env = (false, eval (.Name n p1) X.env) :: starEach [.Tuple es k p2] X.env := by rfl) (hs2 : starEach [.Tuple es k p2] X.env = (false, eval (.Tuple es k p2) X.env) :: starEach [] X.env := by rfl) (hpl : (backTo pos (starEach [.Tuple es k p2] X.env)).any (·.1) = false := by rfl) :
    PE (X.suite a ((a, oe) :: pn)) (.Call (.Name "isinstance" p) [.Name n p1, .Tuple es k p2] [] pos) (tE G W (mIsET t c a i ys)) := by
  cases hg0 : mIsET.allM' (t.get c) ys with
  | none =>
    refine pe_no fun env h => ?_
    unfold mIsET
    split
    · split
      · rw [hg0]
      · rfl
    · rfl
  | some bs0 =>
  rcases Nat.eq_zero_or_pos ys.length with h0 | h0
  · exact absurd h0 hl0
  have C : ExcC X.K (G.C c) := by
    cases ys with
    | nil => exact absurd rfl hl0
    | cons y ys =>
      unfold mIsET.allM' at hg0
      split at hg0
      · rename_i b bs e1 e2
        exact (F.get e1).2
      · cases hg0
  exact PE.imp (pe_callB (X := X.suite a ((a, oe) :: pn)) (call_isET C hz hf) hg hm hb (pa_cons (pe_var (X := X.suite a ((a, oe) :: pn)) hN hv hd hcd) (pa_cons (pe_tup hy.pa) pa_nil hs2) hs1) (by decide) (by decide) hs1 hpl) fun σ H Q ⟨et, env, h, hE, hH, hP⟩ => by
    unfold mIsET at hP
    split at hP
    · rename_i a' ha
      obtain ⟨v, e1, r⟩ := hE.2 i _ ha
      have ev : v = .ref a' := by simpa [Den] using r
      subst ev
      split at hP
      · rename_i ea
        subst ea
        split at hP
        · rename_i bs hb
          refine ⟨_, e1, sz (by rw [List.length_map]; omega), fun tp htp => ?_⟩
          exact ⟨tp, _, _, _, rfl, upd_same, paired_cls ys, kitAny_of F hb, hP et (upd H tp (.tup _)) List.prefix_rfl (Ext.new htp) (hH.new htp) _ (by simp)⟩
        · exact hP.elim
      · exact hP.elim
    · exact hP.elim
end
/-! ### try -/
def RS.unset (i : Nat) : RS → RS
  | .nx e h => .nx (e.set i none) h
  | .bk e h => .bk (e.set i none) h
  | .ct e h => .ct (e.set i none) h
  | .rt d h => .rt d h
  | .ex _ _ _ _ => .no
  | .no => .no
def RS.calm : RS → RS
  | .ex _ _ _ _ => .no
  | r => r
open Classical in
/-- the same whatever the number is -/
noncomputable def anyA (F : Nat → RS) : RS := if e : ∃ r, ∀ a, F a = r then choose e else .no
theorem anyA_eq {F : Nat → RS} {r : RS} (e : ∀ a, F a = r) : anyA F = r := by
  have ex : ∃ r, ∀ a, F a = r := ⟨r, e⟩
  unfold anyA
  rw [dif_pos ex]
  exact ((Classical.choose_spec ex 0).symm.trans (e 0))
theorem anyA_or (F : Nat → RS) : (∀ a, F a = anyA F) ∨ anyA F = .no := by
  by_cases e : ∃ r, ∀ a, F a = r
  · unfold anyA
    rw [dif_pos e]
    exact .inl (Classical.choose_spec e)
  · unfold anyA
    rw [dif_neg e]
    exact .inr rfl
/-- try: body except y as (slot i): suite -/
noncomputable def msTryAs (t : CTab) (y : Str) (i : Nat) (body : MS) (suite : Str → Nat → MS) : MS := fun env h => match body env h with
  | .ex c none e h1 => match t.get c y with
    | some true => anyA fun a => RS.unset i (suite c a (e.set i (some (.exc a))) h1)
    | some false => .ex c none e h1
    | none => .no
  | .ex _ _ _ _ => .no
  | r => r
def msTry (t : CTab) (y : Str) (body : MS) (suite : Str → MS) : MS := fun env h => match body env h with
  | .ex c none e h1 => match t.get c y with
    | some true => RS.calm (suite c e h1)
    | some false => .ex c none e h1
    | none => .no
  | .ex _ _ _ _ => .no
  | r => r
theorem EnvR.unset {G : Cf} {et : List Addr} {H : Hp} {env : EV} {σ : L2.St} (x : EnvR G et H env σ) (i : Nat) (v : Option V) : EnvR G et H (env.set i none) (σ.set i v) := by
  refine ⟨by simp [x.1], fun j d q => ?_⟩
  by_cases hj : i = j
  · subst hj
    by_cases hl : i < env.length
    · rw [List.getElem?_set_self hl] at q
      cases q
    · rw [List.getElem?_eq_none (by simp; omega)] at q
      cases q
  · rw [List.getElem?_set_ne hj] at q
    obtain ⟨v, e1, r⟩ := x.2 j d q
    exact ⟨v, by rw [List.getElem?_set_ne hj]; exact e1, r⟩
section
variable {X : Cx} {G : Cf} {W : WX} {body suite : List Stmt} {b₀ : Stmt} {np pos pos' : Pos}
theorem ms_tryAs {t : CTab} {y n : Str} (i : Nat) {mb : MS} {ms : Str → Nat → MS} (hs : X.stack = X.env :: X.outer) (hf : X.env.frame = some X.env.locals) (hN : X.N.Nodup) (F : ExH X.K G.C t) (hm : X.mg y = some (.ref (G.C y))) (tk : Takes X W)
    (hb : ∀ (W : WX) (pn : List (Addr × Obj)) (xe : Value → Shared → Prop), Takes (X.tr pn xe) W → PassesOwn (model X.prog X.w) X.A X.env xe → PSs (X.tr pn xe) body (tS G W mb))
    (hsu : ∀ (c : Str) (a : Addr) (oe : Obj) (pn : List (Addr × Obj)), Zc (.ref (G.C c)) none oe → (∃ vs, oe.data = .fields vs) → PSs (X.suite a ((a, oe) :: pn)) (b₀ :: suite) (tS G W0 (ms c a)))
    (hi : X.N[i]? = some n := by rfl) (hln : X.env.kindOf n = some .local := by rfl) (hg : Gl X y := by rfl) (hn : y ≠ "ValueError" := by decide) (hd : (y == ("__debug__" : Str)) = false := by decide) :
    PS X (.Try body [.ExceptHandler (some (.Name y np)) (some n) (b₀ :: suite) pos'] [] [] pos) (tS G W (msTryAs t y i mb ms)) := by
  refine PS.imp (ps_try_as (i := i) (tb := fun W => tS G W mb) (ts := fun a cls d D σ H => ∃ c, cls = .ref (G.C c) ∧ d = none ∧ tS G W0 (ms c a) D σ H) (Wout := W) hs hf hN hi hln ⟨hg, hd, .inl hm⟩ tk hb
    (fun a oe cls d pn hz hf => ⟨fun pins s σ H D I ⟨c, h1, h2, r⟩ => by subst h1 h2; exact (hsu c a oe pn hz hf).run pins s σ H D I r⟩)) fun D σ H ⟨et, env, h, hE, hH, hP⟩ => ⟨et, env, h, hE, hH, ?_⟩
  unfold msTryAs at hP
  revert hP
  cases mb env h with
  | no => exact fun z => z
  | nx e h1 => exact fun z => z
  | rt e h1 => exact fun z => z
  | bk e h1 => exact fun z => z
  | ct e h1 => exact fun z => z
  | ex c d e h1 =>
    cases d with
    | some fs => exact fun z => z.elim
    | none =>
      intro hP et' H' σ' cls dd p ex hr hE' hx
      obtain ⟨rfl, hdd⟩ := hx
      have hdd : dd = none := hdd
      subst hdd
      dsimp only at hP
      cases ht : t.get c y with
      | none => rw [ht] at hP; exact hP.elim
      | some b =>
        rw [ht] at hP
        refine ⟨b, by have := F.get ht; rw [clU_own hn] at this; exact this, fun hb a _ => ?_, fun hb => ?_⟩
        · subst hb
          dsimp only at hP
          refine ⟨c, rfl, rfl, et', e.set i (some (.exc a)), h1, hE'.set i (by simp [Den]), hr, ?_⟩
          have q := PstS.weak p ex hP
          rcases anyA_or (fun a => RS.unset i (ms c a (e.set i (some (.exc a))) h1)) with z | z
          · rw [← z a] at q
            revert q
            cases ms c a (e.set i (some (.exc a))) h1 with
            | no => exact fun z => z
            | rt d h2 => exact fun z => z
            | ex _ _ _ _ => exact fun z => z.elim
            | nx e2 h2 => exact fun q et1 H1 σ1 p1 e1 r1 E1 => q et1 H1 _ p1 e1 r1 (E1.unset i none)
            | bk e2 h2 => exact fun q et1 H1 σ1 p1 e1 r1 E1 => q et1 H1 _ p1 e1 r1 (E1.unset i none)
            | ct e2 h2 => exact fun q et1 H1 σ1 p1 e1 r1 E1 => q et1 H1 _ p1 e1 r1 (E1.unset i none)
          · rw [z] at q
            exact q.elim
        · subst hb
          exact hP et' H' σ' _ none p ex hr hE' ⟨rfl, rfl⟩
theorem ms_try {t : CTab} {y : Str} {mb : MS} {ms : Str → MS} (hs : X.stack = X.env :: X.outer) (hf : X.env.frame = some X.env.locals) (F : ExH X.K G.C t) (hm : X.mg y = some (.ref (G.C y))) (tk : Takes X W)
    (hb : ∀ (W : WX) (pn : List (Addr × Obj)) (xe : Value → Shared → Prop), Takes (X.tr pn xe) W → PassesOwn (model X.prog X.w) X.A X.env xe → PSs (X.tr pn xe) body (tS G W mb))
    (hsu : ∀ (c : Str) (a : Addr) (oe : Obj) (pn : List (Addr × Obj)), Zc (.ref (G.C c)) none oe → (∃ vs, oe.data = .fields vs) → PSs (X.suite a ((a, oe) :: pn)) (b₀ :: suite) (tS G W0 (ms c)))
    (hg : Gl X y := by rfl) (hn : y ≠ "ValueError" := by decide) (hd : (y == ("__debug__" : Str)) = false := by decide) :
    PS X (.Try body [.ExceptHandler (some (.Name y np)) none (b₀ :: suite) pos'] [] [] pos) (tS G W (msTry t y mb ms)) := by
  refine PS.imp (ps_try_only (tb := fun W => tS G W mb) (ts := fun a cls d D σ H => ∃ c, cls = .ref (G.C c) ∧ d = none ∧ tS G W0 (ms c) D σ H) (Wout := W) hs hf ⟨hg, hd, .inl hm⟩ tk hb
    (fun a oe cls d pn hz hf => ⟨fun pins s σ H D I ⟨c, h1, h2, r⟩ => by subst h1 h2; exact (hsu c a oe pn hz hf).run pins s σ H D I r⟩)) fun D σ H ⟨et, env, h, hE, hH, hP⟩ => ⟨et, env, h, hE, hH, ?_⟩
  unfold msTry at hP
  revert hP
  cases mb env h with
  | no => exact fun z => z
  | nx e h1 => exact fun z => z
  | rt e h1 => exact fun z => z
  | bk e h1 => exact fun z => z
  | ct e h1 => exact fun z => z
  | ex c d e h1 =>
    cases d with
    | some fs => exact fun z => z.elim
    | none =>
      intro hP et' H' σ' cls dd p ex hr hE' hx
      obtain ⟨rfl, hdd⟩ := hx
      have hdd : dd = none := hdd
      subst hdd
      dsimp only at hP
      cases ht : t.get c y with
      | none => rw [ht] at hP; exact hP.elim
      | some b =>
        rw [ht] at hP
        refine ⟨b, by have := F.get ht; rw [clU_own hn] at this; exact this, fun hb a _ => ?_, fun hb => ?_⟩
        · subst hb
          dsimp only at hP
          refine ⟨c, rfl, rfl, et', e, h1, hE', hr, ?_⟩
          have q := PstS.weak p ex hP
          revert q
          cases ms c e h1 with
          | ex _ _ _ _ => exact fun z => z.elim
          | _ => exact fun z => z
        · subst hb
          exact hP et' H' σ' _ none p ex hr hE' ⟨rfl, rfl⟩
end
end NR

set_option Elab.async false
set_option linter.all false
set_option maxRecDepth 100000
/-! sorted, max, min of a list; pop, index; methods without arguments; one of two readings. -/
namespace NR
open PySem PySem.Spec PyProof.Rows L2
def relabelS (scope sc : Scope) : Scope :=
  { scope with names := scope.names.map fun (n, k) => if (k == .free && sc.kind == .function && sc.names.lookup n == some .cell) then (n, .cell) else (n, k) }
/-- a comprehension within another one -/
theorem blkOk_in {N : List Str} {outer sc scope : Scope} {env : PySem.Env} {own : List (Str × Nat)} (hs : env.scope = sc) (h : blkC N (relabelS outer sc) scope own = true) : BlkOk N (relabel outer env) scope own := by
  have e : relabel outer env = relabelS outer sc := by subst hs; rfl
  rw [e]
  exact blkOk_by h
/-- one of two readings of an expression -/
def mOrE (m1 m2 : ME) : ME := fun env h => match m1 env h with
  | .no => m2 env h
  | r => r
section
variable {X : Cx} {G : Cf} {W : WX} {e o : Expr} {m1 m2 mo : ME} {name : Str} {apos cpos : Pos} {T id : String} {r : V → List V → Hp → VK → Prop} {f : D → List D → IH → R D}
theorem me_orE (h1 : PE X e (tE G W m1)) (h2 : PE X e (tE G W m2)) : PE X e (tE G W (mOrE m1 m2)) := ⟨fun pins s σ H Q I ⟨et, env, h, hE, hH, hP⟩ => by
  unfold mOrE at hP
  cases e1 : m1 env h with
  | no =>
    rw [e1] at hP
    exact h2.run pins s σ H Q I ⟨et, env, h, hE, hH, hP⟩
  | ok d h' => rw [e1] at hP; exact h1.run pins s σ H Q I ⟨et, env, h, hE, hH, by rw [e1]; exact hP⟩
  | ex c d h' => rw [e1] at hP; exact h1.run pins s σ H Q I ⟨et, env, h, hE, hH, by rw [e1]; exact hP⟩⟩
/-- a method without arguments -/
def mMeth0 (T : String) (f : D → List D → IH → R D) (mo : ME) : ME := fun env h => (mo env h).bind fun x h1 => if tyD T h1 x = true then f x [] h1 else .no
theorem me_meth0 (hK : X.K = G.K) (pa : PlainAttrs T) (slot : Slot T name id) (hty : typeOf (.builtin id) = pure (.type "method_descriptor")) (hm : MtR X id r) (hs : MethS G r f) (ho : PE X o (tE G W mo))
    (hbase : attributeBase o name X.env (eval o X.env) = eval o X.env := by rfl) (hline : (apos.endLine == cpos.line) = true := by rfl) :
    PE X (.Call (.Attribute o name apos) [] [] cpos) (tE G W (mMeth0 T f mo)) := PE.imp (pe_bm0 pa slot hty hm ho hbase hline) fun σ H Q ⟨et, env, h, hE, hH, hP⟩ => by
  refine ⟨et, env, h, hE, hH, (Pst.of_bind hP).imp fun et1 H1 h1 x p e hr q v hv => ?_⟩
  split at q
  · rename_i ht
    rw [hK]
    exact ⟨tyD_ok hr ht hv, hs et1 H1 h1 x v [] [] _ Q hv (by simp) hr q⟩
  · exact q.elim
end
def isrt (ns : List Int) : List Int := ns.mergeSort (fun a b => decide (a ≤ b))
theorem isrt_perm (ns : List Int) : (isrt ns).Perm ns := List.mergeSort_perm _ _
theorem isrt_sorted (ns : List Int) : (isrt ns).Pairwise (· ≤ ·) := by
  have := List.pairwise_mergeSort (le := fun a b : Int => decide (a ≤ b)) (fun a b c h1 h2 => by simp at *; omega) (fun a b => by simp; omega) ns
  exact this.imp (by simp)
theorem isrt_eq {ns ms : List Int} (p : ms.Perm ns) (s : ms.Pairwise (· ≤ ·)) : ms = isrt ns :=
  List.Perm.eq_of_pairwise (fun _ _ _ _ a b => Int.le_antisymm a b) s (isrt_sorted ns) (p.trans (isrt_perm ns).symm)
def bSorted : List D → IH → R D
  | [x], h => match (lstOf h x).bind (allM D.int?) with
    | some ns => .ok (.ref h.length) (h ++ [.lst ((isrt ns).map D.int)])
    | none => .no
  | _, _ => .no
def imax : List Int → Int
  | [] => 0
  | x :: xs => xs.foldl (fun a b => if b > a then b else a) x
def imin : List Int → Int
  | [] => 0
  | x :: xs => xs.foldl (fun a b => if b < a then b else a) x
theorem imax_go : ∀ (xs : List Int) (x : Int), xs.foldl (fun a b => if b > a then b else a) x ∈ x :: xs ∧ ∀ y ∈ x :: xs, y ≤ xs.foldl (fun a b => if b > a then b else a) x
  | [], x => by simp
  | z :: xs, x => by
    obtain ⟨h1, h2⟩ := imax_go xs (if z > x then z else x)
    rw [List.foldl_cons]
    generalize xs.foldl (fun a b => if b > a then b else a) (if z > x then z else x) = F at *
    refine ⟨?_, fun y hy => ?_⟩
    · rcases List.mem_cons.mp h1 with h | h
      · rw [h]; split <;> simp
      · exact List.mem_cons_of_mem _ (List.mem_cons_of_mem _ h)
    · have h3 := h2 _ List.mem_cons_self
      rcases List.mem_cons.mp hy with rfl | hy
      · split at h3 <;> omega
      · rcases List.mem_cons.mp hy with rfl | hy
        · split at h3 <;> omega
        · exact h2 y (List.mem_cons_of_mem _ hy)
theorem imin_go : ∀ (xs : List Int) (x : Int), xs.foldl (fun a b => if b < a then b else a) x ∈ x :: xs ∧ ∀ y ∈ x :: xs, xs.foldl (fun a b => if b < a then b else a) x ≤ y
  | [], x => by simp
  | z :: xs, x => by
    obtain ⟨h1, h2⟩ := imin_go xs (if z < x then z else x)
    rw [List.foldl_cons]
    generalize xs.foldl (fun a b => if b < a then b else a) (if z < x then z else x) = F at *
    refine ⟨?_, fun y hy => ?_⟩
    · rcases List.mem_cons.mp h1 with h | h
      · rw [h]; split <;> simp
      · exact List.mem_cons_of_mem _ (List.mem_cons_of_mem _ h)
    · have h3 := h2 _ List.mem_cons_self
      rcases List.mem_cons.mp hy with rfl | hy
      · split at h3 <;> omega
      · rcases List.mem_cons.mp hy with rfl | hy
        · split at h3 <;> omega
        · exact h2 y (List.mem_cons_of_mem _ hy)
theorem imax_mem {ns : List Int} (h : 0 < ns.length) : imax ns ∈ ns := by
  cases ns with
  | nil => simp at h
  | cons x xs => exact (imax_go xs x).1
theorem imax_le {ns : List Int} {y : Int} (h : y ∈ ns) : y ≤ imax ns := by
  cases ns with
  | nil => cases h
  | cons x xs => exact (imax_go xs x).2 y h
theorem imin_mem {ns : List Int} (h : 0 < ns.length) : imin ns ∈ ns := by
  cases ns with
  | nil => simp at h
  | cons x xs => exact (imin_go xs x).1
theorem imin_le {ns : List Int} {y : Int} (h : y ∈ ns) : imin ns ≤ y := by
  cases ns with
  | nil => cases h
  | cons x xs => exact (imin_go xs x).2 y h
def bMax1 : List D → IH → R D
  | [x], h => match (lstOf h x).bind (allM D.int?) with
    | some ns => if 0 < ns.length then .ok (.int (imax ns)) h else .no
    | none => .no
  | _, _ => .no
def bMin1 : List D → IH → R D
  | [x], h => match (lstOf h x).bind (allM D.int?) with
    | some ns => if 0 < ns.length then .ok (.int (imin ns)) h else .no
    | none => .no
  | _, _ => .no
def fPop0 : D → List D → IH → R D
  | .ref n, [], h => match h[n]? with
    | some (.lst xs) => match xs[xs.length - 1]? with
      | some y => .ok y (h.set n (.lst xs.dropLast))
      | none => .no
    | _ => .no
  | _, _, _ => .no
def fPopAt : D → List D → IH → R D
  | .ref n, [.int i], h => match h[n]? with
    | some (.lst xs) => match ixN xs.length i with
      | some k => match xs[k]? with
        | some y => if -(2 ^ 63) ≤ i ∧ i < 2 ^ 63 then .ok y (h.set n (.lst (xs.eraseIdx k))) else .no
        | none => .no
      | none => .no
    | _ => .no
  | _, _, _ => .no
def fClear : D → List D → IH → R D
  | .ref n, [], h => match h[n]? with
    | some (.lst xs) => .ok .non (h.set n (.lst []))
    | _ => .no
  | _, _, _ => .no
/-- the first place in a list of ints, of texts -/
def fIndexL : D → List D → IH → R D
  | x, [.int y], h => match (lstOf h x).bind (allM D.int?) with
    | some ns => if y ∈ ns then .ok (.int (ns.idxOf y : Nat)) h else .no
    | none => .no
  | x, [.str y], h => match (lstOf h x).bind (allM D.str?) with
    | some ns => if y ∈ ns then .ok (.int (ns.idxOf y : Nat)) h else .no
    | none => .no
  | _, _, _ => .no
section
variable {G : Cf}
theorem ints_den {et : List Addr} {H : Hp} {h : IH} {x : D} {v : V} {ns : List Int} (R : HRel G et h H) (e : (lstOf h x).bind (allM D.int?) = some ns) (r : Den G et H x v) : ∃ a, v = .ref a ∧ SqL G.K H a (ns.map V.int) := by
  simp only [Option.bind_eq_some_iff] at e
  obtain ⟨xs, e1, e2⟩ := e
  obtain ⟨a, vs, rfl, h1, h2⟩ := lst_ok R e1 r
  rw [allM_ints e2] at h2
  rw [h2.ints] at h1
  exact ⟨a, rfl, h1⟩
theorem strs_den {et : List Addr} {H : Hp} {h : IH} {x : D} {v : V} {ns : List (List Nat)} (R : HRel G et h H) (e : (lstOf h x).bind (allM D.str?) = some ns) (r : Den G et H x v) : ∃ a, v = .ref a ∧ SqL G.K H a ((ns.map strV).map V.str) := by
  simp only [Option.bind_eq_some_iff] at e
  obtain ⟨xs, e1, e2⟩ := e
  obtain ⟨a, vs, rfl, h1, h2⟩ := lst_ok R e1 r
  rw [allM_strs e2] at h2
  rw [h2.strs] at h1
  exact ⟨a, rfl, h1⟩
theorem bSorted_ok : CallS G (rSortedI G.K) bSorted := by
  intro et H h xs vs W Q rv R p
  unfold bSorted at p
  split at p
  · split at p
    · rename_i x ns e
      obtain ⟨v, rfl, r⟩ := list1 rv
      obtain ⟨a, rfl, hs⟩ := ints_den R e r
      refine ⟨a, ns, rfl, hs, fun ns' q pm so hq => ?_⟩
      rw [isrt_eq pm so]
      exact p.newL R DenL.ofInts q hq
    · exact p.elim
  · exact p.elim
theorem bMax1_ok : CallS G (rMax G.K) bMax1 := by
  intro et H h xs vs W Q rv R p
  unfold bMax1 at p
  split at p
  · split at p
    · rename_i x ns e
      split at p
      · rename_i c
        obtain ⟨v, rfl, r⟩ := list1 rv
        obtain ⟨a, rfl, hs⟩ := ints_den R e r
        refine ⟨a, ns, rfl, hs, c, fun m hm hle => ?_⟩
        have : m = imax ns := Int.le_antisymm (imax_le hm) (hle _ (imax_mem c))
        subst this
        exact p.here R _ (by simp)
      · exact p.elim
    · exact p.elim
  · exact p.elim
theorem bMin1_ok : CallS G (rMin G.K) bMin1 := by
  intro et H h xs vs W Q rv R p
  unfold bMin1 at p
  split at p
  · split at p
    · rename_i x ns e
      split at p
      · rename_i c
        obtain ⟨v, rfl, r⟩ := list1 rv
        obtain ⟨a, rfl, hs⟩ := ints_den R e r
        refine ⟨a, ns, rfl, hs, c, fun m hm hle => ?_⟩
        have : m = imin ns := Int.le_antisymm (hle _ (imin_mem c)) (imin_le hm)
        subst this
        exact p.here R _ (by simp)
      · exact p.elim
    · exact p.elim
  · exact p.elim
theorem DenL.dropLast {et : List Addr} {H : Hp} {ds : List D} {vs : List V} (h : DenL G et H ds vs) : DenL G et H ds.dropLast vs.dropLast := by
  rw [List.dropLast_eq_take, List.dropLast_eq_take, h.len]
  exact h.take _
theorem DenL.eraseIdx {et : List Addr} {H : Hp} {ds : List D} {vs : List V} (h : DenL G et H ds vs) (k : Nat) : DenL G et H (ds.eraseIdx k) (vs.eraseIdx k) := by
  rw [List.eraseIdx_eq_take_drop_succ, List.eraseIdx_eq_take_drop_succ]
  exact (h.take _).app (h.drop _)
theorem fPop0_ok : MethS G rPop fPop0 := by
  intro et H h x v xs vs W Q rx rv R p
  unfold fPop0 at p
  split at p
  · split at p
    · rename_i n _ ys hx
      split at p
      · rename_i y hy
        obtain ⟨a, us, h2, rfl, h3, h4⟩ := den_list R hx rx
        obtain ⟨w, e1, r1⟩ := h4.get hy
        refine ⟨a, us, w, rfl, by simpa using rv, h3, by rw [h4.len]; exact e1, ?_⟩
        have ex : Ext H (upd H a (.lst us.dropLast)) := Ext.mut h3 True.intro
        exact p et _ List.prefix_rfl ex (R.set hx h2 rfl h3 True.intro ⟨_, upd_same, (h4.dropLast).mono List.prefix_rfl ex⟩) _ (r1.mono List.prefix_rfl ex)
      · exact p.elim
    · exact p.elim
  · exact p.elim
theorem fPopAt_ok : MethS G rPopAt fPopAt := by
  intro et H h x v xs vs W Q rx rv R p
  unfold fPopAt at p
  split at p
  · split at p
    · rename_i n i _ ys hx
      split at p
      · rename_i k hk
        split at p
        · rename_i y hy
          split at p
          · rename_i c
            obtain ⟨w, rfl, h1⟩ := list1 rv
            obtain ⟨a, us, h2, rfl, h3, h4⟩ := den_list R hx rx
            obtain ⟨w2, e1, r1⟩ := h4.get hy
            refine ⟨a, us, i, k, w2, rfl, by rw [den_int.mp h1], h3, c.1, c.2, by rw [h4.len]; exact (ixN_seq hk).1, e1, ?_⟩
            have ex : Ext H (upd H a (.lst (us.eraseIdx k))) := Ext.mut h3 True.intro
            exact p et _ List.prefix_rfl ex (R.set hx h2 rfl h3 True.intro ⟨_, upd_same, (h4.eraseIdx k).mono List.prefix_rfl ex⟩) _ (r1.mono List.prefix_rfl ex)
          · exact p.elim
        · exact p.elim
      · exact p.elim
    · exact p.elim
  · exact p.elim
theorem idx_first {A : Type} [BEq A] [LawfulBEq A] : ∀ {ns : List A} {y : A}, y ∈ ns → ns[ns.idxOf y]? = some y ∧ ∀ m z, m < ns.idxOf y → ns[m]? = some z → (z == y) = false
  | [], _, h => by cases h
  | n :: ns, y, h => by
    by_cases e : n = y
    · subst e
      rw [List.idxOf_cons_self]
      exact ⟨rfl, fun m z hm => absurd hm (Nat.not_lt_zero m)⟩
    · have e' : (n == y) = false := beq_eq_false_iff_ne.mpr e
      rw [List.idxOf_cons, e']
      have hm : y ∈ ns := by
        rcases List.mem_cons.mp h with h | h
        · exact absurd h.symm e
        · exact h
      obtain ⟨h1, h2⟩ := idx_first hm
      refine ⟨by simpa using h1, fun m z hm hz => ?_⟩
      cases m with
      | zero => simp at hz; subst hz; exact e'
      | succ m => exact h2 m z (by simpa using hm) (by simpa using hz)
theorem fIndexL_ok : MethS G (rIndex G.K) fIndexL := by
  intro et H h x v xs vs W Q rx rv R p
  unfold fIndexL at p
  split at p
  · rename_i y
    split at p
    · rename_i ns e
      split at p
      · rename_i c
        obtain ⟨w, rfl, h1⟩ := list1 rv
        obtain ⟨a, rfl, hs⟩ := ints_den R e rx
        obtain ⟨q1, q2⟩ := idx_first c
        refine ⟨a, _, w, ns.idxOf y, .int y, rfl, rfl, hs, by rw [den_int.mp h1]; rfl, ?_, by rw [List.getElem?_map, q1]; rfl, by rw [den_int.mp h1]; simp [eqV], fun m z' hm hz => ?_, p.here R _ (by simp)⟩
        · simp [flatV]
        · rw [List.getElem?_map] at hz
          cases hn : ns[m]? with
          | none => rw [hn] at hz; cases hz
          | some z0 =>
            rw [hn] at hz
            cases hz
            rw [den_int.mp h1]
            exact q2 m z0 hm hn
      · exact p.elim
    · exact p.elim
  · rename_i y
    split at p
    · rename_i ns e
      split at p
      · rename_i c
        obtain ⟨w, rfl, h1⟩ := list1 rv
        obtain ⟨a, rfl, hs⟩ := strs_den R e rx
        obtain ⟨q1, q2⟩ := idx_first c
        refine ⟨a, _, w, ns.idxOf y, .str (strV y), rfl, rfl, hs, by rw [den_str.mp h1]; rfl, ?_, by rw [List.getElem?_map, List.getElem?_map, q1]; rfl, by rw [den_str.mp h1]; simp [eqV], fun m z' hm hz => ?_, p.here R _ (by simp)⟩
        · simp [flatV]
        · rw [List.getElem?_map, List.getElem?_map] at hz
          cases hn : ns[m]? with
          | none => rw [hn] at hz; cases hz
          | some z0 =>
            rw [hn] at hz
            cases hz
            rw [den_str.mp h1]
            have := q2 m z0 hm hn
            exact beq_eq_false_iff_ne.mpr fun z => (beq_eq_false_iff_ne.mp this) (strV_inj z)
      · exact p.elim
    · exact p.elim
  · exact p.elim
end
end NR

set_option Elab.async false
set_option linter.all false
set_option maxRecDepth 100000
/-! zip and enumerate over whatever is not written: lists, tuples, texts, mixed. -/
namespace NR
open PySem PySem.Spec PyProof.Rows L2
open Sem (wp)

inductive Kd where
  | ls (a : Addr)
  | tp (a : Addr)
  | tx (x : Str)
def Kd.v : Kd → V
  | .ls a => .ref a
  | .tp a => .ref a
  | .tx x => .str x
def Kd.At (K : PySem.W.Frag) (H : Hp) : Kd → List V → Prop
  | .ls a, xs => SqL K H a xs
  | .tp a, xs => SqT K H a xs
  | .tx x, xs => xs = x.cps.toList.map fun c => V.str ⟨#[c]⟩
def Kd.It (h : Heap) (it : Addr) : Kd → Nat → Prop
  | .ls a, i => h.IsListIter it a i
  | .tp a, i => h.IsTupleIter it a i
  | .tx x, i => ∃ t, h.IsStrIter it (strIterType x) x t i
def Kd.ad : Kd → List Addr
  | .ls a => [a]
  | .tp a => [a]
  | .tx _ => []
theorem Kd.It.keep {h h' : Heap} {it : Addr} {k : Kd} {i : Nat} (q : k.It h it i) (e : ∀ o, h.get? it = some o → h'.get? it = some o) : k.It h' it i := by
  cases k with
  | ls a => exact Heap.IsListIter.at q e
  | tp a => exact Heap.IsTupleIter.at q e
  | tx x => obtain ⟨t, o, ho, r⟩ := q; exact ⟨t, o, e o ho, r⟩
theorem Kd.It.obj {h : Heap} {it : Addr} {k : Kd} {i : Nat} (q : k.It h it i) : ∃ o, h.get? it = some o ∧ ∀ v, o.data ≠ .cell v := by
  cases k with
  | ls a => obtain ⟨o, e, c, d⟩ := q; exact ⟨o, e, fun v z => by rw [d] at z; cases z⟩
  | tp a => obtain ⟨o, e, c, d⟩ := q; exact ⟨o, e, fun v z => by rw [d] at z; cases z⟩
  | tx x => obtain ⟨t, o, e, c, d⟩ := q; exact ⟨o, e, fun v z => by rw [d] at z; cases z⟩
section
variable {X : Cx} {pins : List (Addr × Obj)} {σ : L2.St} {H : Hp} {s : Shared}
theorem Kd.At.inj (I : Inv X pins σ H s) {k : Kd} {xs ys : List V} (a : k.At X.K H xs) (b : k.At X.K H ys) : xs = ys := by
  cases k with
  | ls d => exact I.list_inj a b
  | tp d => exact I.tuple_inj a b
  | tx x => exact a.trans b.symm
theorem vals_draw {xs : List V} {its : List Value} (r : Vals xs its) {j : Nat} {u : Value} (e : its.toArray[j]? = some u) : ∃ x, xs[j]? = some x ∧ RelV x u := by
  have hl := r.length
  have e' : its[j]? = some u := by simpa using e
  have hj : j < its.length := (List.getElem?_eq_some_iff.mp e').1
  have hx : xs[j]? = some (xs[j]'(by omega)) := List.getElem?_eq_getElem (by omega)
  obtain ⟨u', hu, ru⟩ := r.get hx
  rw [e'] at hu
  cases hu
  exact ⟨_, hx, ru⟩
theorem Kd.draws (I : Inv X pins σ H s) (k : Kd) {xs : List V} {it : Addr} {i : Nat} (ha : k.At X.K H xs) (hi : k.It s.heap it i) (hn : it ∉ k.ad) {A : Around} (hh : A.handled = none) :
    ∃ (P : Nat → Value → Prop) (St : Nat → Heap → Prop), Draws X.prog X.w A it (it :: k.ad) xs.length P St ∧ St i s.heap ∧ (∀ j u, P j u → ∃ x, xs[j]? = some x ∧ RelV x u) ∧ ∀ j h, St j h → k.It h it j := by
  cases k with
  | ls a =>
    obtain ⟨its, rv, p, hz⟩ := I.list ha
    have e : its.toArray.size = xs.length := by have := rv.length; simp; omega
    have D := Draws.list (prog := X.prog) (w := X.w) (A := A) hh it a (fun z => hn (by simp [Kd.ad, z])) its.toArray
    rw [e] at D
    exact ⟨_, _, D, ⟨hi, p.isList⟩, fun j u q => vals_draw rv q, fun j h q => q.1⟩
  | tp a =>
    obtain ⟨its, rv, p, hz⟩ := I.tuple ha
    have e : its.toArray.size = xs.length := by have := rv.length; simp; omega
    have D := Draws.tuple (prog := X.prog) (w := X.w) (A := A) hh it a (fun z => hn (by simp [Kd.ad, z])) its.toArray
    rw [e] at D
    exact ⟨_, _, D, ⟨hi, p⟩, fun j u q => vals_draw rv q, fun j h q => q.1⟩
  | tx x =>
    obtain ⟨t, hi⟩ := hi
    have e : x.cps.size = xs.length := by rw [show xs = _ from ha]; simp
    have D := Draws.text (prog := X.prog) (w := X.w) (A := A) hh it x t
    rw [e] at D
    refine ⟨_, _, D, hi, fun j u ⟨c, t', hc, q⟩ => ⟨.str ⟨#[c]⟩, ?_, t', q⟩, fun j h q => ⟨t, q⟩⟩
    rw [show xs = _ from ha]
    simp [hc]
theorem Kd.begins (I : Inv X pins σ H s) (k : Kd) {xs : List V} (ha : k.At X.K H xs) {u : Value} (r : RelV k.v u) :
    ∃ (o : Obj) (B : Heap → Prop), Begins u o B ∧ B s.heap ∧ (∀ (h : Heap) (it : Addr), h.get? it = some o → k.It h it 0) ∧ ∀ b ∈ k.ad, b < s.heap.objs.size := by
  cases k with
  | ls a =>
    obtain ⟨its, rv, p, hz⟩ := I.list ha
    obtain rfl : u = Value.ref a := r
    exact ⟨_, _, begins_list a its.toArray, p.isList, fun h it e => ⟨_, e, rfl, rfl⟩, fun b hb => by
      obtain rfl : b = a := by simpa [Kd.ad] using hb
      exact p.lt⟩
  | tp a =>
    obtain ⟨its, rv, p, hz⟩ := I.tuple ha
    obtain rfl : u = Value.ref a := r
    refine ⟨_, _, begins_tuple a its.toArray, p, fun h it e => ⟨_, e, rfl, rfl⟩, fun b hb => ?_⟩
    obtain rfl : b = a := by simpa [Kd.ad] using hb
    obtain ⟨o, e, _⟩ := p
    exact Heap.lt_size e
  | tx x =>
    obtain ⟨t, rfl⟩ := r
    exact ⟨_, _, begins_text x t, trivial, fun h it e => ⟨t, _, e, rfl, rfl⟩, fun b hb => by simp [Kd.ad] at hb⟩
end

/-- two walked side by side, n of them -/
def Itq (K : PySem.W.Frag) (k1 k2 : Kd) (n : Nat) : It :=
  ⟨fun i H => i < n ∧ ∃ xs ys, k1.At K H xs ∧ k2.At K H ys ∧ min xs.length ys.length = n,
    fun i H v H' => ∃ T x y, v = .ref T ∧ H T = none ∧ H' = upd H T (.tup [x, y]) ∧ (∀ xs, k1.At K H xs → xs[i]? = some x) ∧ ∀ ys, k2.At K H ys → ys[i]? = some y,
    fun i H => n ≤ i ∧ ∃ xs ys, k1.At K H xs ∧ k2.At K H ys ∧ min xs.length ys.length = n⟩
def Ieq (K : PySem.W.Frag) (k : Kd) (c : Int) (n : Nat) : It :=
  ⟨fun i H => i < n ∧ ∃ xs, k.At K H xs ∧ xs.length = n,
    fun i H v H' => ∃ T x, v = .ref T ∧ H T = none ∧ H' = upd H T (.tup [.int (c + (i : Nat)), x]) ∧ ∀ xs, k.At K H xs → xs[i]? = some x,
    fun i H => n ≤ i ∧ ∃ xs, k.At K H xs ∧ xs.length = n⟩
def Zst (k1 k2 : Kd) (n N : Nat) (i : Nat) (h : Heap) : Prop :=
  i ≤ n ∧ IsZip h (N + 4) (N + 2) (N + 3) .none ∧ IsTupOf2 h (N + 2) (.ref N) (.ref (N + 1)) ∧ (∃ a b, IsTupOf2 h (N + 3) a b) ∧ k1.It h N i ∧ k2.It h (N + 1) i
theorem Zst.obj {k1 k2 : Kd} {n N i : Nat} {h : Heap} (q : Zst k1 k2 n N i h) : ∀ b ∈ [N + 4, N + 2, N + 3, N, N + 1], ∃ o, h.get? b = some o ∧ ∀ v, o.data ≠ .cell v := by
  obtain ⟨_, z, ti, ⟨a, b, to⟩, p1, p2⟩ := q
  intro c hc
  have : c = N + 4 ∨ c = N + 2 ∨ c = N + 3 ∨ c = N ∨ c = N + 1 := by simpa using hc
  rcases this with e | e | e | e | e <;> subst e
  · exact ⟨_, z, fun v x => nomatch x⟩
  · exact ⟨_, ti, fun v x => nomatch x⟩
  · exact ⟨_, to, fun v x => nomatch x⟩
  · exact p1.obj
  · exact p2.obj
theorem ad_new {k : Kd} {N j : Nat} (h : ∀ b ∈ k.ad, b < N) : N + j ∉ k.ad := fun x => absurd (h _ x) (Nat.not_lt.mpr (Nat.le_add_right N j))
section
variable {P : Program} {w : World} {K : PySem.W.Frag} {elts : List Expr} {kk : Nat} {tpos : Pos}
theorem turn_zq (k1 k2 : Kd) (n N : Nat) (h1 : ∀ b ∈ k1.ad, b < N) (h2 : ∀ b ∈ k2.ad, b < N) :
    Turn P w K (.Tuple elts kk tpos) (Itq K k1 k2 n) [N + 4, N + 2, N + 3, N, N + 1] (N + 4) (Zst k1 k2 n N) where
  mem := by simp
  obj := fun i h q => q.obj
  keep := fun i h h' q k => by
    obtain ⟨l, z, ti, ⟨a, b, to⟩, p1, p2⟩ := q
    exact ⟨l, k _ (by simp) _ z, k _ (by simp) _ ti, ⟨a, b, k _ (by simp) _ to⟩, p1.keep fun o e => k _ (by simp) o e, p2.keep fun o e => k _ (by simp) o e⟩
  item := by
    intro X hP hw hK hc i pins s σ H E I hf st hg
    subst hP hw hK
    obtain ⟨hlt, xs, ys, a1, a2, hm⟩ := hg
    have live : ∀ b ∈ [N + 4, N + 2, N + 3, N, N + 1], b < s.heap.objs.size := fun b hb => by
      obtain ⟨o, e, _⟩ := st.obj b hb
      exact Heap.lt_size e
    obtain ⟨hle, hz, hTI, hTO, q1, q2⟩ := st
    obtain ⟨P1, S1, D1, s1, r1, g1⟩ := Kd.draws (A := X.A.in1) I k1 a1 q1 (ad_new (j := 0) h1) (I.ok.hd hc)
    obtain ⟨P2, S2, D2, s2, r2, g2⟩ := Kd.draws (A := X.A.in1) I k2 a2 q2 (ad_new (j := 1) h2) (I.ok.hd hc)
    have Wz := GoesN.zip2 (elts := elts) (x1 := kk) (pos := tpos) (zip_sep2 h1 h2) D1 D2
    refine Wz.goes i s _ E (by rw [hm]; exact hlt) ⟨hz, hTI, hTO, s1, s2⟩ fun v h' tk hY st' hk htk => ?_
    obtain ⟨T, u1, u2, rfl, hT, pu1, pu2, hTup⟩ := hY
    obtain ⟨x, hx, rx⟩ := r1 _ _ pu1
    obtain ⟨y, hy, ry⟩ := r2 _ _ pu2
    have new : ObjOk X.prog X.w (upd H T (.tup [x, y])) h' T (.tup [x, y]) := ⟨by show 2 ≤ sizeLine; decide, [u1, u2], .cons rx (.cons ry .nil), hTup⟩
    have I1 := I.turnedNew (t' := tk) (ch := [N + 4, N + 2, N + 3, N, N + 1]) (fun b o hb e => hk b o (fun z => hb (by
      have : b = N + 4 ∨ b = N + 3 ∨ b = N ∨ b = N + 1 := by simpa using z
      rcases this with e | e | e | e <;> simp [e])) e) hf hT new
    refine ⟨.ref T, _, I1, rfl, ⟨T, x, y, rfl, I.hok.fresh hT, rfl, fun l hl => ?_, fun l hl => ?_⟩, ⟨hlt, st'.1, st'.2.1, st'.2.2.1, g1 _ _ st'.2.2.2.1, g2 _ _ st'.2.2.2.2⟩, fun b hb => ?_⟩
    · rw [Kd.At.inj I hl a1]; exact hx
    · rw [Kd.At.inj I hl a2]; exact hy
    · rw [upd_ne (Nat.ne_of_lt (Nat.lt_of_lt_of_le (live b hb) hT))]
      exact (hf b hb).1
  done := by
    intro X hP hw hK hc i pins s σ H E I hf st hg
    subst hP hw hK
    obtain ⟨hge, xs, ys, a1, a2, hm⟩ := hg
    obtain ⟨hle, hz, hTI, hTO, q1, q2⟩ := st
    have hi : i = min xs.length ys.length := by omega
    obtain ⟨P1, S1, D1, s1, r1, g1⟩ := Kd.draws (A := X.A.in1) I k1 a1 q1 (ad_new (j := 0) h1) (I.ok.hd hc)
    obtain ⟨P2, S2, D2, s2, r2, g2⟩ := Kd.draws (A := X.A.in1) I k2 a2 q2 (ad_new (j := 1) h2) (I.ok.hd hc)
    have Wz := GoesN.zip2 (elts := elts) (x1 := kk) (pos := tpos) (zip_sep2 h1 h2) D1 D2
    rw [hi] at s1 s2
    refine Wz.stops s _ E ⟨hz, hTI, hTO, s1, s2⟩ fun h' tk hk htk => ?_
    exact I.turnedL (t' := tk) (ch := [N + 4, N + 2, N + 3, N, N + 1]) (fun b o hb e => hk b o (fun z => hb (by
      have : b = N + 4 ∨ b = N + 3 ∨ b = N ∨ b = N + 1 := by simpa using z
      rcases this with e | e | e | e <;> simp [e])) e) hf
  self := fun A i s Q E st h => wpAny_pyIter_zip st.2.1 h
def Est (k : Kd) (c : Int) (n N : Nat) (i : Nat) (h : Heap) : Prop := i ≤ n ∧ (∃ old, IsEnum h (N + 1) N (c + (i : Int)) old) ∧ k.It h N i
theorem Est.obj {k : Kd} {c : Int} {n N i : Nat} {h : Heap} (q : Est k c n N i h) : ∀ b ∈ [N + 1, N], ∃ o, h.get? b = some o ∧ ∀ v, o.data ≠ .cell v := by
  obtain ⟨_, ⟨o, z⟩, p⟩ := q
  intro b hb
  have : b = N + 1 ∨ b = N := by simpa using hb
  rcases this with e | e <;> subst e
  · exact ⟨_, z, fun v x => nomatch x⟩
  · exact p.obj
theorem turn_eq (k : Kd) (c : Int) (n N : Nat) (h1 : ∀ b ∈ k.ad, b < N) :
    Turn P w K (.Tuple elts kk tpos) (Ieq K k c n) [N + 1, N] (N + 1) (Est k c n N) where
  mem := by simp
  obj := fun i h q => q.obj
  keep := fun i h h' q kp => by
    obtain ⟨l, ⟨o, z⟩, p⟩ := q
    exact ⟨l, ⟨o, kp _ (by simp) _ z⟩, p.keep fun o e => kp _ (by simp) o e⟩
  item := by
    intro X hP hw hK hc i pins s σ H E I hf st hg
    subst hP hw hK
    obtain ⟨hlt, xs, a1, hm⟩ := hg
    have live : ∀ b ∈ [N + 1, N], b < s.heap.objs.size := fun b hb => by
      obtain ⟨o, e, _⟩ := st.obj b hb
      exact Heap.lt_size e
    obtain ⟨hle, hz, q1⟩ := st
    obtain ⟨P1, S1, D1, s1, r1, g1⟩ := Kd.draws (A := X.A.in1) I k a1 q1 (ad_new (j := 0) h1) (I.ok.hd hc)
    have We := GoesN.enumFrom (elts := elts) (x1 := kk) (pos := tpos) c D1 (N + 1) (Nat.succ_ne_self _) (notIn_new (j := 1) (i := 0) h1 (by omega)) (by simp)
    refine We.goes i s _ E (by rw [hm]; exact hlt) ⟨hz, s1⟩ fun v h' tk hY st' hk htk => ?_
    obtain ⟨T, t, u, rfl, hT, pu, hTup⟩ := hY
    obtain ⟨x, hx, rx⟩ := r1 _ _ pu
    have new : ObjOk X.prog X.w (upd H T (.tup [.int (c + (i : Nat)), x])) h' T (.tup [.int (c + (i : Nat)), x]) := ⟨by show 2 ≤ sizeLine; decide, [.int (c + (i : Int)) t, u], .cons ⟨t, rfl⟩ (.cons rx .nil), hTup⟩
    have I1 := I.turnedNew (t' := tk) (ch := [N + 1, N]) (fun b o hb e => hk b o hb e) hf hT new
    refine ⟨.ref T, _, I1, rfl, ⟨T, x, rfl, I.hok.fresh hT, rfl, fun l hl => ?_⟩, ⟨hlt, st'.1, g1 _ _ st'.2⟩, fun b hb => ?_⟩
    · rw [Kd.At.inj I hl a1]; exact hx
    · rw [upd_ne (Nat.ne_of_lt (Nat.lt_of_lt_of_le (live b hb) hT))]
      exact (hf b hb).1
  done := by
    intro X hP hw hK hc i pins s σ H E I hf st hg
    subst hP hw hK
    obtain ⟨hge, xs, a1, hm⟩ := hg
    obtain ⟨hle, hz, q1⟩ := st
    have hi : i = xs.length := by omega
    obtain ⟨P1, S1, D1, s1, r1, g1⟩ := Kd.draws (A := X.A.in1) I k a1 q1 (ad_new (j := 0) h1) (I.ok.hd hc)
    have We := GoesN.enumFrom (elts := elts) (x1 := kk) (pos := tpos) c D1 (N + 1) (Nat.succ_ne_self _) (notIn_new (j := 1) (i := 0) h1 (by omega)) (by simp)
    rw [hi] at s1 hz
    refine We.stops s _ E ⟨hz, s1⟩ fun h' tk hk htk => ?_
    exact I.turnedL (t' := tk) (ch := [N + 1, N]) (fun b o hb e => hk b o hb e) hf
  self := fun A i s Q E st h => let ⟨_, ⟨_, z⟩, _⟩ := st; wpAny_pyIter_enum z h
end

set_option maxHeartbeats 1000000 in
/-- enumerate of one thing -/
theorem meets_enum1 {x : Value} {ob : Obj} {B : Heap → Prop} (b : Begins x ob B) :
    Meets (Builtin.«enumerate.__new__» ⟨[.type "enumerate", x], []⟩) (fun _ R s => B s.heap ∧ R (.ok (.ret (.ref (s.heap.push ob).objs.size)))
      { s with heap := (s.heap.push ob).push { cls := .type "enumerate", data := .fields #[.none, .bool false, .ref s.heap.objs.size, rawInt 0, .none, .none] } }) := .of_wp fun pr w A R s hh => by
  obtain ⟨hp, gg, dd, tt, oo⟩ := s
  obtain ⟨hb, hh⟩ := hh
  have hsub := sub_enumerate
  have qi : ∀ {A' : Around} {E : Value → Shared → Prop} {Q : Value → Shared → Prop}, Q (.ref hp.objs.size) ⟨hp.push ob, gg, dd, tt, oo⟩ → wpAny (model pr w) A' (pyIter x) Q E ⟨hp, gg, dd, tt, oo⟩ := fun z => b.iter pr w _ _ ⟨hp, gg, dd, tt, oo⟩ _ hb z
  wp_walk using qi
  refine wpAny_stack_any fun st => wpAny_pure ?_
  split
  · rename_i cc _ _ _ _ _
    cases (cc == Value.type "enumerate") <;> (wp_walk using qi; exact ⟨_, rfl, hh⟩)
  · wp_walk using qi
    exact ⟨_, rfl, hh⟩
theorem call_enum1 {prog : Program} {w : World} {A : Around} {E : Value → Shared → Prop} {s : Shared} {x : Value} {ob : Obj} {B : Heap → Prop} {Q : Value → Shared → Prop} (b : Begins x ob B) (hb : B s.heap)
    (k : ∀ h', IsEnum h' (s.heap.objs.size + 1) s.heap.objs.size 0 .none → h'.get? s.heap.objs.size = some ob → (∀ c o, s.heap.get? c = some o → h'.get? c = some o) → Q (.ref (s.heap.objs.size + 1)) { s with heap := h' }) :
    wpAny (model prog w) A (call (.type "enumerate") [x]) Q E s := by
  refine callType_new F.called_enumerate (by decide) (F.typeCall_enumerate_1 _) (F.newCall_enumerate_1 _) (fun obj => F.args_object_init_2 obj _) F.entry_enumerate_new (meets_enum1 b) ⟨hb, ?_⟩
  have sz : (s.heap.push ob).objs.size = s.heap.objs.size + 1 := Heap.size_push ..
  have g := Heap.get?_push_size (s.heap.push ob) (o := { cls := .type "enumerate", data := .fields #[.none, .bool false, .ref s.heap.objs.size, rawInt 0, .none, .none] }) rfl
  rw [sz] at g
  show _ ∧ _
  rw [sz]
  exact ⟨⟨_, g, rfl⟩, k _ g (Heap.get?_push_of_some _ (Heap.get?_push_size _ b.free)) fun c o e => Heap.get?_push_of_some _ (Heap.get?_push_of_some _ e)⟩

def iZq (K : PySem.W.Frag) (ta : TA) : TI := fun σ H R => ta σ H fun vs H1 => ∃ k1 k2 xs ys, vs = [Kd.v k1, Kd.v k2] ∧ k1.At K H1 xs ∧ k2.At K H1 ys ∧ R (Itq K k1 k2 (min xs.length ys.length)) H1
def iEq (K : PySem.W.Frag) (ta : TA) : TI := fun σ H R => ta σ H fun vs H1 => ∃ k xs, vs = [Kd.v k] ∧ k.At K H1 xs ∧ R (Ieq K k 0 xs.length) H1
section
variable {X : Cx} {e e2 : Expr} {ta : TA} {p pos tpos : Pos} {elts : List Expr} {kk : Nat}
theorem pi_zq (hg : Gl X "zip") (hm : X.mg "zip" = none) (ha : PA X [e, e2] ta) (hs : starEach [e, e2] X.env = (false, eval e X.env) :: starEach [e2] X.env := by rfl) (hpl : (backTo pos (starEach [e2] X.env)).any (·.1) = false := by rfl) :
    PI X (.Tuple elts kk tpos) (.Call (.Name "zip" p) [e, e2] [] pos) (iZq X.K ta) := by
  refine ⟨fun pins s σ H R I h => ?_⟩
  refine Call_ (ld_blt I hg hm PyProof.Rows.boot_zip (PyProof.Rows.callWith_type1 (thn (ha.run pos pins s σ H _ I h) fun us s1 ⟨vs, H1, I1, rr, k1, k2, xs, ys, ex, a1, a2, q⟩ => ?_) hs hpl))
  subst ex
  cases rr with
  | cons r rr =>
    cases rr with
    | cons r' rr =>
      cases rr
      obtain ⟨o1, B1, b1, t1, g1, l1⟩ := Kd.begins I1 k1 a1 r
      obtain ⟨o2, B2, b2, t2, g2, l2⟩ := Kd.begins I1 k2 a2 r'
      refine zip_begins2 b1 b2 t1 t2 fun h' hz hTI hTO hx hy hsz hk => wpAny_pyIter_zip hz ?_
      have I2 : Inv X pins σ H1 { s1 with heap := h' } := I1.kept (t' := s1.toks) hk
      refine ⟨s1.heap.objs.size + 4, [s1.heap.objs.size + 4, s1.heap.objs.size + 2, s1.heap.objs.size + 3, s1.heap.objs.size, s1.heap.objs.size + 1], _, _, H1, rfl, I2, turn_zq k1 k2 (min xs.length ys.length) s1.heap.objs.size l1 l2, ⟨Nat.zero_le _, hz, hTI, ⟨_, _, hTO⟩, g1 _ _ hx, g2 _ _ hy⟩, fun b hb => ?_, q⟩
      have : b = s1.heap.objs.size + 4 ∨ b = s1.heap.objs.size + 2 ∨ b = s1.heap.objs.size + 3 ∨ b = s1.heap.objs.size ∨ b = s1.heap.objs.size + 1 := by simpa using hb
      have hle : s1.heap.objs.size ≤ b := by rcases this with z | z | z | z | z <;> rw [z] <;> simp
      exact I1.fpOk hle (I1.hok.fresh hle)
theorem pi_eq (hg : Gl X "enumerate") (hm : X.mg "enumerate" = none) (ha : PA X [e] ta) (hs : starEach [e] X.env = [(false, eval e X.env)] := by rfl) :
    PI X (.Tuple elts kk tpos) (.Call (.Name "enumerate" p) [e] [] pos) (iEq X.K ta) := by
  refine ⟨fun pins s σ H R I h => ?_⟩
  refine Call_ (ld_blt I hg hm boot_enumerate (PyProof.Rows.callWith_type1 (thn (ha.run pos pins s σ H _ I h) fun us s1 ⟨vs, H1, I1, rr, k, xs, ex, a1, q⟩ => ?_) hs rfl))
  subst ex
  cases rr with
  | cons r rr =>
    cases rr
    obtain ⟨o1, B1, b1, t1, g1, l1⟩ := Kd.begins I1 k a1 r
    refine call_enum1 b1 t1 fun h' hz hx hk => wpAny_pyIter_enum hz ?_
    have I2 : Inv X pins σ H1 { s1 with heap := h' } := I1.kept (t' := s1.toks) hk
    refine ⟨s1.heap.objs.size + 1, [s1.heap.objs.size + 1, s1.heap.objs.size], _, _, H1, rfl, I2, turn_eq k 0 xs.length s1.heap.objs.size l1, ⟨Nat.zero_le _, ⟨_, hz⟩, g1 _ _ hx⟩, fun b hb => ?_, q⟩
    have : b = s1.heap.objs.size + 1 ∨ b = s1.heap.objs.size := by simpa using hb
    have hle : s1.heap.objs.size ≤ b := by rcases this with z | z <;> rw [z] <;> simp
    exact I1.fpOk hle (I1.hok.fresh hle)
end

/-! ### as functions -/
/-- what is not written, as its items -/
def stOf : D → Option (List D)
  | .tup l => some l
  | .fl l => some l
  | .str s => some (s.map fun c => .str [c])
  | _ => none
def qOf (h : IH) : D → Option (List D)
  | .ref n => lstOf h (.ref n)
  | d => stOf d
def zipQ (a b : D) (n : Nat) (h : IH) : Option (List D) := match qOf h a, qOf h b with
  | some l, some l' => if min l.length l'.length = n then some (List.zipWith (fun x y => .tup [x, y]) l l') else none
  | _, _ => none
def enumQ (a : D) (n : Nat) (h : IH) : Option (List D) := match qOf h a with
  | some l => if l.length = n then some (l.mapIdx fun i x => .tup [.int (i : Nat), x]) else none
  | _ => none
def iZip (m : MA) : MI := fun env h => (m env h).bind fun xs h1 => match xs with
  | [a, b] => match stOf a, stOf b with
    | some l, some l' => .ok (.st (List.zipWith (fun x y => .tup [x, y]) l l')) h1
    | _, _ => match qOf h1 a, qOf h1 b with
      | some l, some l' => .ok (.dy (zipQ a b (min l.length l'.length))) h1
      | _, _ => .no
  | _ => .no
def iEnum (m : MA) : MI := fun env h => (m env h).bind fun xs h1 => match xs with
  | [a] => match stOf a with
    | some l => .ok (.st (l.mapIdx fun i x => .tup [.int (i : Nat), x])) h1
    | _ => match qOf h1 a with
      | some l => .ok (.dy (enumQ a l.length)) h1
      | none => .no
  | _ => .no
def kdOf : D → V → Kd
  | .tup _, .ref a => .tp a
  | .str _, .str s => .tx s
  | _, .ref a => .ls a
  | _, _ => .ls 0
theorem q_kd {G : Cf} {et : List Addr} {H : Hp} {h : IH} {d : D} {l : List D} {v : V} (R : HRel G et h H) (e : qOf h d = some l) (r : Den G et H d v) : v = (kdOf d v).v ∧ ∃ xs : List V, DenL G et H l xs ∧ (kdOf d v).At G.K H xs := by
  cases d with
  | ref n =>
    obtain ⟨a, vs, rfl, h2, h3⟩ := lst_ok R (x := .ref n) e r
    exact ⟨rfl, vs, h3, h2⟩
  | tup l' =>
    cases e
    obtain ⟨a, vs, rfl, h2, h3⟩ := den_tup.mp r
    exact ⟨rfl, vs, h3, TpT.sq h2⟩
  | fl l' =>
    cases e
    obtain ⟨a, vs, rfl, h2, h3⟩ := den_fl.mp r
    exact ⟨rfl, vs, h3, h2.sq⟩
  | str s =>
    cases e
    rw [den_str.mp r]
    refine ⟨rfl, _, ?_, rfl⟩
    have : (strV s).cps.toList.map (fun c => V.str ⟨#[c]⟩) = ((s.map fun c => [c]).map strV).map V.str := by simp [strV]
    rw [this, show (s.map fun c => D.str [c]) = (s.map fun c => [c]).map D.str by simp]
    exact DenL.ofStrs
  | _ => cases e
section
variable {X : Cx} {G : Cf} {W : WX} {e e2 : Expr} {mt : MA} {pos p tpos : Pos} {elts : List Expr} {kk : Nat}
theorem stOf_kd {et : List Addr} {H : Hp} {d : D} {l : List D} {v : V} (e : stOf d = some l) (r : Den G et H d v) : ∃ (k : Kd) (xs : List V), v = k.v ∧ DenL G et H l xs ∧ ∀ H', Ext H H' → k.At G.K H' xs := by
  cases d with
  | tup l' =>
    cases e
    obtain ⟨a, vs, rfl, h2, h3⟩ := den_tup.mp r
    exact ⟨.tp a, vs, rfl, h3, fun H' x => x.sqT h2⟩
  | fl l' =>
    cases e
    obtain ⟨a, vs, rfl, h2, h3⟩ := den_fl.mp r
    exact ⟨.ls a, vs, rfl, h3, fun H' x => (h2.ext x).sq⟩
  | str s =>
    cases e
    refine ⟨.tx (strV s), _, den_str.mp r, ?_, fun H' x => rfl⟩
    have : (strV s).cps.toList.map (fun c => V.str ⟨#[c]⟩) = ((s.map fun c => [c]).map strV).map V.str := by simp [strV]
    rw [this, show (s.map fun c => D.str [c]) = (s.map fun c => [c]).map D.str by simp]
    exact DenL.ofStrs
  | _ => cases e
theorem den_pair {et : List Addr} {H : Hp} {h : IH} {a b : D} {x y : V} {T : Addr} (hT : H T = none) (ra : Den G et H a x) (rb : Den G et H b y) : Den G et (upd H T (.tup [x, y])) (.tup [a, b]) (.ref T) := by
  have ex : Ext H (upd H T (.tup [x, y])) := Ext.new hT
  exact den_tup.mpr ⟨T, [x, y], rfl, upd_same .., denL_cons.mpr ⟨x, [y], rfl, ra.mono List.prefix_rfl ex, denL_cons.mpr ⟨y, [], rfl, rb.mono List.prefix_rfl ex, denL_nil.mpr rfl⟩⟩⟩
theorem mi_zip (hK : X.K = G.K) (ha : PA X [e, e2] (tA G W mt)) (hm : X.mg "zip" = none) (hg : Gl X "zip" := by rfl) (hs : starEach [e, e2] X.env = (false, eval e X.env) :: starEach [e2] X.env := by rfl) (hpl : (backTo pos (starEach [e2] X.env)).any (·.1) = false := by rfl) :
    PI X (.Tuple elts kk tpos) (.Call (.Name "zip" p) [e, e2] [] pos) (tI G W (iZip mt)) := PI.imp (pi_zq hg hm ha hs hpl) fun σ H R ⟨et, env, h, hE, hH, hP⟩ => by
  rw [hK]
  refine ⟨et, env, h, hE, hH, (Pst.of_bind hP).imp fun et1 H1 h1 xs p e hr q vs hv => ?_⟩
  split at q
  · rename_i a b
    obtain ⟨v, w, rfl, ra, rb⟩ := list2 hv
    have dyn : ∀ l l', qOf h1 a = some l → qOf h1 b = some l' → Pst G et1 H1 (.ok (Src.dy (zipQ a b (min l.length l'.length))) h1) (fun et' H' _ src => ∀ J, JRel G et' H' src J → R J H') (fun c d H' => W c d σ H') → ∃ k1 k2 xs ys, [v, w] = [Kd.v k1, Kd.v k2] ∧ k1.At G.K H1 xs ∧ k2.At G.K H1 ys ∧ R (Itq G.K k1 k2 (min xs.length ys.length)) H1 := fun l l' ea eb q => by
      obtain ⟨v1, xs, d1, a1⟩ := q_kd hr ea ra
      obtain ⟨v2, ys, d2, a2⟩ := q_kd hr eb rb
      have n1 := d1.len
      have n2 := d2.len
      refine ⟨kdOf a v, kdOf b w, xs, ys, by rw [← v1, ← v2], a1, a2, q.here hr _ fun et2 H2 h2 p2 e2 R2 ok i => ?_⟩
      have ok' : (zipQ a b (min l.length l'.length) h2).isSome = true := ok
      obtain ⟨zs, ez⟩ := Option.isSome_iff_exists.mp ok'
      show (match (zipQ a b (min l.length l'.length) h2).bind fun xs => xs[i]? with | some d => _ | none => _)
      rw [ez]
      unfold zipQ at ez
      cases qa : qOf h2 a with
      | none => rw [qa] at ez; cases ez
      | some m =>
        cases qb : qOf h2 b with
        | none => rw [qa, qb] at ez; cases ez
        | some m' =>
          rw [qa, qb] at ez
          dsimp only at ez
          split at ez
          · rename_i hn
            cases ez
            obtain ⟨_, xs2, f1, b1⟩ := q_kd R2 qa (ra.mono p2 e2)
            obtain ⟨_, ys2, f2, b2⟩ := q_kd R2 qb (rb.mono p2 e2)
            have n3 := f1.len
            have n4 := f2.len
            show (match (List.zipWith (fun x y => D.tup [x, y]) m m')[i]? with | some d => _ | none => _)
            rw [List.getElem?_zipWith]
            cases e3 : m[i]? with
            | none =>
              have := List.getElem?_eq_none_iff.mp e3
              exact ⟨by omega, xs2, ys2, b1, b2, by omega⟩
            | some d =>
              cases e4 : m'[i]? with
              | none =>
                have := List.getElem?_eq_none_iff.mp e4
                exact ⟨by omega, xs2, ys2, b1, b2, by omega⟩
              | some d' =>
                have m1 := (List.getElem?_eq_some_iff.mp e3).1
                have m2 := (List.getElem?_eq_some_iff.mp e4).1
                refine ⟨⟨by omega, xs2, ys2, b1, b2, by omega⟩, fun z H' ⟨T, x, y, hz, hT, hH', hx, hy⟩ => ?_⟩
                subst hz hH'
                obtain ⟨v1, w1, r1⟩ := f1.get e3
                obtain ⟨v2, w2, r2⟩ := f2.get e4
                have x1 := hx _ b1
                have x2 := hy _ b2
                rw [w1] at x1
                rw [w2] at x2
                cases x1
                cases x2
                exact ⟨Ext.new hT, R2.new hT, den_pair (h := h2) hT r1 r2⟩
          · cases ez
    have alt : Pst G et1 H1 (match qOf h1 a, qOf h1 b with
      | some l, some l' => NR.R.ok (Src.dy (zipQ a b (min l.length l'.length))) h1
      | _, _ => .no) (fun et' H' _ src => ∀ J, JRel G et' H' src J → R J H') (fun c d H' => W c d σ H') → ∃ k1 k2 xs ys, [v, w] = [Kd.v k1, Kd.v k2] ∧ k1.At G.K H1 xs ∧ k2.At G.K H1 ys ∧ R (Itq G.K k1 k2 (min xs.length ys.length)) H1 := fun q => by
      cases qa : qOf h1 a with
      | none => rw [qa] at q; exact q.elim
      | some l =>
        cases qb : qOf h1 b with
        | none => rw [qa, qb] at q; exact q.elim
        | some l' => rw [qa, qb] at q; exact dyn l l' qa qb q
    cases ea : stOf a with
    | none => rw [ea] at q; exact alt q
    | some l =>
      cases eb : stOf b with
      | none => rw [ea, eb] at q; exact alt q
      | some l' =>
        rw [ea, eb] at q
        obtain ⟨k1, xs, rfl, d1, st1⟩ := stOf_kd ea ra
        obtain ⟨k2, ys, rfl, d2, st2⟩ := stOf_kd eb rb
        refine ⟨k1, k2, xs, ys, rfl, st1 _ (Ext.refl _), st2 _ (Ext.refl _), q.here hr _ (jrel_st fun et2 H2 h2 p2 e2 R2 i => ?_)⟩
        have n1 := d1.len
        have n2 := d2.len
        rw [List.getElem?_zipWith]
        cases e3 : l[i]? with
        | none =>
          have := List.getElem?_eq_none_iff.mp e3
          exact ⟨by omega, xs, ys, st1 _ e2, st2 _ e2, rfl⟩
        | some d =>
          cases e4 : l'[i]? with
          | none =>
            have := List.getElem?_eq_none_iff.mp e4
            exact ⟨by omega, xs, ys, st1 _ e2, st2 _ e2, rfl⟩
          | some d' =>
            have m1 := (List.getElem?_eq_some_iff.mp e3).1
            have m2 := (List.getElem?_eq_some_iff.mp e4).1
            refine ⟨⟨by omega, xs, ys, st1 _ e2, st2 _ e2, rfl⟩, fun z H' ⟨T, x, y, hz, hT, hH', hx, hy⟩ => ?_⟩
            subst hz hH'
            obtain ⟨v1, w1, r1⟩ := d1.get e3
            obtain ⟨v2, w2, r2⟩ := d2.get e4
            have x1 := hx _ (st1 _ e2)
            have x2 := hy _ (st2 _ e2)
            rw [w1] at x1
            rw [w2] at x2
            cases x1
            cases x2
            exact ⟨Ext.new hT, R2.new hT, den_pair (h := h2) hT (r1.mono p2 e2) (r2.mono p2 e2)⟩
  · exact q.elim
theorem mi_enum (hK : X.K = G.K) (ha : PA X [e] (tA G W mt)) (hm : X.mg "enumerate" = none) (hg : Gl X "enumerate" := by rfl) (hs : starEach [e] X.env = [(false, eval e X.env)] := by rfl) :
    PI X (.Tuple elts kk tpos) (.Call (.Name "enumerate" p) [e] [] pos) (tI G W (iEnum mt)) := PI.imp (pi_eq hg hm ha hs) fun σ H R ⟨et, env, h, hE, hH, hP⟩ => by
  rw [hK]
  refine ⟨et, env, h, hE, hH, (Pst.of_bind hP).imp fun et1 H1 h1 xs p e hr q vs hv => ?_⟩
  split at q
  · rename_i a
    obtain ⟨v, rfl, ra⟩ := list1 hv
    cases ea : stOf a with
    | none =>
      rw [ea] at q
      cases qa : qOf h1 a with
      | none => rw [qa] at q; exact q.elim
      | some l =>
        rw [qa] at q
        obtain ⟨v1, xs, d1, a1⟩ := q_kd hr qa ra
        have n1 := d1.len
        refine ⟨kdOf a v, xs, by rw [← v1], a1, q.here hr _ fun et2 H2 h2 p2 e2 R2 ok i => ?_⟩
        have ok' : (enumQ a l.length h2).isSome = true := ok
        obtain ⟨zs, ez⟩ := Option.isSome_iff_exists.mp ok'
        show (match (enumQ a l.length h2).bind fun xs => xs[i]? with | some d => _ | none => _)
        rw [ez]
        unfold enumQ at ez
        cases qb : qOf h2 a with
        | none => rw [qb] at ez; cases ez
        | some m =>
          rw [qb] at ez
          dsimp only at ez
          split at ez
          · rename_i hn
            cases ez
            obtain ⟨_, xs2, f1, b1⟩ := q_kd R2 qb (ra.mono p2 e2)
            have n3 := f1.len
            show (match (m.mapIdx fun i x => D.tup [.int (i : Nat), x])[i]? with | some d => _ | none => _)
            rw [List.getElem?_mapIdx]
            cases e3 : m[i]? with
            | none =>
              have := List.getElem?_eq_none_iff.mp e3
              exact ⟨by omega, xs2, b1, by omega⟩
            | some d =>
              have m1 := (List.getElem?_eq_some_iff.mp e3).1
              refine ⟨⟨by omega, xs2, b1, by omega⟩, fun z H' ⟨T, x, hz, hT, hH', hx⟩ => ?_⟩
              subst hz hH'
              obtain ⟨v1, w1, r1⟩ := f1.get e3
              have x1 := hx _ b1
              rw [w1] at x1
              cases x1
              exact ⟨Ext.new hT, R2.new hT, den_pair (h := h2) hT (by simp) r1⟩
          · cases ez
    | some l =>
      rw [ea] at q
      obtain ⟨k1, xs, rfl, d1, st1⟩ := stOf_kd ea ra
      refine ⟨k1, xs, rfl, st1 _ (Ext.refl _), q.here hr _ (jrel_st fun et2 H2 h2 p2 e2 R2 i => ?_)⟩
      have n1 := d1.len
      rw [List.getElem?_mapIdx]
      cases e3 : l[i]? with
      | none =>
        have := List.getElem?_eq_none_iff.mp e3
        exact ⟨by omega, xs, st1 _ e2, rfl⟩
      | some d =>
        have m1 := (List.getElem?_eq_some_iff.mp e3).1
        refine ⟨⟨by omega, xs, st1 _ e2, rfl⟩, fun z H' ⟨T, x, hz, hT, hH', hx⟩ => ?_⟩
        subst hz hH'
        obtain ⟨v1, w1, r1⟩ := d1.get e3
        have x1 := hx _ (st1 _ e2)
        rw [w1] at x1
        cases x1
        exact ⟨Ext.new hT, R2.new hT, den_pair (h := h2) hT (by simp) (r1.mono p2 e2)⟩
  · exact q.elim
end
end NR

set_option Elab.async false
set_option linter.all false
set_option maxRecDepth 100000
set_option maxHeartbeats 1000000
/-! A def that calls itself. -/
namespace NR
open PySem PySem.Spec PyProof.Rows L2
/-- nothing is told -/
def mNo : MF := fun _ _ => .no
theorem fnG_no {P : Program} {w : World} {K : PySem.W.Frag} {mg : Str → Option Value} {base : Heap} {G : Cf} {x : Str} {st : Stmt} {ps : List Str} {k n : Nat} (d : DefAt K mg x st ps) (hn : ps.length = n) : FnG P w K mg base G x k n mNo :=
  d.fn fun f fd F => ⟨fun vs H Q E h => h.1.trans hn.symm, fun A outer s H args us vs Q E hr he hb hv hs => by
    obtain ⟨_, et, ds, h, _, _, hP⟩ := hs
    exact hP.elim⟩
end NR

set_option Elab.async false
set_option linter.all false
set_option maxRecDepth 100000
set_option maxHeartbeats 1000000
/-! Dicts: keys ints and texts, or tuples of such. -/
namespace NR
open PySem PySem.Spec PyProof.Rows L2
def keyT? : D → Option (List DKey)
  | .tup l => allM keyD? l
  | _ => none
def valKD {κ : Type} [DecidableEq κ] (kvs : List (κ × D)) (k : κ) : Option D := (kvs.find? fun p => decide (p.1 = k)).map (·.2)
/-- what a dict holds at a key -/
def dGet? (h : IH) (o i : D) : Option (Option D) := match o with
  | .ref n => match h[n]? with
    | some (.dk kvs) => (keyD? i).map (valKD kvs)
    | some (.dt kvs) => (keyT? i).map (valKD kvs)
    | _ => none
  | .fd ks l => (keyD? i).map (valKD (ks.zip l))
  | _ => none
theorem key_den {G : Cf} {et : List Addr} {H : Hp} {d : D} {v : V} {k : DKey} (e : keyD? d = some k) (r : Den G et H d v) : v = kV (keyV k) := by
  unfold keyD? at e
  split at e
  · cases e; exact den_int.mp r
  · cases e; exact den_str.mp r
  · cases e
theorem keys_den {G : Cf} {et : List Addr} {H : Hp} : ∀ {l : List D} {vs : List V} {ks : List DKey}, allM keyD? l = some ks → DenL G et H l vs → vs = (ks.map keyV).map kV
  | [], vs, ks, e, r => by
    simp only [allM, Option.some.injEq] at e
    subst e
    exact denL_nil.mp r
  | d :: l, vs, ks, e, r => by
    obtain ⟨a, as, e1, e2, rfl⟩ := allM_cons e
    obtain ⟨v, ws, rfl, r1, r2⟩ := denL_cons.mp r
    rw [key_den e1 r1, keys_den e2 r2]
    rfl
theorem keyVs_inj : ∀ {a b : List DKey}, a.map keyV = b.map keyV → a = b
  | [], [], _ => rfl
  | [], _ :: _, h => by simp at h
  | _ :: _, [], h => by simp at h
  | x :: a, y :: b, h => by
    simp only [List.map_cons, List.cons.injEq] at h
    rw [keyV_inj h.1, keyVs_inj h.2]
def OptR (G : Cf) (et : List Addr) (H : Hp) : Option D → Option V → Prop
  | some d, some v => Den G et H d v
  | none, none => True
  | _, _ => False
theorem denK_val {κ κ' : Type} [DecidableEq κ] [DecidableEq κ'] {f : κ → κ'} (inj : ∀ a b, f a = f b → a = b) {G : Cf} {et : List Addr} {H : Hp} (k : κ) : ∀ {kvs : List (κ × D)} {ws : List (κ' × V)}, DenK f G et H kvs ws →
    OptR G et H (valKD kvs k) (valV ws (f k))
  | [], [], h => trivial
  | [], _ :: _, h => by have := h.1; simp at this
  | _ :: _, [], h => by have := h.1; simp at this
  | p :: kvs, q :: ws, h => by
    obtain ⟨h1, h2⟩ := h
    simp only [List.map_cons, List.cons.injEq] at h1
    simp only [List.map_cons] at h2
    obtain ⟨v0, ws0, e0, h3, h4⟩ := denL_cons.mp h2
    simp only [List.cons.injEq] at e0
    obtain ⟨rfl, rfl⟩ := e0
    have ih := denK_val inj (G := G) (et := et) (H := H) k (kvs := kvs) (ws := ws) ⟨h1.2, h4⟩
    by_cases e : p.1 = k
    · have e' : q.1 = f k := by rw [h1.1, e]
      have a1 : valKD (p :: kvs) k = some p.2 := by simp [valKD, e]
      rw [a1, valV_pos e']
      exact h3
    · have e' : ¬ q.1 = f k := fun z => e (inj _ _ (h1.1.symm.trans z))
      have a1 : valKD (p :: kvs) k = valKD kvs k := by simp [valKD, e]
      rw [a1, valV_neg e']
      exact ih
theorem denK_zip {G : Cf} {et : List Addr} {H : Hp} : ∀ {ks : List DKey} {l : List D} {ws : List (Key × V)}, ws.map (·.1) = ks.map keyV → DenL G et H l (ws.map (·.2)) → DenK keyV G et H (ks.zip l) ws
  | [], l, [], h1, h2 => by
    have := h2.len
    have : l = [] := List.eq_nil_of_length_eq_zero (by simpa using this.symm)
    subst this
    exact ⟨rfl, by simp⟩
  | [], _, _ :: _, h1, _ => by simp at h1
  | _ :: _, _, [], h1, _ => by simp at h1
  | k :: ks, l, w :: ws, h1, h2 => by
    simp only [List.map_cons, List.cons.injEq] at h1 h2
    cases l with
    | nil => have := h2.len; simp at this
    | cons d l =>
      obtain ⟨v0, ws0, e0, h3, h4⟩ := denL_cons.mp h2
      simp only [List.cons.injEq] at e0
      obtain ⟨e1, e2⟩ := e0
      have ih := denK_zip h1.2 (e2 ▸ h4)
      refine ⟨by simp [h1.1, ih.1], ?_⟩
      simp only [List.zip_cons_cons, List.map_cons]
      exact denL_cons.mpr ⟨w.2, _, rfl, by rw [e1]; exact h3, ih.2⟩
section
variable {G : Cf} {et : List Addr} {H : Hp} {h : IH}
theorem dget_of (R : HRel G et h H) {o i : D} {r : Option D} {vo vi : V} (e : dGet? h o i = some r) (ro : Den G et H o vo) (ri : Den G et H i vi) : ∃ a u, vo = .ref a ∧ DGet H a vi u ∧ OptR G et H r u := by
  cases o with
  | ref n =>
    obtain ⟨a, h1, rfl⟩ := den_ref.mp ro
    simp only [dGet?] at e
    split at e
    · rename_i kvs hc
      obtain ⟨ws, c1, c2⟩ := R.cell n _ a hc h1
      simp only [Option.map_eq_some_iff] at e
      obtain ⟨k, e1, rfl⟩ := e
      rw [key_den e1 ri]
      exact ⟨a, _, rfl, DGet.k c1, denK_val (fun a b => keyV_inj) k c2⟩
    · rename_i kvs hc
      obtain ⟨ws, c1, c2⟩ := R.cell n _ a hc h1
      simp only [Option.map_eq_some_iff] at e
      obtain ⟨k, e1, rfl⟩ := e
      cases i with
      | tup l =>
        obtain ⟨b, vs, rfl, t1, t2⟩ := den_tup.mp ri
        have ek := keys_den (show allM keyD? l = some k from e1) t2
        subst ek
        exact ⟨a, _, rfl, DGet.t c1 t1, denK_val (fun a b => keyVs_inj) k c2⟩
      | _ => cases e1
    · cases e
  | fd ks l =>
    obtain ⟨a, ws, rfl, ⟨oo, c1⟩, c2, c3⟩ := den_fd.mp ro
    simp only [dGet?, Option.map_eq_some_iff] at e
    obtain ⟨k, e1, rfl⟩ := e
    rw [key_den e1 ri]
    exact ⟨a, _, rfl, .inl ⟨ws, _, .inr ⟨oo, c1⟩, rfl, rfl⟩, denK_val (fun a b => keyV_inj) k (denK_zip c2 c3)⟩
  | _ => cases e
end
/-- k in d -/
def dDIn (neg : Bool) : D → D → IH → R D := fun x y h => match dGet? h y x with
  | some r => .ok (.bl (if neg then !r.isSome else r.isSome)) h
  | none => .no
/-- d[k] -/
def dDGet : D → D → IH → R D := fun o i h => match dGet? h o i with
  | some (some d) => .ok d h
  | _ => .no
def rDIn (neg : Bool) : R2 := fun x y H Q => ∃ a o, y = .ref a ∧ DGet H a x o ∧ Q (.bl (if neg then !o.isSome else o.isSome)) H
section
variable {X : Cx} {G : Cf} {W : WX}
theorem op_dIn (hu : X.A.units + 64 < cLine) : OpR X (compareOp .In) (rDIn false) := by
  intro pins s σ H x y v u Q I rx ry h
  obtain ⟨a, o, rfl, g, q⟩ := h
  obtain rfl : u = Value.ref a := ry
  exact d_in (by omega) I g rx fun s3 I3 => ⟨.bl o.isSome, H, I3, rfl, q⟩
theorem op_dNotIn (hu : X.A.units + 64 < cLine) : OpR X (compareOp .NotIn) (rDIn true) := by
  intro pins s σ H x y v u Q I rx ry h
  obtain ⟨a, o, rfl, g, q⟩ := h
  obtain rfl : u = Value.ref a := ry
  exact d_notIn (by omega) I g rx fun s3 I3 => ⟨.bl (!o.isSome), H, I3, rfl, q⟩
theorem dDIn_ok (neg : Bool) : OpS G (rDIn neg) (dDIn neg) := by
  intro et H h x y v w W Q rx ry R p
  unfold dDIn at p
  split at p
  · rename_i r e
    obtain ⟨a, u, rfl, g, hr⟩ := dget_of R e ry rx
    have es : u.isSome = r.isSome := by
      cases u <;> cases r <;> first | rfl | exact hr.elim
    refine ⟨a, u, rfl, g, ?_⟩
    rw [es]
    exact p.here R _ (by simp)
  · exact p.elim
theorem me_dget {a b : Expr} {ma mb : ME} {pos : Pos} (hu : X.A.units + 64 < cLine) (ha : PE X a (tE G W ma)) (hb : PE X b (tE G W mb)) (hs : NoSl b := by exact fun _ _ => rfl) : PE X (.Subscript a b pos) (tE G W (mOp dDGet ma mb)) :=
  PE.imp (pe_dget (by omega) ha hb hs) fun σ H Q ⟨et, env, h, hE, hH, hP⟩ => by
    refine ⟨et, env, h, hE, hH, (Pst.of_bind hP).imp fun et1 H1 h1 x p e hr q v hv => ?_⟩
    refine ⟨et1, env, h1, hE.mono p e, hr, (Pst.of_bind q).imp fun et2 H2 h2 y p2 e2 hr2 q2 w hw => ?_⟩
    unfold dDGet at q2
    split at q2
    · rename_i d ed
      obtain ⟨a, u, rfl, g, hd⟩ := dget_of hr2 ed (hv.mono p2 e2) hw
      cases u with
      | none => exact hd.elim
      | some z => exact ⟨a, z, rfl, g, q2.here hr2 _ hd⟩
    · exact q2.elim
/-- d.get(k) -/
def dDGet1 : D → D → IH → R D := fun o i h => match dGet? h o i with
  | some r => .ok (r.getD .non) h
  | none => .no
def isDD (h : IH) : D → Bool
  | .ref n => match h[n]? with
    | some (.dk _) => true
    | some (.dt _) => true
    | _ => false
  | _ => false
theorem isDD_ok {et : List Addr} {H : Hp} {h : IH} (R : HRel G et h H) {d : D} {v : V} (e : isDD h d = true) (r : Den G et H d v) : ∃ a, v = .ref a ∧ IsD H a := by
  cases d with
  | ref n =>
    obtain ⟨a, h1, rfl⟩ := den_ref.mp r
    simp only [isDD] at e
    split at e
    · rename_i kvs hc
      obtain ⟨ws, c1, c2⟩ := R.cell n _ a hc h1
      exact ⟨a, rfl, .inl ⟨ws, .inl c1⟩⟩
    · rename_i kvs hc
      obtain ⟨ws, c1, c2⟩ := R.cell n _ a hc h1
      exact ⟨a, rfl, .inr ⟨ws, .inl c1⟩⟩
    · cases e
  | _ => cases e
def mDGet1 (mo mi : ME) : ME := fun env h => (mo env h).bind fun x h1 => if isDD h1 x = true then (mi env h1).bind fun y h2 => dDGet1 x y h2 else .no
theorem me_dget1 {o e : Expr} {mo mi : ME} {apos cpos : Pos} (hu : X.A.units + 64 < cLine) (ho : PE X o (tE G W mo)) (he : PE X e (tE G W mi)) (m : M1 X o "get" apos e cpos := by exact ⟨rfl, rfl, rfl, rfl⟩) : PE X (.Call (.Attribute o "get" apos) [e] [] cpos) (tE G W (mDGet1 mo mi)) :=
  PE.imp (pe_dget1 (by omega) ho he m) fun σ H Q ⟨et, env, h, hE, hH, hP⟩ => by
    refine ⟨et, env, h, hE, hH, (Pst.of_bind hP).imp fun et1 H1 h1 x p e hr q v hv => ?_⟩
    split at q
    · rename_i c
      obtain ⟨a, rfl, hd⟩ := isDD_ok hr c hv
      refine ⟨a, rfl, hd, et1, env, h1, hE.mono p e, hr, (Pst.of_bind q).imp fun et2 H2 h2 y p2 e2 hr2 q2 w hw => ?_⟩
      unfold dDGet1 at q2
      split at q2
      · rename_i r ed
        obtain ⟨b, u, eb, g, hd⟩ := dget_of hr2 ed (hv.mono p2 e2) hw
        cases eb
        refine ⟨u, g, q2.here hr2 _ ?_⟩
        cases u <;> cases r <;> first | exact hd.elim | skip
        · simp
        · exact hd
      · exact q2.elim
    · exact q.elim
/-- d[k] = v -/
def putDD (o i v : D) (h : IH) : Option IH := match o with
  | .ref n => match h[n]? with
    | some (.dk kvs) => match keyD? i with
      | some k => if kvs.length < 10000000 then some (h.set n (.dk (putKD kvs k v))) else none
      | none => none
    | some (.dt kvs) => match keyT? i with
      | some k => if kvs.length < 10000000 then some (h.set n (.dt (putKD kvs k v))) else none
      | none => none
    | _ => none
  | _ => none
def rSetD : V → V → V → Hp → (Hp → Prop) → Prop := fun o i v H Q => ∃ a H', o = .ref a ∧ DPut H a i v H' ∧ Q H'
theorem set_dict (hu : X.A.units + 64 < cLine) : PSet X rSetD := by
  intro pins s σ H o i v ov iv u Q I ro ri rv h
  obtain ⟨a, H', rfl, g, q⟩ := h
  obtain rfl : ov = Value.ref a := ro
  exact d_setItem (by omega) I g ri rv fun s4 I4 => ⟨H', I4, q⟩
theorem putDD_ok {et : List Addr} {H : Hp} {h h' : IH} (R : HRel G et h H) {o i v : D} {vo vi vv : V} {Q : Hp → Prop} (e : putDD o i v h = some h') (ro : Den G et H o vo) (ri : Den G et H i vi) (rv : Den G et H v vv) (q : ∀ H', Ext H H' → HRel G et h' H' → Q H') : rSetD vo vi vv H Q := by
  cases o with
  | ref n =>
    obtain ⟨a, h1, rfl⟩ := den_ref.mp ro
    simp only [putDD] at e
    split at e
    · rename_i kvs hc
      split at e
      · rename_i k ek
        split at e
        · rename_i l
          cases e
          obtain ⟨ws, c1, c2⟩ := R.cell n _ a hc h1
          rw [key_den ek ri]
          have lw : ws.length = kvs.length := by have := congrArg List.length c2.1; simpa using this
          have ex : Ext H (upd H a (.dK (putK ws (keyV k) vv))) := Ext.mut c1 True.intro
          refine ⟨a, _, rfl, DPut.k c1 (by rw [lw, sizeLine_eq]; omega), q _ ex (R.set hc h1 rfl c1 True.intro ⟨_, upd_same, (denK_put (fun a b => keyV_inj) rv c2).mono List.prefix_rfl ex⟩)⟩
        · cases e
      · cases e
    · rename_i kvs hc
      split at e
      · rename_i k ek
        split at e
        · rename_i l
          cases e
          obtain ⟨ws, c1, c2⟩ := R.cell n _ a hc h1
          cases i with
          | tup t =>
            obtain ⟨b, vs, rfl, t1, t2⟩ := den_tup.mp ri
            have ek := keys_den (show allM keyD? t = some k from ek) t2
            subst ek
            have lw : ws.length = kvs.length := by have := congrArg List.length c2.1; simpa using this
            have ex : Ext H (upd H a (.dT (putK ws (k.map keyV) vv))) := Ext.mut c1 True.intro
            refine ⟨a, _, rfl, DPut.t c1 t1 (by rw [lw, sizeLine_eq]; omega), q _ ex (R.set hc h1 rfl c1 True.intro ⟨_, upd_same, (denK_put (fun a b => keyVs_inj) rv c2).mono List.prefix_rfl ex⟩)⟩
          | _ => cases ek
        · cases e
      · cases e
    · cases e
  | _ => cases e
def msSetD (mo mi me : ME) : MS := fun env h => (me env h).bindS env fun v h1 => (mo env h1).bindS env fun o h2 => (mi env h2).bindS env fun i h3 => match putDD o i v h3 with
  | some h4 => .nx env h4
  | none => .no
theorem ms_setD {e o i : Expr} {me mo mi : ME} {pos pos' : Pos} (hu : X.A.units + 64 < cLine) (he : PE X e (tE G W me)) (ho : PE X o (tE G W mo)) (hi : PE X i (tE G W mi)) (ha : ∀ v, assign (.Subscript o i pos') X.env v = (do
      let ov ← holding [v] (eval o X.env)
      let iv ← holding [v, ov] (eval i X.env)
      standAt pos'
      holding [v, ov, iv] (setItem ov iv v)
      release [v, ov, iv] []) := by intro _; rfl) (hs : swapsWithSole [.Subscript o i pos'] e pos.line X.env = pure false := by rfl) (hw : swappedStores [.Subscript o i pos'] e X.env = pure none := by rfl)
    (h1 : (assignEach [.Subscript o i pos'] X.env).map (·.2) = [assign (.Subscript o i pos') X.env] := by rfl) : PS X (.Assign [.Subscript o i pos'] e pos) (tS G W (msSetD mo mi me)) :=
  PS.imp (ps_asg he (pg_sub ho hi (set_dict hu) ha) hs hw h1) fun D σ H ⟨et, env, h, hE, hH, hP⟩ => by
    refine ⟨et, env, h, hE, hH, (PstS.of_bind hE hP).imp fun et1 H1 h1 v p e hr q vv hv => ?_⟩
    have hE1 := hE.mono p e
    refine ⟨et1, env, h1, hE1, hr, (PstS.of_bind hE1 q).imp fun et2 H2 h2 o p2 e2 hr2 q2 vo ho => ?_⟩
    have hE2 := hE1.mono p2 e2
    refine ⟨et2, env, h2, hE2, hr2, (PstS.of_bind hE2 q2).imp fun et3 H3 h3 i p3 e3 hr3 q3 vi hi => ?_⟩
    have hE3 := hE2.mono p3 e3
    split at q3
    · rename_i h4 e4
      exact putDD_ok hr3 e4 (ho.mono p3 e3) hi ((hv.mono p2 e2).mono p3 e3) fun H' ex hr4 => q3 et3 H' σ List.prefix_rfl ex hr4 (hE3.mono List.prefix_rfl ex)
    · exact q3.elim
/-- an empty dict with tuples as keys -/
def mDictT : ME := fun _ h => .ok (.ref h.length) (h ++ [.dt []])
theorem me_dict0T {pos : Pos} : PE X (.Dict [] [] pos) (tE G W mDictT) := PE.imp pe_dnewT fun σ H Q ⟨et, env, h, hE, hH, hP⟩ p hp => by
  have hH1 : HRel G (et ++ [p]) (h ++ [.dt []]) (upd H p (.dT [])) := hH.push hp ⟨[], upd_same, rfl, by simp⟩
  refine hP (et ++ [p]) _ (List.prefix_append _ _) (Ext.new hp) hH1 _ (den_ref.mpr ⟨p, ?_, rfl⟩)
  rw [← hH.len]
  simp
end
end NR

set_option Elab.async false
set_option linter.all false
set_option maxRecDepth 100000
set_option maxHeartbeats 1000000
/-! More sources, more operators. -/
namespace NR
open PySem PySem.Spec PyProof.Rows L2
/-! ### ranges downwards -/
def intsDown (hi : Int) (n : Nat) : List D := (List.range n).map fun i => .int (hi - (i : Nat))
def iRange3 (m : MA) : MI := fun env h => (m env h).bind fun xs h1 => match xs with
  | [.int i, .int j, .int c] => if c = -1 ∧ -10000000 ≤ i ∧ i ≤ 10000000 ∧ -10000000 ≤ j ∧ j ≤ 10000000 then .ok (.st (intsDown i (i - j).toNat)) h1 else .no
  | _ => .no
theorem down_get (hi : Int) (n i : Nat) : (intsDown hi n)[i]? = if i < n then some (.int (hi - (i : Nat))) else none := by
  unfold intsDown
  rw [List.getElem?_map]
  by_cases h : i < n
  · rw [if_pos h, List.getElem?_range h]
    rfl
  · rw [if_neg h, List.getElem?_eq_none (by simpa using h)]
    rfl
section
variable {X : Cx} {G : Cf} {W : WX} {e tg : Expr} {es : List Expr} {me : ME} {mt : MA} {pos p : Pos}
theorem jrel_down {et : List Addr} {H : Hp} {hi : Int} {n : Nat} : JRel G et H (.st (intsDown hi n)) (Itc hi (-1) n) := jrel_st fun et1 H1 h1 p ex R i => by
  rw [down_get]
  by_cases h : i < n
  · rw [if_pos h]
    refine ⟨h, fun x H' ⟨hH, hx⟩ => ?_⟩
    rw [hH, hx]
    refine ⟨Ext.refl _, R, ?_⟩
    rw [den_int]
    congr 1
    omega
  · rw [if_neg h]
    show n ≤ i
    omega
theorem list3 {et : List Addr} {H : Hp} {a b c : D} {vs : List V} (h : DenL G et H [a, b, c] vs) : ∃ x y z, vs = [x, y, z] ∧ Den G et H a x ∧ Den G et H b y ∧ Den G et H c z := by
  obtain ⟨x, v1, rfl, h1, k⟩ := denL_cons.mp h
  obtain ⟨y, v2, rfl, h2, k⟩ := denL_cons.mp k
  obtain ⟨z, v3, rfl, h3, k⟩ := denL_cons.mp k
  rw [denL_nil.mp k]
  exact ⟨x, y, z, rfl, h1, h2, h3⟩
theorem mi_range3 {a b c : Expr} (ha : PA X [a, b, c] (tA G W mt)) (hm : X.mg "range" = none) (hg : Gl X "range" := by rfl) (hs : starEach [a, b, c] X.env = (false, eval a X.env) :: starEach [b, c] X.env := by rfl) (hpl : (backTo pos (starEach [b, c] X.env)).any (·.1) = false := by rfl) : PI X tg (.Call (.Name "range" p) [a, b, c] [] pos) (tI G W (iRange3 mt)) :=
  PI.imp (pi_range3 hg hm ha hs hpl) fun σ H R ⟨et, env, h, hE, hH, hP⟩ => by
    refine ⟨et, env, h, hE, hH, (Pst.of_bind hP).imp fun et1 H1 h1 xs p e hr q vs hv => ?_⟩
    split at q
    · split at q
      · rename_i i j k c
        obtain ⟨v, w, u, rfl, r1, r2, r3⟩ := list3 hv
        obtain ⟨rfl, c1, c2, c3, c4⟩ := c
        exact ⟨i, j, -1, _, by rw [den_int.mp r1, den_int.mp r2, den_int.mp r3], RgC.neg (by omega) (by omega) (by omega) (by omega), q.here hr _ jrel_down⟩
      · exact q.elim
    · exact q.elim
end
end NR

set_option Elab.async false
set_option linter.all false
set_option maxRecDepth 100000
/-! Lists compared by < -/
namespace NR
open PySem PySem.Spec PyProof.Rows L2
def rLtL (K : PySem.W.Frag) : R2 := fun x y H Q => ∃ d e, Dp K H x d ∧ Dp K H y e ∧ PySem.W.alike d e = true ∧ d ≠ .none ∧ d.depth ≤ 50 ∧ Q (.bl (PySem.W.dataLt d e)) H
theorem op_ltL {X : Cx} (hu : X.A.units + 64 < cLine) : OpR X (compareOp .Lt) (rLtL X.K) := by
  intro pins s σ H x y v u Q I rx ry h
  obtain ⟨d, e, hd, he, al, dn, dd, q⟩ := h
  obtain ⟨as, r1⟩ := Dp.reads I d x v hd rx
  obtain ⟨bs, r2⟩ := Dp.reads I e y u he ry
  exact PySem.W.lt_data r1 r2 al dn (by omega) ⟨.bl _, H, I, rfl, q⟩
def dLtL : D → D → IH → R D := fun x y h => match D.py h 50 x, D.py h 50 y with
  | some (.list a), some (.list b) => if PySem.W.alike (.list a) (.list b) = true then .ok (.bl (PySem.W.dataLt (.list a) (.list b))) h else .no
  | _, _ => .no
theorem dLtL_ok {X : Cx} {G : Cf} (hK : X.K = G.K) : OpS G (rLtL X.K) dLtL := by
  intro et H h x y v w W Q rx ry R p
  unfold dLtL at p
  split at p
  · rename_i d1 d2 e1 e2
    split at p
    · rename_i al
      obtain ⟨a1, a2, a3⟩ := py_ok R 50 x v _ e1 rx
      obtain ⟨b1, b2, b3⟩ := py_ok R 50 y w _ e2 ry
      rw [hK]
      exact ⟨_, _, a1, b1, al, by simp, a3, p.here R _ (by simp)⟩
    · exact p.elim
  · exact p.elim
theorem lt_toks : ∀ (ns ms : List Int), PyProof.Rows.lexLt PyProof.Rows.itemOrd (PySem.W.keyToksAll (ns.map PyData.int)) (PySem.W.keyToksAll (ms.map PyData.int)) = HT.lexLt ns ms
  | [], [] => rfl
  | [], m :: ms => rfl
  | n :: ns, [] => rfl
  | n :: ns, m :: ms => by
    rw [List.map_cons, List.map_cons, PySem.W.keyToksAll, PySem.W.keyToksAll, PyProof.Rows.lex_self, PySem.W.keyToks, PySem.W.keyToks]
    show PyProof.Rows.lexLt PyProof.Rows.itemOrd (.inl n :: _) (.inl m :: _) = _
    unfold HT.lexLt
    by_cases e : n = m
    · subst e
      rw [PyProof.Rows.lex_self, if_pos rfl]
      exact lt_toks ns ms
    · rw [if_neg e]
      exact PyProof.Rows.lex_diff (O := PyProof.Rows.itemOrd) (x := Sum.inl n) (y := Sum.inl m) (by intro z; injection z with z; exact e z)
theorem alike_ints : ∀ (ns ms : List Int), PySem.W.alikeAll (ns.map PyData.int) (ms.map PyData.int) = true
  | [], _ => by simp [PySem.W.alikeAll]
  | n :: ns, [] => by simp [PySem.W.alikeAll]
  | n :: ns, m :: ms => by simp [PySem.W.alikeAll, PySem.W.alike, alike_ints ns ms]
theorem py_ints {h : IH} {k : Nat} : ∀ (ns : List Int), allM (D.py h (k + 1)) (ns.map D.int) = some (ns.map PyData.int)
  | [] => rfl
  | n :: ns => by
    rw [List.map_cons, allM, py_ints ns]
    rfl
theorem dLtL_ints {ns ms : List Int} {h : IH} : dLtL (.fl (ns.map D.int)) (.fl (ms.map D.int)) h = .ok (.bl (HT.lexLt ns ms)) h := by
  have e1 : ∀ xs : List Int, D.py h 50 (.fl (xs.map D.int)) = some (.list (xs.map PyData.int)) := fun xs => by
    show (allM (D.py h 49) (xs.map D.int)).map PyData.list = _
    rw [py_ints (k := 48)]
    rfl
  unfold dLtL
  rw [e1, e1]
  dsimp only
  have al : PySem.W.alike (.list (ns.map PyData.int)) (.list (ms.map PyData.int)) = true := by
    unfold PySem.W.alike
    exact alike_ints ns ms
  rw [if_pos al]
  unfold PySem.W.dataLt
  rw [PySem.W.keyToks, PySem.W.keyToks, lt_toks]
end NR

set_option Elab.async false
set_option linter.all false
set_option maxRecDepth 100000
/-! rfind and split of one sign; the place of a datum in a list. -/
namespace NR
open PySem PySem.Spec PyProof.Rows L2
def lstI (c : Nat) : List Nat → Option Nat
  | [] => none
  | d :: s => match lstI c s with
    | some i => some (i + 1)
    | none => if d = c then some 0 else none
theorem lstI_none {c : Nat} : ∀ {s : List Nat}, lstI c s = none ↔ ∀ k : Nat, s[k]? ≠ some c
  | [] => by simp [lstI]
  | d :: s => by
    unfold lstI
    constructor
    · intro h k
      cases e : lstI c s with
      | some i => rw [e] at h; cases h
      | none =>
        rw [e] at h
        by_cases q : d = c
        · simp [q] at h
        · cases k with
          | zero => simpa using q
          | succ k => simpa using lstI_none.mp e k
    · intro h
      have : lstI c s = none := lstI_none.mpr fun k => by simpa using h (k + 1)
      rw [this]
      have := h 0
      simp at this
      simp [this]
theorem lstI_some {c : Nat} : ∀ {s : List Nat} {i : Nat}, s[i]? = some c → (∀ k : Nat, i < k → s[k]? ≠ some c) → lstI c s = some i
  | [], i, h, _ => by simp at h
  | d :: s, 0, h, n => by
    have : lstI c s = none := lstI_none.mpr fun k => by simpa using n (k + 1) (by omega)
    unfold lstI
    rw [this]
    simp at h
    simp [h]
  | d :: s, i + 1, h, n => by
    have := lstI_some (s := s) (i := i) (by simpa using h) fun k hk => by simpa using n (k + 1) (by omega)
    unfold lstI
    rw [this]
def rfI (c : Nat) (s : List Nat) : Int := match lstI c s with
  | some i => (i : Int)
  | none => -1
open Builtin.Str StrLaws in
theorem rfind_one (s : List Nat) (c : Nat) : Txt.rfind (strV s) (strV [c]) = rfI c s := by
  have at_ : ∀ i, At (strV s) (strV [c]) (strV s).length i ↔ s[i]? = some c := fun i => by
    have := subAt_one (strV s) c i
    simpa [strV, At] using this
  unfold Txt.rfind rfI
  rcases last_spec (strV s) (strV [c]) with ⟨h1, h2⟩ | ⟨i, h1, h2, h3⟩
  · rw [h1, lstI_none.mpr fun k z => h2 k ((at_ k).mpr z)]
  · rw [h1, lstI_some ((at_ i).mp h2) fun k hk z => h3 k hk ((at_ k).mpr z)]
/-- the parts between -/
def spl1 (c : Nat) : List Nat → List (List Nat)
  | [] => [[]]
  | d :: s => if d = c then [] :: spl1 c s else match spl1 c s with
    | w :: r => (d :: w) :: r
    | [] => [[d]]
theorem spl1_ne (c : Nat) : ∀ s, ∃ w r, spl1 c s = w :: r
  | [] => ⟨[], [], rfl⟩
  | d :: s => by
    obtain ⟨w, r, e⟩ := spl1_ne c s
    unfold spl1
    rw [e]
    by_cases q : d = c
    · exact ⟨[], w :: r, by simp [q]⟩
    · exact ⟨d :: w, r, by simp [q]⟩
def fRfind : D → List D → IH → R D
  | .str s, [.str [c]], h => .ok (.int (rfI c s)) h
  | _, _, _ => .no
def fSplit : D → List D → IH → R D
  | .str s, [.str [c]], h => if c < 256 ∧ s.length ≤ 1000000 then .ok (.ref h.length) (h ++ [.lst ((spl1 c s).map D.str)]) else .no
  | _, _, _ => .no
def fIndexD : D → List D → IH → R D
  | x, [y], h => match D.py h 50 x, D.py h 49 y with
    | some (.list ds), some d => if SeqAt.shaped (.list ds) = true ∧ SeqAt.shaped d = true then (match ds.findIdx? (fun z => PyData.eqv z d) with
      | some j => .ok (.int (j : Nat)) h
      | none => .no) else .no
    | _, _ => .no
  | _, _, _ => .no
theorem spl_spl1 (c : Nat) : ∀ (s acc : List Nat), TL.spl [c] 0 acc s = match spl1 c s with
    | w :: r => (acc ++ w) :: r
    | [] => [acc]
  | [], acc => by simp [TL.spl, spl1]
  | d :: s, acc => by
    obtain ⟨w, r, e⟩ := spl1_ne c s
    unfold TL.spl spl1
    have pe : TL.pre [c] (d :: s) = decide (d = c) := by
      unfold TL.pre
      by_cases q : d = c <;> simp [q]
    rw [pe]
    by_cases q : d = c
    · rw [if_pos (by simpa using q), if_pos q]
      show acc :: TL.spl [c] 0 [] s = _
      rw [spl_spl1 c s [], e]
      simp
    · rw [if_neg (by simpa using q), if_neg q, spl_spl1 c s (acc ++ [d]), e]
      simp
theorem split_one (s : List Nat) (c : Nat) (hc : c < 256) : Txt.split (strV s) (strV [c]) = (spl1 c s).map strV := by
  apply TL.map_tl_inj
  rw [TL.split_spl (strV s) (strV [c]) (by simp [TL.tl, strV]) (TL.kind_ok (by simp [strV, hc]))]
  rw [List.map_map]
  have e1 : TL.tl (strV [c]) = [c] := rfl
  have e2 : TL.tl (strV s) = s := rfl
  rw [e1, e2, spl_spl1]
  obtain ⟨w, r, e⟩ := spl1_ne c s
  rw [e]
  have : (TL.tl ∘ strV) = id := by funext l; rfl
  rw [this, List.map_id]
  rfl
theorem units65 {k : Nat} {A : Around} (r : Room k A) : A.units + 65 < cLine := by have := r.un; have := r.units; unfold cLine at *; omega
section
variable {G : Cf}
theorem fRfind_ok : MethS G (fun x xs H Q => ∃ a b, x = .str a ∧ xs = [.str b] ∧ Q (.int (Txt.rfind a b)) H) fRfind := by
  intro et H h x v xs vs W Q rx rv R p
  unfold fRfind at p
  split at p
  · obtain ⟨w, rfl, r⟩ := list1 rv
    exact ⟨_, _, den_str.mp rx, by rw [den_str.mp r], p.here R _ (by rw [rfind_one]; simp)⟩
  · exact p.elim
theorem fSplit_ok : MethS G (fun x xs H Q => ∃ a b, x = .str a ∧ xs = [.str b] ∧ (b.length == 0) = false ∧ a.length + 2 ≤ sizeLine ∧ rNewStrs (Txt.split a b) H Q) fSplit := by
  intro et H h x v xs vs W Q rx rv R p
  unfold fSplit at p
  split at p
  · rename_i s c
    split at p
    · rename_i q
      obtain ⟨w, rfl, r⟩ := list1 rv
      refine ⟨_, _, den_str.mp rx, by rw [den_str.mp r], rfl, ?_, ?_⟩
      · rw [strV_length, sizeLine_eq]; omega
      · rw [split_one s c q.1]
        exact fun a ha => p.newL R DenL.ofStrs a ha
    · exact p.elim
  · exact p.elim
theorem fIndexD_ok : MethS G (rIndexD G.K) fIndexD := by
  intro et H h x v xs vs W Q rx rv R p
  unfold fIndexD at p
  split at p
  · rename_i y
    split at p
    · rename_i d1 d2 e1 e2
      split at p
      · rename_i q
        split at p
        · rename_i j ej
          obtain ⟨w, rfl, r⟩ := list1 rv
          obtain ⟨a1, a2, a3⟩ := py_ok R 50 x v _ e1 rx
          obtain ⟨b1, b2, b3⟩ := py_ok R 49 y w _ e2 r
          rw [List.findIdx?_eq_some_iff_getElem] at ej
          obtain ⟨hj, h1, h2⟩ := ej
          cases a1 with
          | lst hs ha =>
            exact ⟨_, w, d2, d1, j, d1[j], rfl, rfl, .lst hs ha, b1, q.1, q.2, List.getElem?_eq_getElem hj, h1, fun m z' hm hz => by
              obtain ⟨hm', ez⟩ := List.getElem?_eq_some_iff.mp hz
              subst ez
              simpa using h2 m hm, p.here R _ (by simp)⟩
        · exact p.elim
      · exact p.elim
    · exact p.elim
  · exact p.elim
end
theorem mt_w {X : Cx} {e : Expr} {w : TT} (h : PW X e w) : PT X e w := h.pt
section
open PySem.AutoSeq1 (wpAny_loadPart' sub_tuple_tuple sub_list_list sub_tuple_list sub_list_tuple idx_int)
open PySem.MeetsSeq PySem.MeetsSeq2 PySem.MeetsSeq3
theorem ext_tup (l b : Addr) (xs ys : Array Value) (n m : Nat) (dd : Option Addr) (sl : Array (Option Value)) (h0 : ¬(!xs.isEmpty && Builtin.List.listTooLong (xs.size + ys.size)) = true) (h1 : xs.size ≤ sizeLine) (h2 : xs.size + ys.size ≤ sizeLine + 1) :
    Meets (Builtin.«list.extend» ⟨[.ref l, .ref b], []⟩) (fun _ R s => s.heap.get? l = some { cls := .type "list", dict := none, data := .seq xs n, slots := #[] } ∧ s.heap.get? b = some { cls := .type "tuple", dict := dd, data := .seq ys m, slots := sl } ∧
      R (.ok (.ret Value.none)) { s with heap := s.heap.update l (Obj.mapSeq fun x => x ++ ys), toks := s.toks }) :=
  .of_wp fun prog w A R s h => by
    obtain ⟨hp, gl, ds, tk, os⟩ := s
    obtain ⟨hl, hb, h⟩ := h
    have t1 := PySem.AutoSeq1.idx_int
    have t2 := PySem.AutoSeq1.sub_tuple_tuple
    have t3 := PySem.AutoSeq1.sub_list_list
    have t4 := PySem.AutoSeq1.sub_tuple_list
    have t5 := PySem.AutoSeq1.sub_list_tuple
    have hz' : (xs ++ ys).size ≤ sizeLine + 1 := by rw [Array.size_append]; exact h2
    wp_walk using (wpAny_updateSeq hl rfl (hz := h1) (_hz' := hz')), wpAny_loadPart' hl, wpAny_loadPart' hb
    exact ⟨_, rfl, h⟩
end
def rExtendT (K : PySem.W.Frag) : V → List V → Hp → VK → Prop := fun x vs H Q => ∃ l b xs zs, x = .ref l ∧ vs = [.ref b] ∧ H l = some (.lst xs) ∧ SqT K H b zs ∧ xs.length + zs.length ≤ sizeLine ∧ Q .non (upd H l (.lst (xs ++ zs)))
theorem mt_extendT {X : Cx} : MtM X "list.extend" (rExtendT X.K) := by
  intro pins s σ H x vs v us Q I rx rv h
  obtain ⟨l, b, xs, zs, rfl, rfl, hH, hB, hz, q⟩ := h
  cases rx
  obtain ⟨u, rfl, ru⟩ := rv.one
  cases ru
  obtain ⟨z, its, n, r, hl, e⟩ := I.lstM hH
  obtain ⟨its2, r2, ⟨⟨cls2, dd2, data2, sl2⟩, e2, hc2, n2, hd2⟩, _⟩ := I.tuple hB
  simp only at hc2 hd2
  subst hc2 hd2
  have hl2 := r2.length
  have k1 : its.toArray.size + its2.toArray.size ≤ sizeLine := by rw [List.size_toArray, List.size_toArray]; omega
  have k2 : ¬ (!its.toArray.isEmpty && Builtin.List.listTooLong (its.toArray.size + its2.toArray.size)) = true := by
    rw [notLongL k1, Bool.and_false]
    simp
  refine call_meets F.slot_list_extend ⟨_, e, rfl⟩ F.entry_list_extend (F.args_list_extend_2 _ _) (ext_tup l b its.toArray its2.toArray n n2 dd2 sl2 k2 (by rw [List.size_toArray]; omega) (by omega)) ⟨e, e2, ?_⟩
  refine ⟨.non, _, I.lset (its' := its ++ its2) hH e (by simp) (r.append r2) ?_, rfl, q⟩
  rw [List.length_append]
  omega
def fExtendT : D → List D → IH → R D
  | .ref n, [.tup ys], h => match h[n]? with
    | some (.lst xs) => if xs.length + ys.length ≤ 10000000 then .ok .non (h.set n (.lst (xs ++ ys))) else .no
    | _ => .no
  | _, _, _ => .no
theorem fExtendT_ok {G : Cf} : MethS G (rExtendT G.K) fExtendT := by
  intro et H h x v xs vs W Q rx rv R p
  unfold fExtendT at p
  split at p
  · split at p
    · split at p
      · rename_i n ys _ xs' hx c
        obtain ⟨w, rfl, h1⟩ := list1 rv
        obtain ⟨a, us, h2, rfl, h3, h4⟩ := den_list R hx rx
        obtain ⟨b, ws, rfl, k3, k4⟩ := den_tup.mp h1
        refine ⟨a, b, us, ws, rfl, rfl, h3, k3.sq, sz (by rw [h4.len, k4.len]; exact c), ?_⟩
        have ex : Ext H (upd H a (.lst (us ++ ws))) := Ext.mut h3 True.intro
        exact p et _ List.prefix_rfl ex (R.set hx h2 rfl h3 True.intro ⟨_, upd_same, (h4.app k4).mono List.prefix_rfl ex⟩) _ (by simp)
      · exact p.elim
    · exact p.elim
  · exact p.elim
end NR

set_option Elab.async false
set_option linter.all false
set_option maxRecDepth 100000
set_option maxHeartbeats 4000000
namespace NR
open PySem PySem.Spec PyProof.Rows L2
/-! ### isinstance of several -/
def isTs (h : IH) (x : D) : List String → Option Bool
  | [] => some false
  | T :: r => match isT T h x with
    | some true => some true
    | some false => isTs h x r
    | none => none
def mIsT (Ts : List String) (m : ME) : ME := fun env h => (m env h).bind fun x h1 => match isTs h1 x Ts with
  | some b => .ok (.bl b) h1
  | none => .no
theorem tyK_ok {G : Cf} {et : List Addr} {H : Hp} {h : IH} (R : HRel G et h H) {x : D} {v : V} (r : Den G et H x v) : (∃ t, TyX G.K H v t ∧ ∀ (T : String) (b : Bool), isT T h x = some b → PySem.W.kitOne G.K t (.type T) = some b) ∨ ∀ T, isT T h x = none := by
  cases x with
  | non => rw [den_non.mp r]; exact .inl ⟨_, .base .non, fun _ _ e => kit_ty e⟩
  | bl _ => rw [den_bl.mp r]; exact .inl ⟨_, .base (.bl _), fun _ _ e => kit_ty e⟩
  | int _ => rw [den_int.mp r]; exact .inl ⟨_, .base (.int _), fun _ _ e => kit_ty e⟩
  | str _ => rw [den_str.mp r]; exact .inl ⟨_, .base (.str _), fun _ _ e => kit_ty e⟩
  | tup l =>
    obtain ⟨a, vs, rfl, h1, _⟩ := den_tup.mp r
    exact .inl ⟨_, sqT_ty (TpT.sq h1), fun _ _ e => kit_ty e⟩
  | ref n =>
    obtain ⟨a, h1, rfl⟩ := den_ref.mp r
    obtain ⟨c, hc, ok⟩ := R.cellAt h1
    cases c with
    | lst xs =>
      obtain ⟨vs, h2, _⟩ := ok
      exact .inl ⟨_, .base (.lst h2), fun T b e => kit_ty (by simpa only [isT, hc] using e)⟩
    | frz xs =>
      obtain ⟨vs, h2, _⟩ := ok
      exact .inl ⟨_, frzL_ty h2, fun T b e => kit_ty (by simpa only [isT, hc] using e)⟩
    | dk xs =>
      obtain ⟨vs, h2, _⟩ := ok
      exact .inl ⟨_, .base (.dK h2), fun T b e => kit_ty (by simpa only [isT, hc] using e)⟩
    | dt xs => exact .inr fun T => by simp only [isT, hc]
    | ins c fs => exact .inr fun T => by simp only [isT, hc]
  | fl l =>
    obtain ⟨a, vs, rfl, h1, _⟩ := den_fl.mp r
    exact .inl ⟨_, frzL_ty (K := G.K) h1.frz, fun _ _ e => kit_ty e⟩
  | fd ks l =>
    obtain ⟨a, ws, rfl, ⟨o, h1⟩, _⟩ := den_fd.mp r
    exact .inl ⟨_, .fDict h1, fun _ _ e => kit_ty e⟩
  | exc a => exact .inr fun T => rfl
theorem kits_of {K : PySem.W.Frag} {h : IH} {x : D} {t : Value} (k : ∀ (T : String) (b : Bool), isT T h x = some b → PySem.W.kitOne K t (.type T) = some b) : ∀ {Ts : List String} {b : Bool}, isTs h x Ts = some b → PySem.W.kitAny K t (Ts.map Value.type) = some b
  | [], b, e => by rw [← e]; rfl
  | T :: r, b, e => by
    unfold isTs at e
    rw [List.map_cons]
    cases h1 : isT T h x with
    | none => rw [h1] at e; cases e
    | some c =>
      rw [h1] at e
      cases c with
      | true => cases e; exact kitAny_cons (k T true h1) (fun z => by cases z) (fun _ => rfl)
      | false => exact kitAny_cons (k T false h1) (fun _ => kits_of k e) (fun z => by cases z)
inductive TNs (X : Cx) : List String → List Expr → Prop
  | nil : TNs X [] []
  | cons {y : Str} {T : String} {Ts : List String} {es : List Expr} {p : Pos} (hg : Gl X y) (hm : X.mg y = none) (hv : bootBuiltins y = some (.type T)) (hn : y ≠ "__name__") (hd : (y == ("__debug__" : Str)) = false) (h : TNs X Ts es) : TNs X (T :: Ts) (.Name y p :: es)
theorem TNs.pa {X : Cx} : ∀ {Ts : List String} {es : List Expr}, TNs X Ts es → PA X es (fun _ H Q => Q (Ts.map V.ty) H)
  | [], _, .nil => pa_nil
  | T :: Ts, _, .cons (y := y) (es := es) (p := p) hg hm hv hn hd h => pa_cons (pe_bltn (v := .ty T) hg hm hv rfl hn hd) h.pa rfl
theorem paired_tys : ∀ Ts : List String, Paired ClsV (Ts.map V.ty) (Ts.map Value.type)
  | [] => .nil
  | T :: Ts => .cons (.ty T) (paired_tys Ts)
theorem me_isT {X : Cx} {G : Cf} {W : WX} {a : Expr} {ma : ME} {pos p p2 : Pos} {T : String} {Ts : List String} {es : List Expr} {k : Nat} (hK : X.K = G.K) (ha : PE X a (tE G W ma)) (hm : X.mg "isinstance" = none) (hy : TNs X (T :: Ts) es) (hl : (T :: Ts).length ≤ 1000 := by decide) (hv : bootBuiltins "isinstance" = some (.builtin "isinstance") := by decide +kernel) (hg : Gl X "isinstance" := by rfl)
    (hs1 : starEach [a, .Tuple es k p2] X.env = (false, eval a X.env) :: starEach [.Tuple es k p2] X.env := by rfl) (hs2 : starEach [.Tuple es k p2] X.env = (false, eval (.Tuple es k p2) X.env) :: starEach [] X.env := by rfl) (hpl : (backTo pos (starEach [.Tuple es k p2] X.env)).any (·.1) = false := by rfl) :
    PE X (.Call (.Name "isinstance" p) [a, .Tuple es k p2] [] pos) (tE G W (mIsT (T :: Ts) ma)) :=
  PE.imp (pe_callB call_isiT hg hm hv (pa_cons ha (pa_cons (pe_tup hy.pa) pa_nil hs2) hs1) (by decide) (by decide) hs1 hpl) fun σ H Q ⟨et, env, h, hE, hH, hP⟩ => by
    refine ⟨et, env, h, hE, hH, (Pst.of_bind hP).imp fun et1 H1 h1 x p e hr q v hv => ?_⟩
    split at q
    · rename_i b hb
      refine ⟨sz (by rw [List.length_map]; exact Nat.le_trans hl (by omega)), fun tp htp => ?_⟩
      have e1 := Ext.new (o := .tup ((T :: Ts).map V.ty)) htp
      have hv2 := hv.mono List.prefix_rfl e1
      have hr2 := hr.new (o := .tup ((T :: Ts).map V.ty)) htp
      rcases tyK_ok hr2 hv2 with ⟨t, h2, h3⟩ | h2
      · rw [hK]
        exact ⟨v, tp, _, t, _, b, rfl, upd_same, paired_tys (T :: Ts), h2, kits_of h3 hb, q et1 _ List.prefix_rfl e1 hr2 _ (by simp)⟩
      · unfold isTs at hb
        rw [h2 T] at hb
        cases hb
    · exact q.elim
/-! ### a chain of three comparisons -/
def tChain3 (r r' r2 : R2) (ta tb tc td : TE) : TE := fun σ H Q => ta σ H fun x H1 => tb σ H1 fun y H2 => r x y H2 fun z H3 => ∃ k, z = .bl k ∧ (if k = true then tc σ H3 fun w H4 => r' y w H4 fun u H5 => ∃ j, u = .bl j ∧ (if j = true then td σ H5 fun t H6 => r2 w t H6 Q else Q (.bl false) H5) else Q (.bl false) H3)
section
variable {X : Cx} {a b c d : Expr} {ta tb tc td : TE} {pos : Pos} {r r' r2 : R2}
theorem pe_chain3 {o1 o2 o3 : CmpOp} (h1 : OpR X (compareOp o1) r) (h2 : OpR X (compareOp o2) r') (h3 : OpR X (compareOp o3) r2) (ha : PE X a ta) (hb : PE X b tb) (hc : PE X c tc) (hd : PE X d td)
    (hm : lastMarks [o1, o2, o3] [b, c, d] = false := by with_unfolding_all rfl) : PE X (.Compare a [o1, o2, o3] [b, c, d] pos) (tChain3 r r' r2 ta tb tc td) := by
  refine ⟨fun pins s σ H Q I q => ?_⟩
  refine Compare_chain (thn (ha.run pins s σ H _ I q) fun v s1 ⟨x, H1, I1, r1, q1⟩ => ?_) hm
  refine chain_link (thn (hb.run pins s1 σ H1 _ I1 q1) fun u s2 ⟨y, H2, I2, rr2, q2⟩ => ?_)
  refine thn (h1 pins s2 σ H2 x y v u _ I2 r1 rr2 q2) fun z s3 ⟨zz, H3, I3, r3, k, e, q3⟩ => ?_
  subst e
  cases r3
  refine wpAny_truthy_bool ?_
  cases k with
  | false => exact ite_ff ⟨.bl false, H3, I3, rfl, q3⟩
  | true =>
    refine ite_tt ?_
    refine chain_link (thn (hc.run pins s3 σ H3 _ I3 q3) fun w s4 ⟨ww, H4, I4, r4, q4⟩ => ?_)
    refine thn (h2 pins s4 σ H4 y ww u w _ I4 rr2 r4 q4) fun z2 s5 ⟨zz2, H5, I5, r5, k2, e2, q5⟩ => ?_
    subst e2
    cases r5
    refine wpAny_truthy_bool ?_
    cases k2 with
    | false => exact ite_ff ⟨.bl false, H5, I5, rfl, q5⟩
    | true => exact ite_tt (chain_last (thn (hd.run pins s5 σ H5 _ I5 q5) fun t s6 ⟨tt, H6, I6, r6, q6⟩ => h3 pins s6 σ H6 ww tt w t Q I6 r4 r6 q6))
end
def mChain3 (f g f3 : D → D → IH → R D) (a b c d : ME) : ME := fun env h => (a env h).bind fun x h1 => (b env h1).bind fun y h2 => (f x y h2).bind fun z h3 => match z with
  | .bl true => (c env h3).bind fun w h4 => (g y w h4).bind fun u h5 => match u with
    | .bl true => (d env h5).bind fun t h6 => f3 w t h6
    | .bl false => .ok (.bl false) h5
    | _ => .no
  | .bl false => .ok (.bl false) h3
  | _ => .no
section
variable {X : Cx} {G : Cf} {W : WX} {a b c d e : Expr} {ma mb mc md : ME} {pos : Pos} {r r' r2 : R2} {f g f3 : D → D → IH → R D}
theorem me_chain3 {o1 o2 o3 : CmpOp} (ho : OpR X (compareOp o1) r) (hs : OpS G r f) (ho' : OpR X (compareOp o2) r') (hs' : OpS G r' g) (ho2 : OpR X (compareOp o3) r2) (hs2 : OpS G r2 f3) (ha : PE X a (tE G W ma)) (hb : PE X b (tE G W mb)) (hc : PE X c (tE G W mc)) (hd : PE X d (tE G W md)) (hm : lastMarks [o1, o2, o3] [b, c, d] = false := by rfl) :
    PE X (.Compare a [o1, o2, o3] [b, c, d] pos) (tE G W (mChain3 f g f3 ma mb mc md)) := PE.imp (pe_chain3 ho ho' ho2 ha hb hc hd hm) fun σ H Q ⟨et, env, h, hE, hH, hP⟩ => by
  refine ⟨et, env, h, hE, hH, (Pst.of_bind hP).imp fun et1 H1 h1 x p e hr q v hv => ?_⟩
  refine ⟨et1, env, h1, hE.mono p e, hr, (Pst.of_bind q).imp fun et2 H2 h2 y p2 e2 hr2 q2 w hw => ?_⟩
  refine hs et2 H2 h2 x y v w _ _ (hv.mono p2 e2) hw hr2 ((Pst.of_bind q2).imp fun et3 H3 h3 z p3 e3 hr3 q3 vz hz => ?_)
  cases z with
  | bl k =>
    refine ⟨k, den_bl.mp hz, ?_⟩
    cases k with
    | true =>
      rw [if_pos rfl]
      refine ⟨et3, env, h3, ((hE.mono p e).mono p2 e2).mono p3 e3, hr3, (Pst.of_bind q3).imp fun et4 H4 h4 u p4 e4 hr4 q4 vu hu => ?_⟩
      refine hs' et4 H4 h4 y u w vu _ _ ((hw.mono p3 e3).mono p4 e4) hu hr4 ((Pst.of_bind q4).imp fun et5 H5 h5 z2 p5 e5 hr5 q5 vz2 hz2 => ?_)
      cases z2 with
      | bl k2 =>
        refine ⟨k2, den_bl.mp hz2, ?_⟩
        cases k2 with
        | true =>
          rw [if_pos rfl]
          refine ⟨et5, env, h5, ((((hE.mono p e).mono p2 e2).mono p3 e3).mono p4 e4).mono p5 e5, hr5, (Pst.of_bind q5).imp fun et6 H6 h6 t p6 e6 hr6 q6 vt ht => ?_⟩
          exact hs2 et6 H6 h6 u t vu vt _ Q ((hu.mono p5 e5).mono p6 e6) ht hr6 q6
        | false =>
          rw [if_neg Bool.false_ne_true]
          exact q5.here hr5 _ (by simp)
      | _ => exact q5.elim
    | false =>
      rw [if_neg Bool.false_ne_true]
      exact q3.here hr3 _ (by simp)
  | _ => exact q3.elim
theorem mt_chain3 {o1 o2 o3 : CmpOp} (ho : OpR X (compareOp o1) r) (hs : OpS G r f) (ho' : OpR X (compareOp o2) r') (hs' : OpS G r' g) (ho2 : OpR X (compareOp o3) r2) (hs2 : OpS G r2 f3) (ha : PE X a (tE G W ma)) (hb : PE X b (tE G W mb)) (hc : PE X c (tE G W mc)) (hd : PE X d (tE G W md)) (hm : lastMarks [o1, o2, o3] [b, c, d] = false := by rfl)
    (hv : ∀ whole, isTrue (.Compare a [o1, o2, o3] [b, c, d] pos) X.env whole = (do let v ← whole; standAt pos; holding [v] (truthy v)) := by intro _; rfl) (hK : X.K = G.K) :
    PT X (.Compare a [o1, o2, o3] [b, c, d] pos) (tT G W (mTr (mChain3 f g f3 ma mb mc md))) := mt_val hK (me_chain3 ho hs ho' hs' ho2 hs2 ha hb hc hd hm) hv
end
/-! ### reversed ranges -/
def iRevR1 (m : MA) : MI := fun env h => (m env h).bind fun xs h1 => match xs with
  | [.int j] => if -10000000 ≤ j ∧ j ≤ 10000000 then .ok (.st (intsDown (j - 1) j.toNat)) h1 else .no
  | _ => .no
def iRevR2 (m : MA) : MI := fun env h => (m env h).bind fun xs h1 => match xs with
  | [.int i, .int j] => if -10000000 ≤ i ∧ i ≤ 10000000 ∧ -10000000 ≤ j ∧ j ≤ 10000000 then .ok (.st (intsDown (j - 1) (j - i).toNat)) h1 else .no
  | _ => .no
section
variable {X : Cx} {G : Cf} {W : WX} {e tg a b : Expr} {me ma mb : ME} {pos p p2 q : Pos}
theorem jrel_downE {et : List Addr} {H : Hp} {hi hi' : Int} {n : Nat} (e : 0 < n → hi = hi') : JRel G et H (.st (intsDown hi n)) (Itc hi' (-1) n) := by
  cases n with
  | zero =>
    refine jrel_st fun et1 H1 h1 p ex R i => ?_
    rw [show (intsDown hi 0)[i]? = none from rfl]
    exact Nat.zero_le i
  | succ n => rw [e (by omega)]; exact jrel_down
theorem mi_revR1 (ha : PE X a (tE G W ma)) (hm : X.mg "reversed" = none) (hm2 : X.mg "range" = none) (hg : Gl X "reversed" := by rfl) (hg2 : Gl X "range" := by rfl) (hs : starEach [.Call (.Name "range" p2) [a] [] q] X.env = (false, eval (.Call (.Name "range" p2) [a] [] q) X.env) :: starEach [] X.env := by rfl) (hs3 : starEach [a] X.env = (false, eval a X.env) :: starEach [] X.env := by rfl) :
    PI X tg (.Call (.Name "reversed" p) [.Call (.Name "range" p2) [a] [] q] [] pos) (tI G W (iRevR1 (mCons ma mNil))) :=
  PI.imp (pi_revR hg hm (prg_1 hg2 hm2 ha hs3) hs) fun σ H K ⟨et, env, h, hE, hH, hP⟩ => by
    refine ⟨et, env, h, hE, hH, (Pst.of_bind (Pst.of_bind hP)).imp fun et1 H1 h1 x p e hr q v hv => ?_⟩
    simp only [mNil, R.bind] at q
    have q := Pst.here hr q
    cases x with
    | int j =>
      dsimp only at q
      split at q
      · rename_i c
        refine ⟨j, den_int.mp hv, by omega, by omega, by omega, by omega, q.here hr _ ?_⟩
        rw [show (j - 0).toNat = j.toNat by omega]
        exact jrel_downE fun h => by omega
      · exact q.elim
    | _ => exact q.elim
end
/-! ### max, min of a tuple -/
section
variable {prog : Program} {w : World} {A : Around} {E : Value → Shared → Prop} {s : Shared} {l : Addr} {its : List Value} {ns : List Int}
theorem tup_kept {h' : Heap} (hk : ∀ b o, b ∉ [s.heap.objs.size] → (s.heap.push { cls := .type "tuple_iterator", data := .fields #[.ref l, .int 0 0] }).get? b = some o → h'.get? b = some o) (b : Addr) (o : Obj) (e : s.heap.get? b = some o) : h'.get? b = some o := by
  refine hk b o (fun hm => ?_) (Heap.get?_push_of_some _ e)
  have := List.mem_singleton.mp hm
  subst this
  exact Nat.lt_irrefl _ (Heap.lt_size e)
theorem tup_fp (lt : l < s.heap.objs.size) (o : Obj) : ∀ b ∈ [s.heap.objs.size, l], b < (s.heap.push o).objs.size := fun b hb => by
  rw [Heap.size_push]
  rcases List.mem_cons.mp hb with rfl | hb
  · exact Nat.lt_succ_self _
  · rw [List.mem_singleton.mp hb]
    exact Nat.lt_succ_of_lt lt
theorem tup_val (hi : IntsAre its ns) (i : Nat) (v : Value) (h : its.toArray[i]? = some v) : ∃ t, v = .int (ns.getD i 0) t := PyProof.Rows.IntsAre.int_at hi i v (by simpa using h)
theorem tup_best {k : Nat} {M : Int} (hk : k < ns.length) (e : ns.getD k 0 = M) : M ∈ ns := by
  rw [List.getD_eq_getElem?_getD, List.getElem?_eq_getElem hk] at e
  rw [← e]
  exact List.getElem_mem hk
theorem max_tup {Q : Value → Shared → Prop} (hh : A.handled = none) (hl : s.heap.IsTuple l its.toArray) (hi : IntsAre its ns) (hne : 0 < ns.length)
    (h : ∀ h' tk M t', (∀ b o, s.heap.get? b = some o → h'.get? b = some o) → M ∈ ns → (∀ a, a ∈ ns → a ≤ M) → Q (.int M t') { s with heap := h', toks := tk }) : wpAny (model prog w) A (call (.builtin "max") [.ref l]) Q E s := by
  have lt : l < s.heap.objs.size := by obtain ⟨_, e, _⟩ := hl; exact Heap.lt_size e
  have hz : its.length = ns.length := IntsAre.length hi
  refine call_max_walk (wpAny_pyIter_tuple hl ?_)
  refine ⟨_, _, _, _, _, _, _, rfl, Walks.tuple (A := A.in1) hh _ l (Nat.ne_of_lt lt) its.toArray, ⟨⟨_, Heap.get?_push_size _ rfl, rfl, rfl⟩, hl.push _⟩, tup_fp lt _, by simpa [hz] using hne, CmpOf.ints_gt (fun i => ns.getD i 0) (tup_val hi), fun v h' tk hP hk => ?_⟩
  obtain ⟨h1, h2⟩ := argBest_gt (fun i => ns.getD i 0) (its.toArray.size - 1)
  obtain ⟨t, rfl⟩ := tup_val hi _ _ hP
  rw [List.size_toArray, hz] at h1 h2
  refine h h' tk _ t (tup_kept hk) (tup_best (by rw [List.size_toArray, hz]; omega) rfl) fun a ha => ?_
  obtain ⟨j, hj⟩ := List.mem_iff_getElem?.mp ha
  have hj2 := (List.getElem?_eq_some_iff.mp hj).1
  have := h2 j (by omega)
  simp only [List.getD_eq_getElem?_getD, hj, Option.getD_some] at this
  simpa [List.getD_eq_getElem?_getD, hz] using this
theorem min_tup {Q : Value → Shared → Prop} (hh : A.handled = none) (hl : s.heap.IsTuple l its.toArray) (hi : IntsAre its ns) (hne : 0 < ns.length)
    (h : ∀ h' tk M t', (∀ b o, s.heap.get? b = some o → h'.get? b = some o) → M ∈ ns → (∀ a, a ∈ ns → M ≤ a) → Q (.int M t') { s with heap := h', toks := tk }) : wpAny (model prog w) A (call (.builtin "min") [.ref l]) Q E s := by
  have lt : l < s.heap.objs.size := by obtain ⟨_, e, _⟩ := hl; exact Heap.lt_size e
  have hz : its.length = ns.length := IntsAre.length hi
  refine call_min_walk (wpAny_pyIter_tuple hl ?_)
  refine ⟨_, _, _, _, _, _, _, rfl, Walks.tuple (A := A.in1) hh _ l (Nat.ne_of_lt lt) its.toArray, ⟨⟨_, Heap.get?_push_size _ rfl, rfl, rfl⟩, hl.push _⟩, tup_fp lt _, by simpa [hz] using hne, CmpOf.ints_lt (fun i => ns.getD i 0) (tup_val hi), fun v h' tk hP hk => ?_⟩
  obtain ⟨h1, h2⟩ := argBest_lt (fun i => ns.getD i 0) (its.toArray.size - 1)
  obtain ⟨t, rfl⟩ := tup_val hi _ _ hP
  rw [List.size_toArray, hz] at h1 h2
  refine h h' tk _ t (tup_kept hk) (tup_best (by rw [List.size_toArray, hz]; omega) rfl) fun a ha => ?_
  obtain ⟨j, hj⟩ := List.mem_iff_getElem?.mp ha
  have hj2 := (List.getElem?_eq_some_iff.mp hj).1
  have := h2 j (by omega)
  simp only [List.getD_eq_getElem?_getD, hj, Option.getD_some] at this
  simpa [List.getD_eq_getElem?_getD, hz] using this
end
def rMaxT (K : PySem.W.Frag) : List V → Hp → VK → Prop := fun vs H Q => ∃ (a : Addr) (ns : List Int), vs = [V.ref a] ∧ (SqL K H a (ns.map V.int) ∨ SqT K H a (ns.map V.int)) ∧ 0 < ns.length ∧ ∀ m, m ∈ ns → (∀ y, y ∈ ns → y ≤ m) → Q (.int m) H
def rMinT (K : PySem.W.Frag) : List V → Hp → VK → Prop := fun vs H Q => ∃ (a : Addr) (ns : List Int), vs = [V.ref a] ∧ (SqL K H a (ns.map V.int) ∨ SqT K H a (ns.map V.int)) ∧ 0 < ns.length ∧ ∀ m, m ∈ ns → (∀ y, y ∈ ns → m ≤ y) → Q (.int m) H
section
variable {X : Cx} {G : Cf}
theorem cr_maxT (hc : X.calm = true) : CallR X (.builtin "max") (rMaxT X.K) := by
  intro pins s σ H vs us Q I r h
  obtain ⟨a, ns, rfl, hs | hs, hne, q⟩ := h
  · exact cr_max hc pins s σ H _ us Q I r ⟨a, ns, rfl, hs, hne, q⟩
  · obtain ⟨its, rv, ht, _⟩ := I.tuple hs
    rw [Vals.ref1 r]
    exact max_tup (I.ok.hd hc) ht rv.ints hne fun h' tk m t' hk h1 h2 => ⟨.int _, H, I.kept hk, ⟨_, rfl⟩, q m h1 h2⟩
theorem cr_minT (hc : X.calm = true) : CallR X (.builtin "min") (rMinT X.K) := by
  intro pins s σ H vs us Q I r h
  obtain ⟨a, ns, rfl, hs | hs, hne, q⟩ := h
  · exact cr_min hc pins s σ H _ us Q I r ⟨a, ns, rfl, hs, hne, q⟩
  · obtain ⟨its, rv, ht, _⟩ := I.tuple hs
    rw [Vals.ref1 r]
    exact min_tup (I.ok.hd hc) ht rv.ints hne fun h' tk m t' hk h1 h2 => ⟨.int _, H, I.kept hk, ⟨_, rfl⟩, q m h1 h2⟩
def bMax1T : List D → IH → R D
  | [x], h => match (seqOf h x).bind (allM D.int?) with
    | some ns => if 0 < ns.length then .ok (.int (imax ns)) h else .no
    | none => .no
  | _, _ => .no
def bMin1T : List D → IH → R D
  | [x], h => match (seqOf h x).bind (allM D.int?) with
    | some ns => if 0 < ns.length then .ok (.int (imin ns)) h else .no
    | none => .no
  | _, _ => .no
theorem sq_ints {et : List Addr} {H : Hp} {h : IH} {x : D} {v : V} {ns : List Int} (R : HRel G et h H) (e : (seqOf h x).bind (allM D.int?) = some ns) (r : Den G et H x v) : ∃ a, v = .ref a ∧ (SqL G.K H a (ns.map V.int) ∨ SqT G.K H a (ns.map V.int)) := by
  cases hq : seqOf h x with
  | none => rw [hq] at e; cases e
  | some ds =>
    rw [hq] at e
    obtain ⟨a, vs, rfl, h1, h2⟩ := seq_ok R hq r
    have := allM_ints (ds := ds) e
    subst this
    rw [h2.ints] at h1
    exact ⟨a, rfl, h1⟩
theorem bMax1T_ok : CallS G (rMaxT G.K) bMax1T := by
  intro et H h xs vs W Q hv hr q
  unfold bMax1T at q
  split at q
  · obtain ⟨v, rfl, r⟩ := list1 hv
    split at q
    · rename_i ns e
      split at q
      · rename_i l
        obtain ⟨a, rfl, s⟩ := sq_ints hr e r
        refine ⟨a, ns, rfl, s, l, fun m m1 m2 => ?_⟩
        have em : m = imax ns := Int.le_antisymm (imax_le m1) (m2 _ (imax_mem l))
        rw [em]
        exact q.here hr _ (by simp)
      · exact q.elim
    · exact q.elim
  · exact q.elim
theorem bMin1T_ok : CallS G (rMinT G.K) bMin1T := by
  intro et H h xs vs W Q hv hr q
  unfold bMin1T at q
  split at q
  · obtain ⟨v, rfl, r⟩ := list1 hv
    split at q
    · rename_i ns e
      split at q
      · rename_i l
        obtain ⟨a, rfl, s⟩ := sq_ints hr e r
        refine ⟨a, ns, rfl, s, l, fun m m1 m2 => ?_⟩
        have em : m = imin ns := Int.le_antisymm (m2 _ (imin_mem l)) (imin_le m1)
        rw [em]
        exact q.here hr _ (by simp)
      · exact q.elim
    · exact q.elim
  · exact q.elim
end
end NR

set_option Elab.async false
set_option linter.all false
set_option maxRecDepth 100000
set_option maxHeartbeats 4000000
/-! Lists within tuples and lists, locked. -/
namespace NR
open PySem PySem.Spec PyProof.Rows L2
/-- some locks lead there -/
inductive Locks (P : Hp → Prop) : Hp → Prop
  | done {H : Hp} (h : P H) : Locks P H
  | lock {H : Hp} {a : Addr} {u : HO} (e : H a = some u) (m : Mut (some u)) (k : ∀ od, Locks P (upd H a (.frz od u))) : Locks P H
theorem Locks.bind {P Q : Hp → Prop} {H : Hp} (x : Locks P H) (k : ∀ H', P H' → Locks Q H') : Locks Q H := by
  induction x with
  | done h => exact k _ h
  | lock e m _ ih => exact .lock e m ih
theorem Locks.imp {P Q : Hp → Prop} {H : Hp} (x : Locks P H) (k : ∀ H', P H' → Q H') : Locks Q H := x.bind fun H' h => .done (k H' h)
theorem Locks.run {X : Cx} {P : Hp → Prop} {pins : List (Addr × Obj)} {σ : L2.St} {s : Shared} {H : Hp} (x : Locks P H) : Inv X pins σ H s → ∃ H', Inv X pins σ H' s ∧ P H' := by
  induction x with
  | done h => exact fun I => ⟨_, I, h⟩
  | lock e m _ ih =>
    intro I
    obtain ⟨od, I2⟩ := I.lock e m
    exact ih od I2
mutual
/-- the lists and dicts from cell number b on, locked -/
def dzD (b : Nat) : Nat → IH → D → Option (D × IH)
  | 0, _, _ => none
  | k + 1, h, .ref n => if b ≤ n then (match h[n]? with
    | some (.lst xs) => match dzL b k (h.set n (.frz xs)) xs with
      | some (ys, h1) => some (.fl ys, h1)
      | none => none
    | _ => none) else some (.ref n, h)
  | k + 1, h, .tup l => match dzL b k h l with
    | some (ys, h1) => some (.tup ys, h1)
    | none => none
  | _ + 1, h, .fl l => some (.fl l, h)
  | _ + 1, h, .fd ks l => some (.fd ks l, h)
  | _ + 1, h, .exc a => none
  | _ + 1, h, .non => some (.non, h)
  | _ + 1, h, .bl i => some (.bl i, h)
  | _ + 1, h, .int i => some (.int i, h)
  | _ + 1, h, .str i => some (.str i, h)
def dzL (b : Nat) : Nat → IH → List D → Option (List D × IH)
  | 0, _, _ => none
  | _ + 1, h, [] => some ([], h)
  | k + 1, h, d :: l => match dzD b k h d with
    | some (y, h1) => match dzL b k h1 l with
      | some (ys, h2) => some (y :: ys, h2)
      | none => none
    | none => none
end
section
variable {G : Cf} {et : List Addr}
theorem dz_ok (b : Nat) : ∀ (k : Nat), (∀ (h : IH) (H : Hp) (d d' : D) (h' : IH) (v : V), HRel G et h H → Den G et H d v → dzD b k h d = some (d', h') → Locks (fun H' => HRel G et h' H' ∧ Ext H H' ∧ Den G et H' d' v) H) ∧
    (∀ (h : IH) (H : Hp) (l l' : List D) (h' : IH) (vs : List V), HRel G et h H → DenL G et H l vs → dzL b k h l = some (l', h') → Locks (fun H' => HRel G et h' H' ∧ Ext H H' ∧ DenL G et H' l' vs) H)
  | 0 => ⟨fun _ _ _ _ _ _ _ _ e => by simp [dzD] at e, fun _ _ _ _ _ _ _ _ e => by simp [dzL] at e⟩
  | k + 1 => by
    obtain ⟨ihD, ihL⟩ := dz_ok b k
    refine ⟨fun h H d d' h' v R r e => ?_, fun h H l l' h' vs R r e => ?_⟩
    · cases d with
      | ref n =>
        unfold dzD at e
        split at e
        · split at e
          · rename_i xs hx
            split at e
            · rename_i ys h1 e1
              cases e
              obtain ⟨a, ha, rfl⟩ := den_ref.mp r
              obtain ⟨vs, k1, k2⟩ := R.cell n _ a hx ha
              refine .lock k1 True.intro fun od => ?_
              have ex : Ext H (upd H a (.frz od (.lst vs))) := Ext.mut k1 True.intro
              have hf : DenL G et (upd H a (.frz od (.lst vs))) xs vs := k2.mono List.prefix_rfl ex
              have hc : CellOk G et (upd H a (.frz od (.lst vs))) a (.frz xs) := ⟨vs, .inl ⟨od, upd_same⟩, hf⟩
              refine (ihL _ _ xs ys h' vs (R.set hx ha rfl k1 True.intro hc) hf e1).imp fun H1 ⟨R1, x1, D1⟩ => ⟨R1, ex.trans x1, ?_⟩
              exact den_fl.mpr ⟨a, vs, rfl, FrzM.ext x1 ⟨od, upd_same⟩, D1⟩
            · cases e
          · cases e
        · cases e
          exact .done ⟨R, Ext.refl H, r⟩
      | tup l =>
        unfold dzD at e
        split at e
        · rename_i ys h1 e1
          cases e
          obtain ⟨a, vs, rfl, h2, h3⟩ := den_tup.mp r
          exact (ihL h H l ys h' vs R h3 e1).imp fun H1 ⟨R1, x1, D1⟩ => ⟨R1, x1, den_tup.mpr ⟨a, vs, rfl, h2.ext x1, D1⟩⟩
        · cases e
      | exc a => simp [dzD] at e
      | fl l => simp [dzD] at e; obtain ⟨rfl, rfl⟩ := e; exact .done ⟨R, Ext.refl H, r⟩
      | fd ks l => simp [dzD] at e; obtain ⟨rfl, rfl⟩ := e; exact .done ⟨R, Ext.refl H, r⟩
      | non => simp [dzD] at e; obtain ⟨rfl, rfl⟩ := e; exact .done ⟨R, Ext.refl H, r⟩
      | bl i => simp [dzD] at e; obtain ⟨rfl, rfl⟩ := e; exact .done ⟨R, Ext.refl H, r⟩
      | int i => simp [dzD] at e; obtain ⟨rfl, rfl⟩ := e; exact .done ⟨R, Ext.refl H, r⟩
      | str i => simp [dzD] at e; obtain ⟨rfl, rfl⟩ := e; exact .done ⟨R, Ext.refl H, r⟩
    · cases l with
      | nil =>
        simp [dzL] at e
        obtain ⟨rfl, rfl⟩ := e
        exact .done ⟨R, Ext.refl H, r⟩
      | cons d l =>
        unfold dzL at e
        split at e
        · rename_i y h1 e1
          split at e
          · rename_i ys h2 e2
            cases e
            obtain ⟨v, ws, rfl, r1, r2⟩ := denL_cons.mp r
            refine (ihD h H d y h1 v R r1 e1).bind fun H1 ⟨R1, x1, D1⟩ => ?_
            refine (ihL h1 H1 l ys h' ws R1 (r2.mono List.prefix_rfl x1) e2).imp fun H2 ⟨R2, x2, D2⟩ => ⟨R2, x1.trans x2, ?_⟩
            exact denL_cons.mpr ⟨v, ws, rfl, D1.mono List.prefix_rfl x2, D2⟩
          · cases e
        · cases e
end
open Classical in
noncomputable def dzR (h : IH) (r : R D) : R D := match r with
  | .ok d h' => match dzD h.length 1000 h' d with
    | some (d', h2) => if D.lo h.length d' = true ∧ okB h.length h h2 then .ok d' (h2.take h.length) else .ok d h'
    | none => .ok d h'
  | r => r
noncomputable def mDz (m : ME) : ME := fun env h => dzR h (m env h)
theorem me_dz {X : Cx} {G : Cf} {W : WX} {e : Expr} {m : ME} (he : PE X e (tE G W m)) : PE X e (tE G W (mDz m)) := ⟨fun pins s σ H Q I ⟨et, env, h, hE, hH, hP⟩ => by
  have main : Pst G et H (m env h) (fun et' H' _ d => ∀ v, Den G et' H' d v → Locks (fun H2 => Q v H2) H') (fun c d H' => W c d σ H') := by
    have hP : Pst G et H (dzR h (m env h)) _ _ := hP
    revert hP
    cases m env h with
    | no => exact fun z => z
    | ex c d h' => exact fun z => z
    | ok d h' =>
      intro hP
      have dull : Pst G et H (.ok d h') (fun et' H' _ d => ∀ v, Den G et' H' d v → Q v H') (fun c d H' => W c d σ H') → Pst G et H (.ok d h') (fun et' H' _ d => ∀ v, Den G et' H' d v → Locks (fun H2 => Q v H2) H') (fun c d H' => W c d σ H') := fun z => z.imp fun et1 H1 h1 a p e hr q v hv => .done (q v hv)
      unfold dzR at hP
      dsimp only at hP
      split at hP
      · rename_i d' h2 e1
        split at hP
        · rename_i c
          intro et' H' p e hr v hv
          refine ((dz_ok (G := G) (et := et') h.length 1000).1 h' H' d d' h2 v hr hv e1).imp fun H2 ⟨R2, x2, D2⟩ => ?_
          have al := okB_all hH c.2
          have R3 := R2.cut p al
          rw [hH.len] at R3
          have lo := c.1
          rw [← hH.len] at lo
          exact hP et H2 List.prefix_rfl (e.trans x2) R3 v (D2.back p lo)
        · exact dull hP
      · exact dull hP
  refine thn (he.run pins s σ H _ I ⟨et, env, h, hE, hH, main⟩) fun v s1 ⟨x, H1, I1, r, q⟩ => ?_
  obtain ⟨H2, I2, q2⟩ := q.run I1
  exact ⟨x, H2, I2, r, q2⟩⟩
end NR

set_option Elab.async false
set_option linter.all false
set_option maxRecDepth 100000
/-! for k, v in E.items(): the keys are tuples, the dict is new -/
namespace NR
open PySem PySem.Spec PyProof.Rows L2
open Sem (wp)
section
variable {X : Cx} {pins : List (Addr × Obj)} {σ : L2.St} {H : Hp} {s : Shared} {d : Addr} {o : Obj}
theorem frzTV {kvs : List (List L2.Key × V)} (I : Inv X pins σ H s) (h : H d = some (.frz o (.dT kvs))) :
    (d == sysModules) = false ∧ s.heap.get? d = some o ∧ o.ExactDict ∧ ∃ (es : Array DictEntry) (ep : Nat), o.data = .dict es ep ∧ es.size = kvs.length ∧
      ∀ (i : Nat) (k : List L2.Key) (v : V), kvs[i]? = some (k, v) → ∃ (en : DictEntry) (q : Addr), es[i]? = some en ∧ en.key = .ref q ∧ H q = some (.tup (k.map kV)) ∧ RelV v en.val := by
  obtain ⟨hd, z, hs, xs, pr, o', es, ep, ho, hx, hdt, he, _⟩ := I.hok d _ h
  rw [hd] at ho
  cases ho
  refine ⟨hs, hd, hx, es, ep, hdt, ?_, fun i k v e => ?_⟩
  · have l1 : es.size = xs.length := size_of_entries he
    have l2 : kvs.length = xs.length := Paired.length pr
    omega
  · obtain ⟨b, hb, e1, e2, e3⟩ := L2.paired_get pr e
    have q := entry_at he i
    rw [hb] at q
    exact ⟨_, b.2.1, q, rfl, e2, e3⟩
end
/-- the pairs, each a new tuple; the keys' own tuples -/
def Itit (d : Addr) (o : Obj) (kvs : List (List L2.Key × V)) : It :=
  ⟨fun i H => H d = some (.frz o (.dT kvs)) ∧ i < kvs.length, fun i H x H' => ∃ (T q : Addr) (k : List L2.Key) (v : V), kvs[i]? = some (k, v) ∧ x = .ref T ∧ H q = some (.tup (k.map kV)) ∧ H T = none ∧ H' = upd H T (.tup [.ref q, v]), fun i H => H d = some (.frz o (.dT kvs)) ∧ kvs.length ≤ i⟩
section
variable {P : Program} {w : World} {K : PySem.W.Frag} {d : Addr} {o : Obj} {es : Array DictEntry} {ep : Nat} {elts : List Expr} {kk : Nat} {tpos : Pos}
theorem turn_itemsT {kvs : List (List L2.Key × V)} (it : Addr) (hod : o.data = .dict es ep) :
    Turn P w K (.Tuple elts kk tpos) (Itit d o kvs) [it] it (fun i h => ∃ ok ov, IsItemIter h it d i kvs.length ep ok ov) where
  mem := by simp
  obj := fun i h st b hb => by
    have e : b = it := by simpa using hb
    subst e
    obtain ⟨ok, ov, e⟩ := st
    exact ⟨_, e, fun v z => nomatch z⟩
  keep := fun i h h' st k => let ⟨ok, ov, e⟩ := st; ⟨ok, ov, k it (by simp) _ e⟩
  item := by
    intro X hP hw hK hc i pins s σ H E I hf st hg
    subst hP hw hK
    obtain ⟨hd, hi⟩ := hg
    obtain ⟨hs, hgd, hx, es', ep', hdt, hsz, ent⟩ := frzTV I hd
    obtain ⟨rfl, rfl⟩ := dict_ep hod hdt
    obtain ⟨⟨k, v⟩, hkv⟩ : ∃ p, kvs[i]? = some p := ⟨kvs[i], List.getElem?_eq_getElem hi⟩
    obtain ⟨en, q, hen, hkey, hq, rv⟩ := ent i k v hkv
    obtain ⟨ok, ov, he⟩ := st
    rw [← hsz] at he
    have hlt : it < s.heap.objs.size := Heap.lt_size he
    have hin : H it = none := (hf it (by simp)).1
    have hne : d ≠ it := fun z => by rw [z, hin] at hd; cases hd
    have W := GoesN.rawItems (prog := X.prog) (w := X.w) (A := X.A) (elts := elts) (x1 := kk) (pos := tpos) (I.ok.hd hc) it d hne es' ep'
    refine W.goes i s _ E (by omega) ⟨⟨ok, ov, he⟩, o, hgd, hx, hdt⟩ fun u h' tk hY st' hk htk => ?_
    obtain ⟨T, hi', rfl, hT, hTup⟩ := hY
    have ee : es'[i] = en := by
      rw [Array.getElem?_eq_getElem hi'] at hen
      injection hen
    rw [ee, hkey] at hTup
    have new : ObjOk X.prog X.w (upd H T (.tup [.ref q, v])) h' T (.tup [.ref q, v]) := ⟨by show 2 ≤ sizeLine; decide, [.ref q, en.val], .cons rfl (.cons rv .nil), hTup⟩
    have I1 := I.turnedNew (t' := tk) (ch := [it]) (fun b ob hb e => hk b ob hb e) hf hT new
    refine ⟨.ref T, _, I1, rfl, ⟨T, q, k, v, hkv, rfl, hq, I.hok.fresh hT, rfl⟩, ?_, fun b hb => ?_⟩
    · obtain ⟨⟨ok', ov', e'⟩, _⟩ := st'
      exact ⟨ok', ov', by rw [← hsz]; exact e'⟩
    · have e : b = it := by simpa using hb
      rw [e, upd_ne (Nat.ne_of_lt (Nat.lt_of_lt_of_le hlt hT))]
      exact hin
  done := by
    intro X hP hw hK hc i pins s σ H E I hf st hg
    subst hP hw hK
    obtain ⟨hd, hi⟩ := hg
    obtain ⟨hs, hgd, hx, es', ep', hdt, hsz, ent⟩ := frzTV I hd
    obtain ⟨rfl, rfl⟩ := dict_ep hod hdt
    obtain ⟨f0, f1, f2, f3, f4, f5⟩ := hf it (by simp)
    obtain ⟨ok, ov, he⟩ := st
    rw [← hsz] at he
    exact DT.endI (I.ok.hd hc) he ⟨o, hgd, hx, hdt⟩ (by omega) fun h' eb => ⟨rfl, I.turned (t' := s.toks) (fun b ob hb e => eb b ob hb e) f0 f1 f3 f4 f5⟩
  self := fun A i s Q E st h => let ⟨_, _, e⟩ := st; PySem.W.kcp_self e h
end
def iItt (td : TE) : TI := fun σ H R => td σ H fun x H1 => ∃ d o kvs, x = .ref d ∧ H1 d = some (.frz o (.dT kvs)) ∧ R (Itit d o kvs) H1
section
variable {X : Cx} {e : Expr} {td : TE} {apos cpos : Pos} {elts : List Expr} {kk : Nat} {tpos : Pos}
theorem pi_itemsT (he : PE X e td) (hbase : attributeBase e "items" X.env (eval e X.env) = eval e X.env := by rfl) (hline : (apos.endLine == cpos.line) = true := by rfl) :
    PI X (.Tuple elts kk tpos) (.Call (.Attribute e "items" apos) [] [] cpos) (iItt td) := by
  refine ⟨fun pins s σ H R I h => ?_⟩
  refine wpAny_Call_method (T := "dict") (id := "dict.items") hbase rfl hline F.plainAttrs_dict F.slot_dict_items F.type_dict_items (thn (he.run pins s σ H _ I h) fun u s1 ⟨x, H1, I1, rx, d, o, kvs, ex, hd, q⟩ => ?_)
  subst ex
  obtain rfl : u = Value.ref d := rx
  obtain ⟨hs, hgd, hx, es, ep, hdt, hsz, ent⟩ := frzTV I1 hd
  have hm : DT.Raw s1.heap d es ep := ⟨o, hgd, hx, hdt⟩
  refine ⟨hm.typeIs, fun a ea => ?_, ?_⟩
  · cases ea
    exact ⟨o, hgd, hx.2.1⟩
  have I2 : Inv X pins σ H1 { s1 with heap := s1.heap.push { cls := .type "dict_items", data := .fields #[.ref d] } } := I1.kept (t' := s1.toks) fun b ob q => Heap.get?_push_of_some _ q
  have fin : wpAny (model X.prog X.w) X.A (pyIter (.ref s1.heap.objs.size)) (PIE X pins σ (.Tuple elts kk tpos) R) X.xe { s1 with heap := s1.heap.push { cls := .type "dict_items", data := .fields #[.ref d] } } := by
    refine DT.iterI (d := d) (es := es) (ep := ep) ⟨_, Heap.get?_push_size _ rfl, rfl, rfl⟩ (hm.push _) (pi_one (tk := s1.toks) I2 _ (turn_itemsT _ hdt) ⟨.none, .none, ?_⟩ q)
    rw [← hsz]
    exact Heap.get?_push_size _ rfl
  show wpAny _ _ (callWith cpos (.builtin "dict.items") [.ref d] [] []) _ X.xe s1
  exact method_meetsIn F.slot_dict_items F.entry_dict_items rfl (PySem.evalArgs_none ⟨rfl, hm.typeIs, F.args_dict_items_1 _, _, DT.meetsItems (es := es) (ep := ep) hs, hm, fin⟩)
end
/-! ### as functions -/
def dkD : DKey → D
  | .inl i => .int i
  | .inr s => .str s
def itD (p : List DKey × D) : D := .tup [.tup (p.1.map dkD), p.2]
open Classical in
noncomputable def iItemsT (m : ME) : MI := fun env h => match m env h with
  | .ok (.ref n) h' => match h'[n]? with
    | some (.dt kvs) => if h.length ≤ n ∧ D.loL h.length (kvs.map (·.2)) = true ∧ okB h.length h h' then .ok (.st (kvs.map itD)) (h'.take h.length) else .no
    | _ => .no
  | .ok _ _ => .no
  | .ex c d h' => .ex c d h'
  | .no => .no
def tLkT (G : Cf) (W : WX) (m : ME) : TE := fun σ H Q => ∃ et env h, EnvR G et H env σ ∧ HRel G et h H ∧
  Pst G et H (m env h) (fun et' H' _ d => ∀ v, Den G et' H' d v → ∃ a u, v = .ref a ∧ H' a = some u ∧ Mut (some u) ∧ ∀ od, Q v (upd H' a (.frz od u))) (fun c d H' => W c d σ H')
theorem den_keys {G : Cf} {et : List Addr} {H : Hp} : ∀ {ks : List DKey}, DenL G et H (ks.map dkD) ((ks.map keyV).map kV)
  | [] => denL_nil.mpr rfl
  | .inl i :: ks => denL_cons.mpr ⟨_, _, rfl, by simp [dkD, Den, keyV, kV], den_keys⟩
  | .inr s :: ks => denL_cons.mpr ⟨_, _, rfl, by simp [dkD, Den, keyV, kV], den_keys⟩
section
variable {X : Cx} {G : Cf} {W : WX} {e : Expr} {m : ME} {apos cpos : Pos} {elts : List Expr} {kk : Nat} {tpos : Pos}
theorem pe_lockT (he : PE X e (tE G W m)) : PE X e (tLkT G W m) := ⟨fun pins s σ H Q I ⟨et, env, h, hE, hH, hP⟩ => by
  refine thn (he.run pins s σ H _ I ⟨et, env, h, hE, hH, hP⟩) fun v s1 ⟨x, H1, I1, r, q⟩ => ?_
  obtain ⟨a, u, _, k1, mu, q⟩ := q
  obtain ⟨od, I2⟩ := I1.lock k1 mu
  exact ⟨x, _, I2, r, q od⟩⟩
theorem mi_itemsT (he : PE X e (tE G W m)) (hbase : attributeBase e "items" X.env (eval e X.env) = eval e X.env := by rfl) (hline : (apos.endLine == cpos.line) = true := by rfl) :
    PI X (.Tuple elts kk tpos) (.Call (.Attribute e "items" apos) [] [] cpos) (tI G W (iItemsT m)) := PI.imp (pi_itemsT (pe_lockT he) hbase hline) fun σ H R ⟨et, env, h, hE, hH, hP⟩ => by
  refine ⟨et, env, h, hE, hH, ?_⟩
  unfold iItemsT at hP
  revert hP
  cases m env h with
  | no => exact fun z => z
  | ex c d h' => exact fun z => z
  | ok d h' =>
    intro hP
    cases d with
    | ref n =>
      dsimp only at hP
      split at hP
      · rename_i kvs hx
        split at hP
        · rename_i c
          intro et' H' p ex0 hr v hv
          obtain ⟨a, ha, rfl⟩ := den_ref.mp hv
          obtain ⟨ws, k1, k2, k3⟩ := hr.cell n _ a hx ha
          refine ⟨a, .dT ws, rfl, k1, True.intro, fun od => ⟨a, od, ws, rfl, upd_same, ?_⟩⟩
          have hr2 : HRel G et (h'.take h.length) (upd H' a (.frz od (.dT ws))) := HRel.lockNew (R0 := hH) hr p hx ha rfl k1 True.intro c.1 c.2.2
          have ex : Ext H' (upd H' a (.frz od (.dT ws))) := Ext.mut k1 True.intro
          have lo := c.2.1
          rw [← hH.len] at lo
          have k3 : DenL G et (upd H' a (.frz od (.dT ws))) (kvs.map (·.2)) (ws.map (·.2)) := (k3.back p lo).mono List.prefix_rfl ex
          refine hP et _ List.prefix_rfl (ex0.trans ex) hr2 _ (jrel_st fun et2 H2 h2 p2 e2 R2 i => ?_)
          have fz : H2 a = some (.frz od (.dT ws)) := e2 _ _ upd_same (fun z => z)
          have wl : ws.length = kvs.length := by
            have := congrArg List.length k2
            simpa using this
          rw [List.getElem?_map]
          cases ei : kvs[i]? with
          | none =>
            have := List.getElem?_eq_none_iff.mp ei
            exact ⟨fz, by omega⟩
          | some kv =>
            have il := (List.getElem?_eq_some_iff.mp ei).1
            refine ⟨⟨fz, by omega⟩, fun z H3 ⟨T, q, k', v', hw, hz, hq, hT, hH3⟩ => ?_⟩
            subst hz hH3
            have ek : k' = kv.1.map keyV := by
              have := congrArg (fun l => l[i]?) k2
              simp only [List.getElem?_map, hw, ei, Option.map_some, Option.some.injEq] at this
              exact this
            have ev : Den G et2 H2 kv.2 v' := by
              have d2 := k3.mono p2 e2
              obtain ⟨w', hw', dv⟩ := d2.get (i := i) (d := kv.2) (by rw [List.getElem?_map, ei]; rfl)
              rw [List.getElem?_map, hw] at hw'
              cases hw'
              exact dv
            subst ek
            refine ⟨Ext.new hT, R2.new hT, ?_⟩
            exact den_pair (h := h2) hT (den_tup.mpr ⟨q, _, rfl, hq, den_keys⟩) ev
        · exact hP.elim
      · exact hP.elim
    | _ => exact hP.elim
end
end NR

set_option Elab.async false
set_option linter.all false
set_option maxRecDepth 100000
set_option maxHeartbeats 4000000
/-! sorted of pairs of ints: of a list, of a dict's keys -/
namespace L2
open PySem PySem.Spec PyProof.Rows
/-- the two ints of a tuple -/
def kOf (H : Hp) : V → Int × Int
  | .ref t => match H t with
    | some (.tup [.int i, .int j]) => (i, j)
    | _ => (0, 0)
  | _ => (0, 0)
theorem kOf_at {H : Hp} {t : Addr} {i j : Int} (e : H t = some (.tup [.int i, .int j])) : kOf H (.ref t) = (i, j) := by
  unfold kOf
  dsimp only
  rw [e]
def rSortedDT : List V → Hp → VK → Prop := fun vs H Q => ∃ (a : Addr) (kvs : List (List Key × V)), vs = [V.ref a] ∧ Rd H a (.dT kvs) ∧ (∀ kv ∈ kvs, ∃ i j : Int, kv.1 = [.inl i, .inl j]) ∧
  ∀ (qs : List Addr) (ys : List V) (p : Addr), (qs.map fun t => H t) = kvs.map (fun kv => some (.tup (kv.1.map kV))) → SrtO.Srtd (fun x y => SrtO.lexB (kOf H x) (kOf H y)) ys → ys.Perm (qs.map V.ref) → H p = none → Q (.ref p) (upd H p (.lst ys))
section
variable {X : Cx}
theorem cr_sortedDT (hcalm : X.calm = true) : CallR X (.builtin "sorted") rSortedDT := by
  intro pins s σ H vs us Q I r h
  obtain ⟨a, kvs, rfl, hd, hks, q⟩ := h
  obtain ⟨u, rfl, ru⟩ := vals1 r
  obtain rfl : u = Value.ref a := ru
  obtain ⟨z, y, xs, rel, o, es, ep, h1, h2, h3, h4, h5⟩ := (show ObjOk X.prog X.w H s.heap a (.dT kvs) from rd_of I.hok hd)
  have raw : s.heap.DictRaw a es ep := ⟨o, h1, h2, h3⟩
  have esz : es.size = xs.length := size_of_entries h4
  have kxl : kvs.length = xs.length := Paired.length rel
  have h16 : es.size ≤ sizeLine := by rw [esz, ← kxl]; exact z
  have relq : ∀ i (k : List Key × V) (x : List Key × Addr × Value), kvs[i]? = some k → xs[i]? = some x → H x.2.1 = some (.tup (k.1.map kV)) := fun i k x e1 e2 => by
    obtain ⟨b, hb, _, e, _⟩ := paired_get rel e1
    rw [e2] at hb
    cases hb
    exact e
  refine Calls.call_function_entry PyProof.Rows.kind_sorted PyProof.Rows.plain_sorted PyProof.Rows.entry_sorted (PyProof.Rows.args_sorted1 _) ?_
  unfold Builtin.«sorted»
  refine wpAny_bind (m := checkCount "sorted" 1 1 _) (wpAny_pure ?_)
  refine wpAny_bind (PySem.W.kdu_collect (A := X.A.in1) (PySem.KdlSrc.rawDict (es := es) (ep := ep) y) (I.ok.hd hcalm) raw h16 fun h' tk acc hk hacc => ?_)
  have eacc : acc.toList = xs.map fun x => Value.ref x.2.1 := by
    apply List.ext_getElem?
    intro i
    rw [List.getElem?_map, Array.getElem?_toList]
    cases e : acc[i]? with
    | none =>
      have l1 := Array.getElem?_eq_none_iff.mp e
      have l2 := hacc.1
      rw [List.getElem?_eq_none (by omega)]
      rfl
    | some v =>
      obtain ⟨hi, rfl⟩ := hacc.2 i v e
      have en := entry_at h4 i
      rw [Array.getElem?_eq_getElem hi] at en
      cases ex : xs[i]? with
      | none => rw [ex] at en; cases en
      | some x =>
        rw [ex] at en
        have en : es[i] = entryOfKey (tupleKind (mixKind X.prog X.w)) x := Option.some.inj en
        rw [en]
        rfl
  have qsH : ((xs.map fun x => x.2.1).map fun t => H t) = kvs.map (fun kv => some (.tup (kv.1.map kV))) := by
    apply List.ext_getElem?
    intro i
    rw [List.getElem?_map, List.getElem?_map, List.getElem?_map]
    cases e1 : kvs[i]? with
    | none =>
      have := List.getElem?_eq_none_iff.mp e1
      rw [List.getElem?_eq_none (by omega)]
      rfl
    | some k =>
      have l1 := (List.getElem?_eq_some_iff.mp e1).1
      have e2 : xs[i]? = some xs[i] := List.getElem?_eq_getElem (by omega)
      rw [e2]
      show some (H xs[i].2.1) = _
      rw [relq i k _ e1 e2]
      rfl
  have hpair : ∀ v ∈ acc.toList, Srt.IsPair s.heap v (kOf H (backV v)).1 (kOf H (backV v)).2 := fun v hv => by
    rw [eacc] at hv
    obtain ⟨x, hx, rfl⟩ := List.mem_map.mp hv
    obtain ⟨i, hi⟩ := List.mem_iff_getElem?.mp hx
    have il := (List.getElem?_eq_some_iff.mp hi).1
    have e1 : kvs[i]? = some kvs[i] := List.getElem?_eq_getElem (by omega)
    have ht := relq i _ _ e1 hi
    obtain ⟨k1, k2, ek⟩ := hks _ (List.getElem_mem (by omega : i < kvs.length))
    rw [ek] at ht
    have ht : H x.2.1 = some (.tup [.int k1, .int k2]) := ht
    show Srt.IsPair s.heap _ (kOf H (.ref x.2.1)).1 (kOf H (.ref x.2.1)).2
    rw [kOf_at ht]
    obtain ⟨_, its2, r2, o, ho, hc, n, hd⟩ := I.hok _ _ ht
    obtain ⟨u1, u2, rfl, ri, rj⟩ := vals2 r2
    obtain ⟨t1, rfl⟩ := ri
    obtain ⟨t2, rfl⟩ := rj
    exact ⟨x.2.1, o, t1, t2, n, rfl, ho, hc, hd⟩
  have I1 : Inv X pins σ H { s with heap := h', toks := tk } := I.kept hk
  have hal : acc.toList.length ≤ sizeLine := by rw [Array.length_toList, hacc.1]; exact h16
  refine wpAny_bind (wpAny_newList ?_ hal)
  have hoL : (h'.push (seqObj "list" acc.toList.toArray 0)).get? h'.objs.size = some (seqObj "list" acc.toList.toArray 0) := Heap.get?_push_size _ rfl
  show wpAny _ _ _ _ _ { s with heap := h'.push (seqObj "list" acc.toList.toArray 0), toks := tk }
  refine wpAny_bind (wpAny_holding (wpAny_call_entry PyProof.Rows.slot_list_sort ⟨_, hoL, rfl⟩ PyProof.Rows.entry_list_sort
    (SrtO.list_sort_ord (s := { s with heap := h'.push (seqObj "list" acc.toList.toArray 0), toks := tk }) (SrtO.swo_lex fun u => kOf H (backV u)) hoL hal (fun h2 => ?_) fun out hs hb => ⟨_, rfl, ?_⟩)
    (PyProof.Rows.args_list_sort _)))
  · refine SrtO.pairs_sortableO (s := { s with heap := h'.push (seqObj "list" acc.toList.toArray 0), toks := tk }) (by omega) (fun v hv => (hpair v hv).keeps fun b o e _ => Heap.get?_push_of_some _ (hk b o e)) fun o e => ?_
    have e' : some o = some (seqObj "list" acc.toList.toArray 0) := e.symm.trans hoL
    cases e'
    intro c
    exact absurd (Value.type.inj c) (by decide)
  · have h3 : ∀ u ∈ out, ∃ a, u = Value.ref a := fun u hu => by
      have := hb.perm.mem_iff.mp hu
      rw [eacc] at this
      obtain ⟨x, _, rfl⟩ := List.mem_map.mp this
      exact ⟨_, rfl⟩
    obtain ⟨e', he'⟩ := PyProof.Rows.sortedHeap_at (vs := acc.toList) (out := out.toArray) hoL
    have hlen : (out.map backV).length ≤ sizeLine := by
      rw [List.length_map, hb.perm.length_eq]
      exact hal
    refine wpAny_pure ⟨_, rfl, .ref h'.objs.size, upd H h'.objs.size (.lst (out.map backV)), I1.laid (t' := tk) (fun b u e => ?_) (Nat.le_refl _)
      (show ObjOk X.prog X.w _ _ _ (.lst (out.map backV)) from ⟨hlen, out, e', vals_back h3, he'⟩), rfl, q (xs.map fun x => x.2.1) _ _ qsH (SrtO.srtd_map hs) ?_ (I1.hok.fresh (Nat.le_refl _))⟩
    · have hb : b < h'.objs.size := Heap.lt_size e
      rw [PyProof.Rows.sortedHeap_old (Nat.ne_of_lt hb) (by rw [size_push']; exact Nat.lt_succ_of_lt hb)]
      exact Heap.get?_push_of_some _ e
    · have := hb.perm.map backV
      rw [eacc, List.map_map] at this
      rw [List.map_map]
      exact this
end
end L2
namespace NR
open PySem PySem.Spec PyProof.Rows L2
def isrtP (ps : List (Int × Int)) : List (Int × Int) := ps.mergeSort fun a b => !SrtO.lexB b a
theorem isrtP_perm (ps : List (Int × Int)) : (isrtP ps).Perm ps := List.mergeSort_perm _ _
theorem lexB_tot {a b : Int × Int} (h1 : SrtO.lexB a b = false) (h2 : SrtO.lexB b a = false) : a = b := by
  have := SrtO.lexB_no.mp h1
  have := SrtO.lexB_no.mp h2
  exact Prod.ext (by omega) (by omega)
theorem isrtP_sorted (ps : List (Int × Int)) : (isrtP ps).Pairwise fun a b => SrtO.lexB b a = false := by
  have := List.pairwise_mergeSort (le := fun a b : Int × Int => !SrtO.lexB b a) (fun a b c h1 h2 => by
    simp only [Bool.not_eq_true'] at h1 h2 ⊢
    have := SrtO.lexB_no.mp h1
    have := SrtO.lexB_no.mp h2
    refine SrtO.lexB_no.mpr ?_
    omega) (fun a b => by
    cases h1 : SrtO.lexB b a with
    | false => rfl
    | true =>
      have := SrtO.lexB_iff.mp h1
      have : SrtO.lexB a b = false := SrtO.lexB_no.mpr (by omega)
      rw [this]
      rfl) ps
  refine this.imp fun {a b} h => ?_
  simpa using h
theorem isrtP_eq {ns ms : List (Int × Int)} (p : ms.Perm ns) (s : ms.Pairwise fun a b => SrtO.lexB b a = false) : ms = isrtP ns :=
  List.Perm.eq_of_pairwise (fun _ _ _ _ a b => lexB_tot b a) s (isrtP_sorted ns) (p.trans (isrtP_perm ns).symm)
def pairI? : D → Option (Int × Int)
  | .tup [.int i, .int j] => some (i, j)
  | _ => none
def pairK? : List DKey → Option (Int × Int)
  | [.inl i, .inl j] => some (i, j)
  | _ => none
def keysI : List (List DKey × D) → Option (List (Int × Int))
  | [] => some []
  | kv :: l => match pairK? kv.1, keysI l with
    | some p, some ps => some (p :: ps)
    | _, _ => none
def iiD (p : Int × Int) : D := .tup [.int p.1, .int p.2]
/-- sorted: of ints, of pairs, of a dict's keys that are pairs -/
def bSortedV : List D → IH → R D
  | [x], h => match (lstOf h x).bind (allM D.int?) with
    | some ns => .ok (.ref h.length) (h ++ [.lst ((isrt ns).map D.int)])
    | none => match (lstOf h x).bind (allM pairI?) with
      | some ps => .ok (.ref h.length) (h ++ [.lst ((isrtP ps).map iiD)])
      | none => match x with
        | .ref n => match h[n]? with
          | some (.dt kvs) => match keysI kvs with
            | some ps => .ok (.ref h.length) (h ++ [.lst ((isrtP ps).map iiD)])
            | none => .no
          | _ => .no
        | _ => .no
  | _, _ => .no
section
variable {G : Cf} {et : List Addr} {H : Hp}
theorem pairI_eq {d : D} {p : Int × Int} (e : pairI? d = some p) : d = iiD p := by
  unfold pairI? at e
  split at e
  · cases e
    rfl
  · cases e
theorem allM_pairI : ∀ {l : List D} {ps : List (Int × Int)}, allM pairI? l = some ps → l = ps.map iiD
  | [], ps, e => by
    have : ps = [] := by simpa [allM] using e.symm
    rw [this]
    rfl
  | d :: l, ps, e => by
    obtain ⟨p, ps', e1, e2, rfl⟩ := allM_cons e
    rw [pairI_eq e1, allM_pairI e2]
    rfl
theorem pairs_den : ∀ {ps : List (Int × Int)} {vs : List V}, DenL G et H (ps.map iiD) vs → vs.map (kOf H) = ps ∧ ∀ v ∈ vs, ∃ t, v = .ref t ∧ H t = some (.tup [.int (kOf H v).1, .int (kOf H v).2])
  | [], vs, h => by
    have : vs = [] := denL_nil.mp h
    subst this
    exact ⟨rfl, by simp⟩
  | p :: ps, vs, h => by
    obtain ⟨v, vs', rfl, h1, h2⟩ := denL_cons.mp h
    obtain ⟨t, ws, rfl, t1, t2⟩ := den_tup.mp h1
    obtain ⟨w1, ws1, rfl, d1, d2⟩ := denL_cons.mp t2
    obtain ⟨w2, ws2, rfl, d3, d4⟩ := denL_cons.mp d2
    have : ws2 = [] := denL_nil.mp d4
    subst this
    have e1 : w1 = .int p.1 := d1
    have e2 : w2 = .int p.2 := d3
    subst e1 e2
    obtain ⟨i1, i2⟩ := pairs_den h2
    have kt := kOf_at t1
    refine ⟨by rw [List.map_cons, kt, i1], fun v hv => ?_⟩
    rcases List.mem_cons.mp hv with rfl | hv
    · exact ⟨t, rfl, by rw [kt]; exact t1⟩
    · exact i2 v hv
theorem den_pairs : ∀ {vs : List V}, (∀ v ∈ vs, ∃ t, v = .ref t ∧ H t = some (.tup [.int (kOf H v).1, .int (kOf H v).2])) → DenL G et H ((vs.map (kOf H)).map iiD) vs
  | [], _ => denL_nil.mpr rfl
  | v :: vs, h => by
    obtain ⟨t, rfl, ht⟩ := h v List.mem_cons_self
    refine denL_cons.mpr ⟨_, _, rfl, den_tup.mpr ⟨t, _, rfl, ht, ?_⟩, den_pairs fun x hx => h x (List.mem_cons_of_mem _ hx)⟩
    exact denL_cons.mpr ⟨_, _, rfl, rfl, denL_cons.mpr ⟨_, _, rfl, rfl, denL_nil.mpr rfl⟩⟩
theorem call_sortedV {X : Cx} (hc : X.calm = true) : CallR X (.builtin "sorted") (fun vs H Q => (rSortedI X.K vs H Q ∨ rSortedPO X.K vs H Q) ∨ rSortedDT vs H Q) := CallR.or (CallR.or cr_sortedI cr_sortedPO) (cr_sortedDT hc)
theorem bSortedV_ok : CallS G (fun vs H Q => (rSortedI G.K vs H Q ∨ rSortedPO G.K vs H Q) ∨ rSortedDT vs H Q) bSortedV := by
  intro et H h xs vs W Q rv R p
  unfold bSortedV at p
  split at p
  · rename_i x h
    split at p
    · rename_i ns e
      obtain ⟨v, rfl, r⟩ := list1 rv
      obtain ⟨a, rfl, hs⟩ := ints_den R e r
      refine .inl (.inl ⟨a, ns, rfl, hs, fun ns' q pm so hq => ?_⟩)
      rw [isrt_eq pm so]
      exact p.newL R DenL.ofInts q hq
    · split at p
      · rename_i ps e
        obtain ⟨v, rfl, r⟩ := list1 rv
        simp only [Option.bind_eq_some_iff] at e
        obtain ⟨xs, e1, e2⟩ := e
        obtain ⟨a, vs, rfl, h1, h2⟩ := lst_ok R e1 r
        rw [allM_pairI e2] at h2
        obtain ⟨k1, k2⟩ := pairs_den h2
        refine .inl (.inr ⟨a, vs, kOf H, rfl, h1, k2, fun ys q so sb hq => ?_⟩)
        have yk : ∀ y ∈ ys, ∃ t, y = V.ref t ∧ H t = some (.tup [.int (kOf H y).1, .int (kOf H y).2]) := fun y hy => k2 y (sb.perm.mem_iff.mp hy)
        have ye : ys.map (kOf H) = isrtP ps := by
          refine isrtP_eq ?_ (List.pairwise_map.mpr so)
          rw [← k1]
          exact sb.perm.map _
        have dn := den_pairs (G := G) (et := et) yk
        rw [ye] at dn
        exact p.newL R dn q hq
      · split at p
        · rename_i n
          split at p
          · rename_i kvs hx
            split at p
            · rename_i ps e
              obtain ⟨v, rfl, r⟩ := list1 rv
              obtain ⟨a, ha, rfl⟩ := den_ref.mp r
              obtain ⟨ws, h3, h4, _⟩ := R.cell _ _ a hx ha
              have keys : ∀ (kvs : List (List DKey × D)) (ps : List (Int × Int)) (ws : List (List L2.Key × V)), keysI kvs = some ps → ws.map (·.1) = kvs.map (fun kv => kv.1.map keyV) → ws.map (·.1) = ps.map fun p => [.inl p.1, .inl p.2] := by
                intro kvs
                induction kvs with
                | nil =>
                  intro ps ws e1 e2
                  have : ps = [] := (Option.some.inj e1).symm
                  subst this
                  exact e2
                | cons kv kvs ih =>
                  intro ps ws e1 e2
                  obtain ⟨p, ps', b1, b2, rfl⟩ : ∃ p ps', pairK? kv.1 = some p ∧ keysI kvs = some ps' ∧ ps = p :: ps' := by
                    unfold keysI at e1
                    split at e1
                    · rename_i p ps' b1 b2
                      cases e1
                      exact ⟨p, ps', b1, b2, rfl⟩
                    · cases e1
                  cases ws with
                  | nil => cases e2
                  | cons w ws =>
                    rw [List.map_cons, List.map_cons, List.cons.injEq] at e2
                    rw [List.map_cons, List.map_cons, ih ps' ws b2 e2.2, e2.1]
                    have : kv.1 = [.inl p.1, .inl p.2] := by
                      unfold pairK? at b1
                      split at b1
                      · rename_i i j ek
                        cases b1
                        exact ek
                      · cases b1
                    rw [this]
                    rfl
              have wk := keys kvs ps ws e h4
              refine .inr ⟨a, ws, rfl, .inl h3, fun kv hkv => ?_, fun qs ys q hq so pm hp => ?_⟩
              · have : kv.1 ∈ ws.map (·.1) := List.mem_map.mpr ⟨kv, hkv, rfl⟩
                rw [wk] at this
                obtain ⟨p, _, ep⟩ := List.mem_map.mp this
                exact ⟨p.1, p.2, ep.symm⟩
              · have qk : qs.map (fun t => H t) = ps.map fun p => some (.tup [.int p.1, .int p.2]) := by
                  rw [hq]
                  have : ws.map (fun kv => some (HO.tup (kv.1.map kV))) = (ws.map (·.1)).map fun k => some (HO.tup (k.map kV)) := by
                    rw [List.map_map]
                    rfl
                  rw [this, wk, List.map_map]
                  rfl
                have kq : ∀ (qs : List Addr) (ps : List (Int × Int)), qs.map (fun t => H t) = ps.map (fun p => some (.tup [.int p.1, .int p.2])) → (qs.map V.ref).map (kOf H) = ps ∧ ∀ v ∈ qs.map V.ref, ∃ t, v = V.ref t ∧ H t = some (.tup [.int (kOf H v).1, .int (kOf H v).2]) := by
                  intro qs
                  induction qs with
                  | nil =>
                    intro ps e
                    cases ps with
                    | nil => exact ⟨rfl, by simp⟩
                    | cons p ps => cases e
                  | cons t qs ih =>
                    intro ps e
                    cases ps with
                    | nil => cases e
                    | cons p ps =>
                      rw [List.map_cons, List.map_cons, List.cons.injEq] at e
                      obtain ⟨i1, i2⟩ := ih ps e.2
                      have kt := kOf_at e.1
                      refine ⟨by rw [List.map_cons, List.map_cons, kt, i1], fun v hv => ?_⟩
                      rcases List.mem_cons.mp hv with rfl | hv
                      · exact ⟨t, rfl, by rw [kt]; exact e.1⟩
                      · exact i2 v hv
                obtain ⟨i1, i2⟩ := kq qs ps qk
                have yk : ∀ y ∈ ys, ∃ t, y = V.ref t ∧ H t = some (.tup [.int (kOf H y).1, .int (kOf H y).2]) := fun y hy => i2 y (pm.mem_iff.mp hy)
                have ye : ys.map (kOf H) = isrtP ps := by
                  refine isrtP_eq ?_ (List.pairwise_map.mpr so)
                  rw [← i1]
                  exact pm.map _
                have dn := den_pairs (G := G) (et := et) yk
                rw [ye] at dn
                exact p.newL R dn q hp
            · exact p.elim
          · exact p.elim
        · exact p.elim
  · exact p.elim
end
end NR

set_option Elab.async false
set_option linter.all false
set_option maxRecDepth 100000
/-! zip with a plain name as target: what was handed out may still stand. -/
namespace NR
open PySem PySem.Spec PyProof.Rows L2
open Sem (wp)
abbrev IsZipG (h : Heap) (z TI TO : Addr) (m : Value) (f : Bool) : Prop :=
  h.get? z = some { cls := .type "zip", dict := none, data := .fields #[m, .bool f, .bool false, .ref TI, .ref TO], slots := #[] }
/-- nothing handed out, or a tuple -/
def ZOut (m : Value) : Prop := m = .none ∨ ∃ T : Addr, m = rawInt (T : Nat)
section
variable {prog : Program} {w : World} {A : Around} {E : Value → Shared → Prop} {s : Shared} {z TI TO i1 i2 : Addr} {fp1 fp2 : List Addr} {n1 n2 i : Nat} {P1 P2 : Nat → Value → Prop} {St1 St2 : Nat → Heap → Prop} {a1 a2 m : Value} {f : Bool}
theorem aliveQ {a : Addr} {Q : Option Obj → Shared → Prop} (h : Q (s.heap.get? a) s) : wpAny (model prog w) A (loadIfAlive a) Q E s := fun _ _ _ => h
/-- free or not -/
theorem zip_free {Q : Bool → Shared → Prop} (hz : IsZipG s.heap z TI TO m f) (hm : ZOut m) (ht : Q true s)
    (hf : ∀ h', IsZipG h' z TI TO m true → Heap.SameBut z s.heap h' → Q false { s with heap := h' }) : wpAny (model prog w) A (Builtin.SmallTypes.ownedTupleIsFree (.ref z)) Q E s := by
  rcases hm with rfl | ⟨T, rfl⟩
  · unfold Builtin.SmallTypes.ownedTupleIsFree
    exact wpAny_bind (wpAny_field hz rfl (x := .none) rfl (wpAny_pure ht))
  · cases hT : s.heap.get? T with
    | some oT => exact wpAny_tupleHeld_zip (f := f) hz hT fun h' q1 q2 => hf h' q1 q2
    | none =>
      unfold Builtin.SmallTypes.ownedTupleIsFree
      refine wpAny_bind (wpAny_field hz rfl (x := rawInt (T : Nat)) rfl ?_)
      show wpAny _ _ (loadIfAlive ((T : Int).toNat) >>= _) _ _ _
      rw [Int.toNat_natCast]
      refine wpAny_bind (aliveQ ?_)
      rw [hT]
      exact wpAny_pure ht
theorem zipG_next_item {Q : Value → Shared → Prop} (S : ZipSep2 z TI TO i1 i2 fp1 fp2) (D1 : Draws prog w A i1 fp1 n1 P1 St1) (D2 : Draws prog w A i2 fp2 n2 P2 St2)
    (hz : IsZipG s.heap z TI TO m f) (hm : ZOut m) (hTI : IsTupOf2 s.heap TI (.ref i1) (.ref i2)) (hTO : IsTupOf2 s.heap TO a1 a2) (st1 : St1 i s.heap) (st2 : St2 i s.heap) (hlt1 : i < n1) (hlt2 : i < n2)
    (hQ : ∀ x1 x2 h' tk m' f', P1 i x1 → P2 i x2 → IsZipG h' z TI TO m' f' → ZOut m' → (∃ b1 b2, IsTupOf2 h' TO b1 b2) → St1 (i + 1) h' → St2 (i + 1) h' → IsTupOf2 h' s.heap.objs.size x1 x2 → h'.objs.size = s.heap.objs.size + 1 →
      (∀ c o, c ≠ z → c ≠ TO → c ≠ i1 → c ≠ i2 → s.heap.get? c = some o → h'.get? c = some o) → Q (.ref s.heap.objs.size) { s with heap := h', toks := tk }) :
    wpAny (model prog w) A (Builtin.«zip.__next__» ⟨[.ref z], []⟩) (fun fin s' => ∃ v, fin = .done (.ret v) ∧ Q v s') E s := by
  obtain ⟨hp, g, d, tk0, os⟩ := s
  show wpAny _ _ (field (.ref z) 2 >>= _) _ _ _
  refine wpAny_bind (wpAny_field hz rfl (x := .bool false) rfl ?_)
  show wpAny _ _ (field (.ref z) 3 >>= _) _ _ _
  refine wpAny_bind (wpAny_field hz rfl (x := .ref TI) rfl ?_)
  refine wpAny_bind (wpAny_seqItems hTI rfl ?_)
  show wpAny _ _ (Builtin.SmallTypes.ownedTupleIsFree (.ref z) >>= _) _ _ _
  refine wpAny_bind (zip_free hz hm ?_ ?_)
  · simp only [if_true]
    refine wpAny_bind (wpAny_rule ?_)
    refine wpAny_bind (wpAny_field hz rfl (x := .ref TO) rfl ?_)
    refine wpAny_bind (wpAny_setField_rec hz (by simp) fun g0 hz0 hs0 => ?_)
    replace hz0 : IsZipG g0 z TI TO .ellipsis f := hz0
    replace hs0 : Heap.SameBut z hp g0 := hs0
    refine wpAny_bind ?_
    simp only [List.zipIdx_cons, List.zipIdx_nil, List.forIn_cons, List.forIn_nil]
    refine wpAny_bind (wpAny_bind (wpAny_onRaise ?_))
    show wpAny _ _ (Builtin.SmallTypes.nextOf (.ref i1) >>= _) _ _ ⟨g0, g, d, tk0, os⟩
    refine wpAny_bind (D1.item i _ _ _ hlt1 (D1.over st1 hs0 S.zf1) fun x1 p1 tk1 hx1 sn1 hp1 => wpAny_pure ?_)
    replace hp1 : Heap.SameBut i1 g0 p1 := hp1
    have hU1 : IsTupOf2 p1 TO a1 a2 := hp1.extBut _ _ S.Ti1 (hs0.extBut _ _ S.TOz hTO)
    refine wpAny_bind (wpAny_seqItems (s := ⟨p1, g, d, tk1, os⟩) hU1 rfl ?_)
    refine wpAny_bind (updateSeq_IsTupOf2 (s := ⟨p1, g, d, tk1, os⟩) hU1 fun g1 hT1 hs1 => ?_)
    replace hT1 : IsTupOf2 g1 TO x1 a2 := hT1
    replace hs1 : Heap.SameBut TO p1 g1 := hs1
    refine wpAny_bind (wpAny_letGo (wpAny_pure ?_))
    refine wpAny_bind (wpAny_bind (wpAny_onRaise ?_))
    show wpAny _ _ (Builtin.SmallTypes.nextOf (.ref i2) >>= _) _ _ ⟨g1, g, d, tk1, os⟩
    refine wpAny_bind (D2.item i _ _ _ hlt2 (D2.over (D2.over (D2.over st2 hs0 S.zf2) hp1 S.sep1_2) hs1 S.Tf2) fun x2 p2 tk2 hx2 sn2 hp2 => wpAny_pure ?_)
    replace hp2 : Heap.SameBut i2 g1 p2 := hp2
    have hU2 : IsTupOf2 p2 TO x1 a2 := hp2.extBut _ _ S.Ti2 hT1
    refine wpAny_bind (wpAny_seqItems (s := ⟨p2, g, d, tk2, os⟩) hU2 rfl ?_)
    refine wpAny_bind (updateSeq_IsTupOf2 (s := ⟨p2, g, d, tk2, os⟩) hU2 fun g2 hT2 hs2 => ?_)
    replace hT2 : IsTupOf2 g2 TO x1 x2 := hT2
    replace hs2 : Heap.SameBut TO p2 g2 := hs2
    refine wpAny_bind (wpAny_letGo (wpAny_pure (wpAny_pure ?_)))
    refine wpAny_bind (wpAny_seqItems (s := ⟨g2, g, d, tk2, os⟩) hT2 rfl ?_)
    refine wpAny_bind (wpAny_newTuple ?_)
    have hsz : g2.objs.size = hp.objs.size := by rw [hs2.1, hp2.1, hs1.1, hp1.1, hs0.1]
    have hzz : IsZipG g2 z TI TO .ellipsis f := (hs2.extBut _ _ S.TOz.symm (hp2.extBut _ _ S.zi2 (hs1.extBut _ _ S.TOz.symm (hp1.extBut _ _ S.zi1 hz0))))
    have hkk : ∀ c o, c ≠ z → c ≠ TO → c ≠ i1 → c ≠ i2 → hp.get? c = some o → g2.get? c = some o := fun c o cz cT c1 c2 e =>
      (hs2.extBut _ _ cT (hp2.extBut _ _ c2 (hs1.extBut _ _ cT (hp1.extBut _ _ c1 (hs0.extBut _ _ cz e)))))
    have hj1 : St1 (i + 1) g2 := (D1.over (D1.over (D1.over sn1 hs1 S.Tf1) hp2 S.sep2_1) hs2 S.Tf1)
    have hj2 : St2 (i + 1) g2 := (D2.over sn2 hs2 S.Tf2)
    have hzlt : z < g2.objs.size := Heap.lt_size hzz
    show wpAny _ _ (Builtin.SmallTypes.ownedTupleHandOut (.ref z) (.ref g2.objs.size) >>= _) _ _ ⟨g2.push { cls := .type "tuple", data := .seq #[x1, x2] }, g, d, tk2, os⟩
    refine wpAny_bind ?_
    unfold Builtin.SmallTypes.ownedTupleHandOut
    have hz₆ : IsZipG (g2.push { cls := .type "tuple", data := .seq #[x1, x2] }) z TI TO .ellipsis f := Heap.get?_push_of_some _ hzz
    refine wpAny_bind (wpAny_setField_rec hz₆ (by simp) fun h₇ hz₇ hs₇ => ?_)
    replace hz₇ : IsZipG h₇ z TI TO (rawInt g2.objs.size) f := hz₇
    refine wpAny_setField_rec hz₇ (by simp) fun h₈ hz₈ hs₈ => ?_
    replace hz₈ : IsZipG h₈ z TI TO (rawInt g2.objs.size) false := hz₈
    replace hs₇ : Heap.SameBut z (g2.push { cls := .type "tuple", data := .seq #[x1, x2] }) h₇ := hs₇
    replace hs₈ : Heap.SameBut z h₇ h₈ := hs₈
    have up : ∀ c o, c ≠ z → g2.get? c = some o → h₈.get? c = some o := fun c o c1 e => hs₈.extBut _ _ c1 (hs₇.extBut _ _ c1 (Heap.get?_push_of_some _ e))
    have hT₈ : IsTupOf2 h₈ g2.objs.size x1 x2 := hs₈.extBut _ _ (Nat.ne_of_gt hzlt) (hs₇.extBut _ _ (Nat.ne_of_gt hzlt) (Heap.get?_push_size _ rfl))
    have hz8 : h₈.objs.size = g2.objs.size + 1 := by rw [hs₈.1, hs₇.1, Heap.size_push]
    rw [hsz] at hz₈ hT₈ hz8
    refine wpAny_pure ⟨_, rfl, ?_⟩
    show Q (.ref g2.objs.size) ⟨h₈, g, d, tk2, os⟩
    rw [hsz]
    exact hQ x1 x2 h₈ tk2 _ false hx1 hx2 hz₈ (.inr ⟨_, rfl⟩) ⟨_, _, up _ _ S.TOz hT2⟩ (D1.frame _ _ _ hj1 fun b hb o e => up b o (fun q => S.zf1 (q ▸ hb)) e) (D2.frame _ _ _ hj2 fun b hb o e => up b o (fun q => S.zf2 (q ▸ hb)) e) hT₈ hz8 fun c o cz cT c1 c2 e => up c o cz (hkk c o cz cT c1 c2 e)
  · intro h₁ hz₁ hs₁
    replace hs₁ : Heap.SameBut z hp h₁ := hs₁
    simp only [Bool.false_eq_true, if_false]
    refine wpAny_bind ?_
    rw [← Array.forIn_toList]
    simp only [List.forIn_cons, List.forIn_nil]
    refine wpAny_bind (wpAny_bind (wpAny_holding ?_))
    show wpAny _ _ (Builtin.SmallTypes.nextOf (.ref i1) >>= _) _ _ ⟨h₁, g, d, tk0, os⟩
    refine wpAny_bind (D1.item i _ _ _ hlt1 (D1.over st1 hs₁ S.zf1) fun x1 p1 tk1 hx1 sn1 hp1 => wpAny_pure ?_)
    replace hp1 : Heap.SameBut i1 h₁ p1 := hp1
    refine wpAny_pure ?_
    refine wpAny_bind (wpAny_bind (wpAny_holding ?_))
    show wpAny _ _ (Builtin.SmallTypes.nextOf (.ref i2) >>= _) _ _ ⟨p1, g, d, tk1, os⟩
    refine wpAny_bind (D2.item i _ _ _ hlt2 (D2.over (D2.over st2 hs₁ S.zf2) hp1 S.sep1_2) fun x2 p2 tk2 hx2 sn2 hp2 => wpAny_pure ?_)
    replace hp2 : Heap.SameBut i2 p1 p2 := hp2
    refine wpAny_pure (wpAny_pure ?_)
    show wpAny _ _ (newTuple [x1, x2] >>= _) _ _ ⟨p2, g, d, tk2, os⟩
    refine wpAny_bind (wpAny_newTuple ?_)
    have hsz : p2.objs.size = hp.objs.size := by rw [hp2.1, hp1.1, hs₁.1]
    have hz₃ : IsZipG p2 z TI TO m true := hp2.extBut _ _ S.zi2 (hp1.extBut _ _ S.zi1 hz₁)
    have hk : ∀ c o, c ≠ z → c ≠ i1 → c ≠ i2 → hp.get? c = some o → p2.get? c = some o := fun c o c1 c2 c3 e => hp2.extBut _ _ c3 (hp1.extBut _ _ c2 (hs₁.extBut _ _ c1 e))
    have hj1 : St1 (i + 1) p2 := D1.over sn1 hp2 S.sep2_1
    refine wpAny_pure ⟨_, rfl, ?_⟩
    show Q (.ref p2.objs.size) ⟨p2.push { cls := .type "tuple", data := .seq #[x1, x2] }, g, d, tk2, os⟩
    have hp' : IsTupOf2 (p2.push { cls := .type "tuple", data := .seq #[x1, x2] }) p2.objs.size x1 x2 := Heap.get?_push_size _ rfl
    have hz4 : (p2.push { cls := .type "tuple", data := .seq #[x1, x2] }).objs.size = p2.objs.size + 1 := Heap.size_push ..
    rw [hsz] at hp' hz4 ⊢
    exact hQ x1 x2 _ tk2 m true hx1 hx2 (Heap.get?_push_of_some _ hz₃) hm ⟨_, _, Heap.get?_push_of_some _ (hk _ _ S.TOz S.Ti1 S.Ti2 hTO)⟩ (D1.frame _ _ _ hj1 fun b hb o e => Heap.get?_push_of_some _ e) (D2.frame _ _ _ sn2 fun b hb o e => Heap.get?_push_of_some _ e) hp' hz4 fun c o cz cT c1 c2 e => Heap.get?_push_of_some _ (hk c o cz c1 c2 e)
theorem zipG_next_end {Q : Fin → Shared → Prop} (hh : A.handled = none) (S : ZipSep2 z TI TO i1 i2 fp1 fp2) (D1 : Draws prog w A i1 fp1 n1 P1 St1) (D2 : Draws prog w A i2 fp2 n2 P2 St2)
    (hz : IsZipG s.heap z TI TO m f) (hm : ZOut m) (hTI : IsTupOf2 s.heap TI (.ref i1) (.ref i2)) (hTO : IsTupOf2 s.heap TO a1 a2) (st1 : St1 i s.heap) (st2 : St2 i s.heap) (hle1 : i ≤ n1) (hle2 : i ≤ n2) (hend : i = n1 ∨ i = n2)
    (hE : ∀ h' tk e, (∀ c o, c ≠ z → c ≠ TO → c ≠ i1 → c ≠ i2 → s.heap.get? c = some o → h'.get? c = some o) → (∃ o, h'.get? e = some o ∧ o.cls = .type "StopIteration") → E (.ref e) { s with heap := h', toks := tk }) :
    wpAny (model prog w) A (Builtin.«zip.__next__» ⟨[.ref z], []⟩) Q E s := by
  obtain ⟨hp, g, d, tk0, os⟩ := s
  show wpAny _ _ (field (.ref z) 2 >>= _) _ _ _
  refine wpAny_bind (wpAny_field hz rfl (x := .bool false) rfl ?_)
  show wpAny _ _ (field (.ref z) 3 >>= _) _ _ _
  refine wpAny_bind (wpAny_field hz rfl (x := .ref TI) rfl ?_)
  refine wpAny_bind (wpAny_seqItems hTI rfl ?_)
  show wpAny _ _ (Builtin.SmallTypes.ownedTupleIsFree (.ref z) >>= _) _ _ _
  refine wpAny_bind (zip_free hz hm ?_ ?_)
  · simp only [if_true]
    refine wpAny_bind (wpAny_rule ?_)
    refine wpAny_bind (wpAny_field hz rfl (x := .ref TO) rfl ?_)
    refine wpAny_bind (wpAny_setField_rec hz (by simp) fun g0 hz0 hs0 => ?_)
    replace hz0 : IsZipG g0 z TI TO .ellipsis f := hz0
    replace hs0 : Heap.SameBut z hp g0 := hs0
    refine wpAny_bind ?_
    simp only [List.zipIdx_cons, List.zipIdx_nil, List.forIn_cons, List.forIn_nil]
    refine wpAny_bind (wpAny_bind (wpAny_onRaise ?_))
    show wpAny _ _ (Builtin.SmallTypes.nextOf (.ref i1) >>= _) _ _ ⟨g0, g, d, tk0, os⟩
    by_cases hlt1 : i < n1
    · refine wpAny_bind (D1.item i _ _ _ hlt1 (D1.over st1 hs0 S.zf1) fun x1 p1 tk1 hx1 sn1 hp1 => wpAny_pure ?_)
      replace hp1 : Heap.SameBut i1 g0 p1 := hp1
      have hU1 : IsTupOf2 p1 TO a1 a2 := hp1.extBut _ _ S.Ti1 (hs0.extBut _ _ S.TOz hTO)
      refine wpAny_bind (wpAny_seqItems (s := ⟨p1, g, d, tk1, os⟩) hU1 rfl ?_)
      refine wpAny_bind (updateSeq_IsTupOf2 (s := ⟨p1, g, d, tk1, os⟩) hU1 fun g1 hT1 hs1 => ?_)
      replace hT1 : IsTupOf2 g1 TO x1 a2 := hT1
      replace hs1 : Heap.SameBut TO p1 g1 := hs1
      refine wpAny_bind (wpAny_letGo (wpAny_pure ?_))
      have hi2 : i = n2 := by omega
      refine wpAny_bind (wpAny_bind (wpAny_onRaise ?_))
      show wpAny _ _ (Builtin.SmallTypes.nextOf (.ref i2) >>= _) _ _ ⟨g1, g, d, tk1, os⟩
      refine wpAny_bind (D2.done ⟨g1, g, d, tk1, os⟩ _ _ (by rw [← hi2]; exact (D2.over (D2.over (D2.over st2 hs0 S.zf2) hp1 S.sep1_2) hs1 S.Tf2)) fun q e hq he => ?_)
      replace hq : Heap.ExtBut i2 g1 q := hq
      obtain ⟨oe, hoe, hce⟩ := he
      replace hoe : q.get? e = some oe := hoe
      have hzq : IsZipG q z TI TO .ellipsis f := hq _ _ S.zi2 (hs1.extBut _ _ S.TOz.symm (hp1.extBut _ _ S.zi1 hz0))
      have hez : e ≠ z := fun x => by subst x; rw [hzq] at hoe; cases hoe; simp at hce
      refine wpAny_setField_rec (s := ⟨q, g, d, tk1, os⟩) hzq (by simp) fun q' _ hq' => ?_
      replace hq' : Heap.SameBut z q q' := hq'
      exact hE q' tk1 e (fun c o cz cT c1 c2 x => hq'.extBut _ _ cz (hq _ _ c2 (hs1.extBut _ _ cT (hp1.extBut _ _ c1 (hs0.extBut _ _ cz x))))) ⟨oe, hq'.extBut _ _ hez hoe, hce⟩
    · have hi1 : i = n1 := by omega
      refine wpAny_bind (D1.done ⟨g0, g, d, tk0, os⟩ _ _ (by rw [← hi1]; exact (D1.over st1 hs0 S.zf1)) fun q e hq he => ?_)
      replace hq : Heap.ExtBut i1 g0 q := hq
      obtain ⟨oe, hoe, hce⟩ := he
      replace hoe : q.get? e = some oe := hoe
      have hzq : IsZipG q z TI TO .ellipsis f := hq _ _ S.zi1 hz0
      have hez : e ≠ z := fun x => by subst x; rw [hzq] at hoe; cases hoe; simp at hce
      refine wpAny_setField_rec (s := ⟨q, g, d, tk0, os⟩) hzq (by simp) fun q' _ hq' => ?_
      replace hq' : Heap.SameBut z q q' := hq'
      exact hE q' tk0 e (fun c o cz cT c1 c2 x => hq'.extBut _ _ cz (hq _ _ c1 (hs0.extBut _ _ cz x))) ⟨oe, hq'.extBut _ _ hez hoe, hce⟩
  · intro h₁ hz₁ hs₁
    replace hs₁ : Heap.SameBut z hp h₁ := hs₁
    simp only [Bool.false_eq_true, if_false]
    refine wpAny_bind ?_
    rw [← Array.forIn_toList]
    simp only [List.forIn_cons, List.forIn_nil]
    refine wpAny_bind (wpAny_bind (wpAny_holding ?_))
    show wpAny _ _ (Builtin.SmallTypes.nextOf (.ref i1) >>= _) _ _ ⟨h₁, g, d, tk0, os⟩
    by_cases hlt1 : i < n1
    · refine wpAny_bind (D1.item i _ _ _ hlt1 (D1.over st1 hs₁ S.zf1) fun x1 p1 tk1 hx1 sn1 hp1 => wpAny_pure ?_)
      replace hp1 : Heap.SameBut i1 h₁ p1 := hp1
      have hi2 : i = n2 := by omega
      refine wpAny_pure ?_
      refine wpAny_bind (wpAny_bind (wpAny_holding ?_))
      show wpAny _ _ (Builtin.SmallTypes.nextOf (.ref i2) >>= _) _ _ ⟨p1, g, d, tk1, os⟩
      refine wpAny_bind (D2.done ⟨p1, g, d, tk1, os⟩ _ _ (by rw [← hi2]; exact D2.over (D2.over st2 hs₁ S.zf2) hp1 S.sep1_2) fun q e hq he => ?_)
      replace hq : Heap.ExtBut i2 p1 q := hq
      exact hE q tk1 e (fun c o cz cT c1 c2 x => hq _ _ c2 (hp1.extBut _ _ c1 (hs₁.extBut _ _ cz x))) he
    · have hi1 : i = n1 := by omega
      refine wpAny_bind (D1.done ⟨h₁, g, d, tk0, os⟩ _ _ (by rw [← hi1]; exact D1.over st1 hs₁ S.zf1) fun q e hq he => ?_)
      replace hq : Heap.ExtBut i1 h₁ q := hq
      exact hE q tk0 e (fun c o cz cT c1 c2 x => hq _ _ c1 (hs₁.extBut _ _ cz x)) he
theorem pyNext_zipG_item {Q : Option Value → Shared → Prop} (S : ZipSep2 z TI TO i1 i2 fp1 fp2) (D1 : Draws prog w A.in1 i1 fp1 n1 P1 St1) (D2 : Draws prog w A.in1 i2 fp2 n2 P2 St2)
    (hz : IsZipG s.heap z TI TO m f) (hm : ZOut m) (hTI : IsTupOf2 s.heap TI (.ref i1) (.ref i2)) (hTO : IsTupOf2 s.heap TO a1 a2) (st1 : St1 i s.heap) (st2 : St2 i s.heap) (hlt1 : i < n1) (hlt2 : i < n2)
    (hQ : ∀ x1 x2 h' tk m' f', P1 i x1 → P2 i x2 → IsZipG h' z TI TO m' f' → ZOut m' → (∃ b1 b2, IsTupOf2 h' TO b1 b2) → St1 (i + 1) h' → St2 (i + 1) h' → IsTupOf2 h' s.heap.objs.size x1 x2 → h'.objs.size = s.heap.objs.size + 1 →
      (∀ c o, c ≠ z → c ≠ TO → c ≠ i1 → c ≠ i2 → s.heap.get? c = some o → h'.get? c = some o) → Q (some (.ref s.heap.objs.size)) { s with heap := h', toks := tk }) :
    wpAny (model prog w) A (pyNext (.ref z)) Q E s := by
  have hT : s.TypeIs (.ref z) "zip" := ⟨_, hz, rfl⟩
  unfold pyNext
  exact wpAny_bind (wpAny_attempt (wpAny_callSpecial?_slot (name := Str.ofString "__next__") hT F.slot_zip_next
    (wpAny_call_entry F.slot_zip_next hT F.entry_zip_next
      (zipG_next_item S D1 D2 hz hm hTI hTO st1 st2 hlt1 hlt2 fun x1 x2 h' tk m' f' y1 y2 b1 b2 b3 d1 d2 b5 b6 b7 => wpAny_pure (hQ x1 x2 h' tk m' f' y1 y2 b1 b2 b3 d1 d2 b5 b6 b7)) (F.args_zip_next_1 _))))
theorem pyNext_zipG_end {Q : Option Value → Shared → Prop} (hh : A.in1.handled = none) (S : ZipSep2 z TI TO i1 i2 fp1 fp2) (D1 : Draws prog w A.in1 i1 fp1 n1 P1 St1) (D2 : Draws prog w A.in1 i2 fp2 n2 P2 St2)
    (hz : IsZipG s.heap z TI TO m f) (hm : ZOut m) (hTI : IsTupOf2 s.heap TI (.ref i1) (.ref i2)) (hTO : IsTupOf2 s.heap TO a1 a2) (st1 : St1 i s.heap) (st2 : St2 i s.heap) (hle1 : i ≤ n1) (hle2 : i ≤ n2) (hend : i = n1 ∨ i = n2)
    (hQ : ∀ h' tk, (∀ c o, c ≠ z → c ≠ TO → c ≠ i1 → c ≠ i2 → s.heap.get? c = some o → h'.get? c = some o) → Q none { s with heap := h', toks := tk }) :
    wpAny (model prog w) A (pyNext (.ref z)) Q E s := by
  have hT : s.TypeIs (.ref z) "zip" := ⟨_, hz, rfl⟩
  unfold pyNext
  refine wpAny_bind (wpAny_attempt (wpAny_callSpecial?_slot (name := Str.ofString "__next__") hT F.slot_zip_next
    (wpAny_call_entry F.slot_zip_next hT F.entry_zip_next (zipG_next_end hh S D1 D2 hz hm hTI hTO st1 st2 hle1 hle2 hend fun h' tk e hk he => ?_) (F.args_zip_next_1 _))))
  obtain ⟨o, ho, hc⟩ := he
  refine wpAny_bind (wpAny_isInstance (T := "StopIteration") (b := true) ⟨o, ho, hc⟩ isSubtype_stop ?_)
  exact wpAny_pure (hQ _ _ hk)
end
def ZstN (k1 k2 : Kd) (n N : Nat) (i : Nat) (h : Heap) : Prop :=
  i ≤ n ∧ (∃ m f, IsZipG h (N + 4) (N + 2) (N + 3) m f ∧ ZOut m) ∧ IsTupOf2 h (N + 2) (.ref N) (.ref (N + 1)) ∧ (∃ a b, IsTupOf2 h (N + 3) a b) ∧ k1.It h N i ∧ k2.It h (N + 1) i
theorem ZstN.obj {k1 k2 : Kd} {n N i : Nat} {h : Heap} (q : ZstN k1 k2 n N i h) : ∀ b ∈ [N + 4, N + 2, N + 3, N, N + 1], ∃ o, h.get? b = some o ∧ ∀ v, o.data ≠ .cell v := by
  obtain ⟨_, ⟨m, f, z, _⟩, ti, ⟨a, b, to⟩, p1, p2⟩ := q
  intro c hc
  have : c = N + 4 ∨ c = N + 2 ∨ c = N + 3 ∨ c = N ∨ c = N + 1 := by simpa using hc
  rcases this with e | e | e | e | e <;> subst e
  · exact ⟨_, z, fun v x => nomatch x⟩
  · exact ⟨_, ti, fun v x => nomatch x⟩
  · exact ⟨_, to, fun v x => nomatch x⟩
  · exact p1.obj
  · exact p2.obj
section
variable {P : Program} {w : World} {K : PySem.W.Frag} {x : Str} {tpos : Pos}
theorem turn_zqN (k1 k2 : Kd) (n N : Nat) (h1 : ∀ b ∈ k1.ad, b < N) (h2 : ∀ b ∈ k2.ad, b < N) :
    Turn P w K (.Name x tpos) (Itq K k1 k2 n) [N + 4, N + 2, N + 3, N, N + 1] (N + 4) (ZstN k1 k2 n N) where
  mem := by simp
  obj := fun i h q => q.obj
  keep := fun i h h' q k => by
    obtain ⟨l, ⟨m, f, z, hm⟩, ti, ⟨a, b, to⟩, p1, p2⟩ := q
    exact ⟨l, ⟨m, f, k _ (by simp) _ z, hm⟩, k _ (by simp) _ ti, ⟨a, b, k _ (by simp) _ to⟩, p1.keep fun o e => k _ (by simp) o e, p2.keep fun o e => k _ (by simp) o e⟩
  item := by
    intro X hP hw hK hc i pins s σ H E I hf st hg
    subst hP hw hK
    obtain ⟨hlt, xs, ys, a1, a2, hn⟩ := hg
    have live : ∀ b ∈ [N + 4, N + 2, N + 3, N, N + 1], b < s.heap.objs.size := fun b hb => by
      obtain ⟨o, e, _⟩ := st.obj b hb
      exact Heap.lt_size e
    obtain ⟨hle, ⟨m, f, hz, hm⟩, hTI, ⟨b1, b2, hTO⟩, q1, q2⟩ := st
    obtain ⟨P1, S1, D1, s1, r1, g1⟩ := Kd.draws (A := X.A.in1) I k1 a1 q1 (ad_new (j := 0) h1) (I.ok.hd hc)
    obtain ⟨P2, S2, D2, s2, r2, g2⟩ := Kd.draws (A := X.A.in1) I k2 a2 q2 (ad_new (j := 1) h2) (I.ok.hd hc)
    refine pyNext_zipG_item (zip_sep2 h1 h2) D1 D2 hz hm hTI hTO s1 s2 (by omega) (by omega) fun u1 u2 h' tk m' f' pu1 pu2 hz' hm' hTO' st1' st2' hTup hsz hk => ?_
    refine ⟨_, rfl, wpAny_pure ?_⟩
    have hTI' : IsTupOf2 h' (N + 2) (.ref N) (.ref (N + 1)) := hk _ _ (zip_sep2 h1 h2).TIz (zip_sep2 h1 h2).TITO (zip_sep2 h1 h2).TIi1 (zip_sep2 h1 h2).TIi2 hTI
    have hT : s.heap.objs.size ≤ s.heap.objs.size := Nat.le_refl _
    obtain ⟨x, hx, rx⟩ := r1 _ _ pu1
    obtain ⟨y, hy, ry⟩ := r2 _ _ pu2
    have new : ObjOk X.prog X.w (upd H s.heap.objs.size (.tup [x, y])) h' s.heap.objs.size (.tup [x, y]) := ⟨by show 2 ≤ sizeLine; decide, [u1, u2], .cons rx (.cons ry .nil), ⟨_, hTup, rfl, _, rfl⟩⟩
    have I1 := I.turnedNew (t' := tk) (ch := [N + 4, N + 2, N + 3, N, N + 1]) (fun b o hb e => hk b o (fun z => hb (by simp [z])) (fun z => hb (by simp [z])) (fun z => hb (by simp [z])) (fun z => hb (by simp [z])) e) hf hT new
    refine ⟨.ref s.heap.objs.size, _, I1, rfl, ⟨_, x, y, rfl, I.hok.fresh hT, rfl, fun l hl => ?_, fun l hl => ?_⟩, ⟨hlt, ⟨m', f', hz', hm'⟩, hTI', hTO', g1 _ _ st1', g2 _ _ st2'⟩, fun b hb => ?_⟩
    · rw [Kd.At.inj I hl a1]; exact hx
    · rw [Kd.At.inj I hl a2]; exact hy
    · rw [upd_ne (Nat.ne_of_lt (live b hb))]
      exact (hf b hb).1
  done := by
    intro X hP hw hK hc i pins s σ H E I hf st hg
    subst hP hw hK
    obtain ⟨hge, xs, ys, a1, a2, hn⟩ := hg
    obtain ⟨hle, ⟨m, f, hz, hm⟩, hTI, ⟨b1, b2, hTO⟩, q1, q2⟩ := st
    have hi : i = min xs.length ys.length := by omega
    obtain ⟨P1, S1, D1, s1, r1, g1⟩ := Kd.draws (A := X.A.in1) I k1 a1 q1 (ad_new (j := 0) h1) (I.ok.hd hc)
    obtain ⟨P2, S2, D2, s2, r2, g2⟩ := Kd.draws (A := X.A.in1) I k2 a2 q2 (ad_new (j := 1) h2) (I.ok.hd hc)
    refine pyNext_zipG_end (I.ok.hd hc) (zip_sep2 h1 h2) D1 D2 hz hm hTI hTO s1 s2 (by omega) (by omega) (by omega) fun h' tk hk => ⟨rfl, ?_⟩
    exact I.turnedL (t' := tk) (ch := [N + 4, N + 2, N + 3, N, N + 1]) (fun b o hb e => hk b o (fun z => hb (by simp [z])) (fun z => hb (by simp [z])) (fun z => hb (by simp [z])) (fun z => hb (by simp [z])) e) hf
  self := fun A i s Q E st h => by
    obtain ⟨_, ⟨m, f, hz, hm⟩, _⟩ := st
    have hT : s.TypeIs (.ref (N + 4)) "zip" := ⟨_, hz, rfl⟩
    refine wpAny_pyIter_slot hT F.slot_zip_iter (wpAny_call_entry F.slot_zip_iter hT F.entry_zip_iter ?_ (F.args_zip_iter_1 _))
    show wpAny _ _ (ret (.ref (N + 4))) _ _ s
    exact wpAny_pure ⟨_, rfl, "zip", _, hT, F.slot_zip_next.lookup, h⟩
end
section
variable {X : Cx} {e e2 : Expr} {ta : TA} {p pos tpos : Pos} {nx : Str}
theorem pi_zqN (hg : Gl X "zip") (hm : X.mg "zip" = none) (ha : PA X [e, e2] ta) (hs : starEach [e, e2] X.env = (false, eval e X.env) :: starEach [e2] X.env := by rfl) (hpl : (backTo pos (starEach [e2] X.env)).any (·.1) = false := by rfl) :
    PI X (.Name nx tpos) (.Call (.Name "zip" p) [e, e2] [] pos) (iZq X.K ta) := by
  refine ⟨fun pins s σ H R I h => ?_⟩
  refine Call_ (ld_blt I hg hm PyProof.Rows.boot_zip (PyProof.Rows.callWith_type1 (thn (ha.run pos pins s σ H _ I h) fun us s1 ⟨vs, H1, I1, rr, k1, k2, xs, ys, ex, a1, a2, q⟩ => ?_) hs hpl))
  subst ex
  cases rr with
  | cons r rr =>
    cases rr with
    | cons r' rr =>
      cases rr
      obtain ⟨o1, B1, b1, t1, g1, l1⟩ := Kd.begins I1 k1 a1 r
      obtain ⟨o2, B2, b2, t2, g2, l2⟩ := Kd.begins I1 k2 a2 r'
      refine zip_begins2 b1 b2 t1 t2 fun h' hz hTI hTO hx hy hsz hk => wpAny_pyIter_zip hz ?_
      have I2 : Inv X pins σ H1 { s1 with heap := h' } := I1.kept (t' := s1.toks) hk
      refine ⟨s1.heap.objs.size + 4, [s1.heap.objs.size + 4, s1.heap.objs.size + 2, s1.heap.objs.size + 3, s1.heap.objs.size, s1.heap.objs.size + 1], _, _, H1, rfl, I2, turn_zqN k1 k2 (min xs.length ys.length) s1.heap.objs.size l1 l2, ⟨Nat.zero_le _, ⟨_, _, hz, .inl rfl⟩, hTI, ⟨_, _, hTO⟩, g1 _ _ hx, g2 _ _ hy⟩, fun b hb => ?_, q⟩
      have : b = s1.heap.objs.size + 4 ∨ b = s1.heap.objs.size + 2 ∨ b = s1.heap.objs.size + 3 ∨ b = s1.heap.objs.size ∨ b = s1.heap.objs.size + 1 := by simpa using hb
      have hle : s1.heap.objs.size ≤ b := by rcases this with z | z | z | z | z <;> rw [z] <;> simp
      exact I1.fpOk hle (I1.hok.fresh hle)
end
section
variable {X : Cx} {G : Cf} {W : WX} {e e2 : Expr} {mt : MA} {pos p tpos : Pos} {nx : Str}
theorem mi_zipN (hK : X.K = G.K) (ha : PA X [e, e2] (tA G W mt)) (hm : X.mg "zip" = none) (hg : Gl X "zip" := by rfl) (hs : starEach [e, e2] X.env = (false, eval e X.env) :: starEach [e2] X.env := by rfl) (hpl : (backTo pos (starEach [e2] X.env)).any (·.1) = false := by rfl) :
    PI X (.Name nx tpos) (.Call (.Name "zip" p) [e, e2] [] pos) (tI G W (iZip mt)) := PI.imp (pi_zqN hg hm ha hs hpl) fun σ H R ⟨et, env, h, hE, hH, hP⟩ => by
  rw [hK]
  refine ⟨et, env, h, hE, hH, (Pst.of_bind hP).imp fun et1 H1 h1 xs p e hr q vs hv => ?_⟩
  split at q
  · rename_i a b
    obtain ⟨v, w, rfl, ra, rb⟩ := list2 hv
    have dyn : ∀ l l', qOf h1 a = some l → qOf h1 b = some l' → Pst G et1 H1 (.ok (Src.dy (zipQ a b (min l.length l'.length))) h1) (fun et' H' _ src => ∀ J, JRel G et' H' src J → R J H') (fun c d H' => W c d σ H') → ∃ k1 k2 xs ys, [v, w] = [Kd.v k1, Kd.v k2] ∧ k1.At G.K H1 xs ∧ k2.At G.K H1 ys ∧ R (Itq G.K k1 k2 (min xs.length ys.length)) H1 := fun l l' ea eb q => by
      obtain ⟨v1, xs, d1, a1⟩ := q_kd hr ea ra
      obtain ⟨v2, ys, d2, a2⟩ := q_kd hr eb rb
      have n1 := d1.len
      have n2 := d2.len
      refine ⟨kdOf a v, kdOf b w, xs, ys, by rw [← v1, ← v2], a1, a2, q.here hr _ fun et2 H2 h2 p2 e2 R2 ok i => ?_⟩
      have ok' : (zipQ a b (min l.length l'.length) h2).isSome = true := ok
      obtain ⟨zs, ez⟩ := Option.isSome_iff_exists.mp ok'
      show (match (zipQ a b (min l.length l'.length) h2).bind fun xs => xs[i]? with | some d => _ | none => _)
      rw [ez]
      unfold zipQ at ez
      cases qa : qOf h2 a with
      | none => rw [qa] at ez; cases ez
      | some m =>
        cases qb : qOf h2 b with
        | none => rw [qa, qb] at ez; cases ez
        | some m' =>
          rw [qa, qb] at ez
          dsimp only at ez
          split at ez
          · rename_i hn
            cases ez
            obtain ⟨_, xs2, f1, b1⟩ := q_kd R2 qa (ra.mono p2 e2)
            obtain ⟨_, ys2, f2, b2⟩ := q_kd R2 qb (rb.mono p2 e2)
            have n3 := f1.len
            have n4 := f2.len
            show (match (List.zipWith (fun x y => D.tup [x, y]) m m')[i]? with | some d => _ | none => _)
            rw [List.getElem?_zipWith]
            cases e3 : m[i]? with
            | none =>
              have := List.getElem?_eq_none_iff.mp e3
              exact ⟨by omega, xs2, ys2, b1, b2, by omega⟩
            | some d =>
              cases e4 : m'[i]? with
              | none =>
                have := List.getElem?_eq_none_iff.mp e4
                exact ⟨by omega, xs2, ys2, b1, b2, by omega⟩
              | some d' =>
                have m1 := (List.getElem?_eq_some_iff.mp e3).1
                have m2 := (List.getElem?_eq_some_iff.mp e4).1
                refine ⟨⟨by omega, xs2, ys2, b1, b2, by omega⟩, fun z H' ⟨T, x, y, hz, hT, hH', hx, hy⟩ => ?_⟩
                subst hz hH'
                obtain ⟨v1, w1, r1⟩ := f1.get e3
                obtain ⟨v2, w2, r2⟩ := f2.get e4
                have x1 := hx _ b1
                have x2 := hy _ b2
                rw [w1] at x1
                rw [w2] at x2
                cases x1
                cases x2
                exact ⟨Ext.new hT, R2.new hT, den_pair (h := h2) hT r1 r2⟩
          · cases ez
    have alt : Pst G et1 H1 (match qOf h1 a, qOf h1 b with
      | some l, some l' => NR.R.ok (Src.dy (zipQ a b (min l.length l'.length))) h1
      | _, _ => .no) (fun et' H' _ src => ∀ J, JRel G et' H' src J → R J H') (fun c d H' => W c d σ H') → ∃ k1 k2 xs ys, [v, w] = [Kd.v k1, Kd.v k2] ∧ k1.At G.K H1 xs ∧ k2.At G.K H1 ys ∧ R (Itq G.K k1 k2 (min xs.length ys.length)) H1 := fun q => by
      cases qa : qOf h1 a with
      | none => rw [qa] at q; exact q.elim
      | some l =>
        cases qb : qOf h1 b with
        | none => rw [qa, qb] at q; exact q.elim
        | some l' => rw [qa, qb] at q; exact dyn l l' qa qb q
    cases ea : stOf a with
    | none => rw [ea] at q; exact alt q
    | some l =>
      cases eb : stOf b with
      | none => rw [ea, eb] at q; exact alt q
      | some l' =>
        rw [ea, eb] at q
        obtain ⟨k1, xs, rfl, d1, st1⟩ := stOf_kd ea ra
        obtain ⟨k2, ys, rfl, d2, st2⟩ := stOf_kd eb rb
        refine ⟨k1, k2, xs, ys, rfl, st1 _ (Ext.refl _), st2 _ (Ext.refl _), q.here hr _ (jrel_st fun et2 H2 h2 p2 e2 R2 i => ?_)⟩
        have n1 := d1.len
        have n2 := d2.len
        rw [List.getElem?_zipWith]
        cases e3 : l[i]? with
        | none =>
          have := List.getElem?_eq_none_iff.mp e3
          exact ⟨by omega, xs, ys, st1 _ e2, st2 _ e2, rfl⟩
        | some d =>
          cases e4 : l'[i]? with
          | none =>
            have := List.getElem?_eq_none_iff.mp e4
            exact ⟨by omega, xs, ys, st1 _ e2, st2 _ e2, rfl⟩
          | some d' =>
            have m1 := (List.getElem?_eq_some_iff.mp e3).1
            have m2 := (List.getElem?_eq_some_iff.mp e4).1
            refine ⟨⟨by omega, xs, ys, st1 _ e2, st2 _ e2, rfl⟩, fun z H' ⟨T, x, y, hz, hT, hH', hx, hy⟩ => ?_⟩
            subst hz hH'
            obtain ⟨v1, w1, r1⟩ := d1.get e3
            obtain ⟨v2, w2, r2⟩ := d2.get e4
            have x1 := hx _ (st1 _ e2)
            have x2 := hy _ (st2 _ e2)
            rw [w1] at x1
            rw [w2] at x2
            cases x1
            cases x2
            exact ⟨Ext.new hT, R2.new hT, den_pair (h := h2) hT (r1.mono p2 e2) (r2.mono p2 e2)⟩
  · exact q.elim
end
end NR

set_option Elab.async false
set_option linter.all false
set_option maxRecDepth 100000
set_option maxHeartbeats 1000000
/-! The number of keys of a dict whose keys are tuples. -/
namespace NR
open PySem PySem.Spec PyProof.Rows L2
def bLenT : List D → IH → R D
  | [.ref n], h => match h[n]? with
    | some (.dt kvs) => .ok (.int (kvs.length : Nat)) h
    | _ => .no
  | _, _ => .no
theorem bLenT_ok {G : Cf} : CallS G rLenT bLenT := by
  intro et H h xs vs W Q rv R p
  unfold bLenT at p
  split at p
  · obtain ⟨v, rfl, h1⟩ := list1 rv
    obtain ⟨a, h2, rfl⟩ := den_ref.mp h1
    split at p
    · rename_i kvs hx
      obtain ⟨ws, h3, h4⟩ := R.cell _ _ a hx h2
      have lw : ws.length = kvs.length := by have := congrArg List.length h4.1; simpa using this
      refine ⟨a, ws, rfl, h3, ?_⟩
      rw [lw]
      exact p.here R _ (by simp)
    · exact p.elim
  · exact p.elim
theorem bLenT_ref {h : IH} {n : Nat} {kvs : List (List DKey × D)} (e : h[n]? = some (.dt kvs)) : bLenT [.ref n] h = .ok (.int (kvs.length : Nat)) h := by
  unfold bLenT
  dsimp only
  rw [e]
end NR

set_option Elab.async false
set_option linter.all false
set_option maxRecDepth 100000
set_option maxHeartbeats 1000000
/-! Dicts: an empty one whose keys are told by the list that is walked; {(..): v}. -/
namespace NR
open PySem PySem.Spec PyProof.Rows L2
/-- is slot i a list whose first item is a tuple? -/
def tupAt (i : Nat) (env : EV) (h : IH) : Bool := match env[i]? with
  | some (some d) => match seqOf h d with
    | some (.tup _ :: _) => true
    | _ => false
  | _ => false
/-- an empty dict; its keys are of the kind of the items of slot i -/
def mDictV (i : Nat) : ME := fun env h => if tupAt i env h = true then mDictT env h else mDict [] env h
section
variable {X : Cx} {G : Cf} {W : WX}
theorem me_dictV (i : Nat) {pos : Pos} : PE X (.Dict [] [] pos) (tE G W (mDictV i)) := ⟨fun pins s σ H Q I ⟨et, env, h, hE, hH, hP⟩ => by
  unfold mDictV at hP
  by_cases c : tupAt i env h = true
  · rw [if_pos c] at hP
    exact me_dict0T.run pins s σ H Q I ⟨et, env, h, hE, hH, hP⟩
  · rw [if_neg c] at hP
    exact me_dict0.run pins s σ H Q I ⟨et, env, h, hE, hH, hP⟩⟩
end
theorem ap_mDictV_t {i : Nat} {env : EV} {h : IH} (e : tupAt i env h = true) : mDictV i env h = .ok (.ref h.length) (h ++ [.dt []]) := by
  unfold mDictV
  rw [if_pos e]
  rfl
theorem ap_mDictV_k {i : Nat} {env : EV} {h : IH} (e : tupAt i env h = false) : mDictV i env h = .ok (.ref h.length) (h ++ [.dk []]) := by
  unfold mDictV
  rw [if_neg (by rw [e]; simp)]
  simp [mDict, mPr, R.bind, keyPs, dkAt]
/-- len, of a dict of either kind too -/
def bLenV (xs : List D) (h : IH) : R D := match xs with
  | [.ref n] => match h[n]? with
    | some (.dt kvs) => .ok (.int (kvs.length : Nat)) h
    | _ => bLen xs h
  | _ => bLen xs h
theorem call_lenV {X : Cx} : CallR X (.builtin "len") (fun xs H Q => rLenA X.K xs H Q ∨ rLenT xs H Q) := CallR.or call_lenA call_len_dT
theorem bLenV_ok {G : Cf} : CallS G (fun xs H Q => rLenA G.K xs H Q ∨ rLenT xs H Q) bLenV := by
  intro et H h xs vs W Q rv R p
  unfold bLenV at p
  split at p
  · rename_i n
    split at p
    · rename_i kvs hx
      refine .inr (bLenT_ok (G := G) et H h [.ref n] vs W Q rv R ?_)
      rw [bLenT_ref hx]
      exact p
    · exact .inl (bLen_ok et H h _ vs W Q rv R p)
  · exact .inl (bLen_ok et H h _ vs W Q rv R p)
theorem bLenV_dt {h : IH} {n : Nat} {kvs : List (List DKey × D)} (e : h[n]? = some (.dt kvs)) : bLenV [.ref n] h = .ok (.int (kvs.length : Nat)) h := by
  unfold bLenV
  dsimp only
  rw [e]
theorem bLenV_dk {h : IH} {n : Nat} {kvs : List (DKey × D)} (e : h[n]? = some (.dk kvs)) : bLenV [.ref n] h = .ok (.int (kvs.length : Nat)) h := by
  unfold bLenV bLen
  dsimp only
  rw [e]
/-! ### {(..): v} -/
section
variable {X : Cx} {pins : List (Addr × Obj)} {σ : L2.St} {H : Hp} {s : Shared} {a b : Addr} {v : V} {r : Value} {A : Around} {E : Value → Shared → Prop} {kvs : List (List Key × V)} {k : List Key}
theorem d_setT {Q : Unit → Shared → Prop} (hu : A.units < cLine) (I : Inv X pins σ H s) (e : H a = some (.dT kvs)) (eb : H b = some (.tup (k.map kV))) (l : kvs.length < sizeLine) (rv : RelV v r) (h : ∀ s', Inv X pins σ (upd H a (.dT (putK kvs k v))) s' → Q () s') :
    wpAny (model X.prog X.w) A (dictSet a (.ref b) r) Q E s := by
  obtain ⟨z, hd, xs, rel, dd⟩ := dt_of I.hok e
  have hz : xs.length ≤ sizeLine := by rw [← Paired.length rel]; exact z
  have hl : (putK kvs k v).length ≤ sizeLine := by have := length_putK kvs k v; omega
  refine wpAny_dictSet_heap (hsz := hz) (knd := tupleKind (mixKind X.prog X.w)) hu (key_of I.hok eb) dd fun h' dd' hs => h _ ?_
  obtain ⟨q, es, ep, hq, h2, h3, h4, _, h5⟩ := dd'
  refine d_write I (by rw [e]; exact True.intro) hs ⟨q, hq⟩ ⟨hl, hd, _, (rel.put k eb rv).keeps fun c ys ec => ?_, q, es, ep, hq, h2, h3, h4, h5⟩
  rw [upd_ne (ne_of ec e (fun z => nomatch z))]
  exact ec
end
def tDispT (tk tv : TE) : TE := fun σ H Q => ∀ p, H p = none → tk σ (upd H p (.dT [])) fun x H1 => tv σ H1 fun y H2 => H2 p = some (.dT []) ∧ ∃ (b : Addr) (ks : List Key), x = .ref b ∧ H2 b = some (.tup (ks.map kV)) ∧ Q (.ref p) (upd H2 p (.dT [(ks, y)]))
theorem pe_dispT {X : Cx} {k v : Expr} {pos : Pos} {tk tv : TE} (hu : X.A.units < cLine) (hk : PE X k tk) (hv : PE X v tv) : PE X (.Dict [some k] [v] pos) (tDispT tk tv) := by
  refine ⟨fun pins s σ H Q I q => ?_⟩
  have hn := I.hok.fresh (Nat.le_refl s.heap.objs.size)
  have I1 := I.laid (a := s.heap.objs.size) (o := .dT []) (h' := s.heap.push { cls := .type "dict", data := .dict #[] }) (t' := s.toks) (fun _ _ q => Heap.get?_push_of_some _ q) (Nat.le_refl _) (dt_empty s.heap I.big)
  refine wpAny_Dict_any rfl rfl (fun z => by cases z) (by simp) ?_
  refine pairTrees_cons_walk (thn (hk.run pins _ σ _ _ I1 (q _ hn)) fun u s1 ⟨x, H1, I1, rx, q1⟩ => thn (hv.run pins s1 σ H1 _ I1 q1) fun w s2 ⟨y, H2, I2, ry, q2⟩ => pairTrees_nil_walk ?_)
  obtain ⟨e, b, ks, ex, eb, q3⟩ := q2
  subst ex
  obtain rfl : u = Value.ref b := rx
  unfold storeAll
  rw [List.forIn_cons]
  refine wpAny_bind (wpAny_bind (d_setT (kvs := []) hu I2 e eb (by rw [sizeLine_eq]; simp) ry fun s3 I3 => wpAny_pure ?_))
  dsimp only
  rw [List.forIn_nil]
  exact wpAny_pure ⟨.ref s.heap.objs.size, _, I3, rfl, q3⟩
/-- {k: v}, k a tuple of ints and texts -/
def mDictP (mk mv : ME) : ME := fun env h => (mk env (h ++ [.dt []])).bind fun k h1 => (mv env h1).bind fun v h2 => match keyT? k, h2[h.length]? with
  | some ks, some (.dt []) => .ok (.ref h.length) (h2.set h.length (.dt [(ks, v)]))
  | _, _ => .no
section
variable {X : Cx} {G : Cf} {W : WX} {k v : Expr} {pos : Pos} {mk mv : ME}
theorem me_dictP (hu : X.A.units + 64 < cLine) (hk : PE X k (tE G W mk)) (hv : PE X v (tE G W mv)) : PE X (.Dict [some k] [v] pos) (tE G W (mDictP mk mv)) := PE.imp (pe_dispT (by omega) hk hv) fun σ H Q ⟨et, env, h, hE, hH, hP⟩ p hp => by
  have hH1 : HRel G (et ++ [p]) (h ++ [.dt []]) (upd H p (.dT [])) := hH.push hp ⟨[], upd_same, rfl, by simp⟩
  have pf : et <+: et ++ [p] := List.prefix_append _ _
  refine ⟨et ++ [p], env, h ++ [.dt []], hE.mono pf (Ext.new hp), hH1, (Pst.of_bind (Pst.weak pf (Ext.new hp) hP)).imp fun et2 H2 h2 kd p2 e2 hr2 q2 kv hkv => ?_⟩
  refine ⟨et2, env, h2, (hE.mono pf (Ext.new hp)).mono p2 e2, hr2, (Pst.of_bind q2).imp fun et3 H3 h3 vd p3 e3 hr3 q3 vv hvv => ?_⟩
  split at q3
  · rename_i ks ek ec
    have hp3 : et3[h.length]? = some p := by
      obtain ⟨t, rfl⟩ := p2
      obtain ⟨t', rfl⟩ := p3
      rw [List.getElem?_append_left (by simp [hH.len]), List.getElem?_append_left (by simp [hH.len]), ← hH.len]
      simp
    obtain ⟨ws, c1, c2⟩ := hr3.cell _ _ _ ec hp3
    have hw : ws = [] := by
      have := c2.1
      simpa using this
    subst hw
    cases kd with
    | tup l =>
      obtain ⟨b, vs, rfl, t1, t2⟩ := den_tup.mp hkv
      have ek' := keys_den (show allM keyD? l = some ks from ek) t2
      subst ek'
      have t3 := t1.ext e3
      have ex : Ext H3 (upd H3 p (.dT [(ks.map keyV, vv)])) := Ext.mut c1 True.intro
      refine ⟨c1, b, ks.map keyV, rfl, t3, ?_⟩
      refine q3 et3 _ List.prefix_rfl ex (hr3.set ec hp3 rfl c1 True.intro ⟨_, upd_same, rfl, ?_⟩) _ (den_ref.mpr ⟨p, hp3, rfl⟩)
      exact denL_cons.mpr ⟨vv, [], rfl, hvv.mono List.prefix_rfl ex, denL_nil.mpr rfl⟩
    | _ => cases ek
  · exact q3.elim
end
@[simp] theorem ap_mDictP {mk mv : ME} {env : EV} {h : IH} : mDictP mk mv env h = (mk env (h ++ [.dt []])).bind fun k h1 => (mv env h1).bind fun v h2 => match keyT? k, h2[h.length]? with
  | some ks, some (.dt []) => .ok (.ref h.length) (h2.set h.length (.dt [(ks, v)]))
  | _, _ => .no := rfl
end NR

set_option Elab.async false
set_option linter.all false
set_option maxRecDepth 100000
set_option maxHeartbeats 4000000
namespace NR
open PySem PySem.Spec PyProof.Rows L2
def topS (i : Nat) : Stmt := PySem.Challenge.pw_nearreach_k58_pairs_looked_at.main.body.getD i (.Pass ⟨0, 0, 0, 0⟩)
def hT : CTab := [(("Unlike", "ReachError"), true)]
def iT : CTab := [(("Unlike", "Closed"), false), (("Unlike", "NoBook"), false), (("Unlike", "NoModes"), false), (("Unlike", "NoPlace"), false), (("Unlike", "NoTable"), false), (("Unlike", "NoText"), false), (("Unlike", "TooHeavy"), false), (("Unlike", "TooMany"), false), (("Unlike", "Unlike"), true), (("Unlike", "ValueError"), true)]
/-! is_number -/
noncomputable def m_is_number : MF := fnM 1 (msRet (mAndV (mIs "int" (mVar 0)) (mNotV (mIs "bool" (mVar 0)))))
theorem sc_is_number : FnScope ["thing"] ["thing"] (defScope (topS 12)) := ⟨rfl, rfl, rfl, by decide +kernel, rfl, by decide +kernel, by decide +kernel⟩
theorem okf_is_number {P : Program} {w : World} {K : PySem.W.Frag} {mg : Str → Option Value} {base : Heap} {cl : Str → Addr} {f : Addr} {fd : FuncData} (F : Fun K "is_number" "is_number" (topS 12) f fd) (z_isinstance : mg "isinstance" = none) (z_int : mg "int" = none) (z_bool : mg "bool" = none) : FnOk P w K mg base (L2.CX P w) 1 f fd ["thing"] (FSp ⟨K, cl⟩ 1 m_is_number) :=
  fnPM F sc_is_number rfl fun cdv A outer s H E hr tk hp => mss_one (ms_ret (me_and (me_is rfl (me_var 0) z_isinstance z_int) (me_one (me_not (me_is rfl (me_var 0) z_isinstance z_bool)))))
theorem ok_is_number {P : Program} {w : World} {K : PySem.W.Frag} {mg : Str → Option Value} {base : Heap} {cl : Str → Addr} (d : DefAt K mg "is_number" (topS 12) ["thing"]) (z_isinstance : mg "isinstance" = none) (z_int : mg "int" = none) (z_bool : mg "bool" = none) : FnG P w K mg base ⟨K, cl⟩ "is_number" 1 1 m_is_number := d.fn fun f fd F => okf_is_number F z_isinstance z_int z_bool
/-! asked_alike -/
noncomputable def m_asked_alike : MF := fnM 2 (msIf (mTb (mOp (dEq true) (mOp dIx (mVar 0) (mC (.int 0))) (mOp dIx (mVar 1) (mC (.int 0))))) (msRaise "Unlike") (msNil))
theorem sc_asked_alike : FnScope ["one", "other"] ["one", "other"] (defScope (topS 15)) := ⟨rfl, rfl, rfl, by decide +kernel, rfl, by decide +kernel, by decide +kernel⟩
theorem okf_asked_alike {P : Program} {w : World} {K : PySem.W.Frag} {mg : Str → Option Value} {base : Heap} {cl : Str → Addr} {f : Addr} {fd : FuncData} (F : Fun K "asked_alike" "asked_alike" (topS 15) f fd) (x_Unlike : ExC1 K mg "Unlike" (cl "Unlike")) : FnOk P w K mg base (L2.CX P w) 1 f fd ["one", "other"] (FSp ⟨K, cl⟩ 2 m_asked_alike) :=
  fnPM F sc_asked_alike rfl fun cdv A outer s H E hr tk hp => mss_one (ms_if (mt_cmp (op_neP hr.units) (dNe_ok rfl) (me_ix rfl (me_var 0) (me_int)) (me_ix rfl (me_var 1) (me_int))) (mss_one (ms_raise rfl tk x_Unlike)) (mss_nil))
theorem ok_asked_alike {P : Program} {w : World} {K : PySem.W.Frag} {mg : Str → Option Value} {base : Heap} {cl : Str → Addr} (d : DefAt K mg "asked_alike" (topS 15) ["one", "other"]) (x_Unlike : ExC1 K mg "Unlike" (cl "Unlike")) : FnG P w K mg base ⟨K, cl⟩ "asked_alike" 1 2 m_asked_alike := d.fn fun f fd F => okf_asked_alike F x_Unlike
/-! together -/
noncomputable def b_together_1 : MS := msCons (msSet 9 (mTup (mCons (mOp dIx (mOp dIx (mOp dIx (mVar 0) (mC (.int 1))) (mVar 5)) (mVar 7)) (mCons (mOp dIx (mOp dIx (mOp dIx (mVar 1) (mC (.int 1))) (mVar 6)) (mVar 7)) (mNil)))))
    (msIf (mTb (mOp (dDIn true) (mVar 9) (mVar 2))) (msCons (msSetD (mVar 2) (mVar 9) (mFz (mOp dAdd (mOp dDGet (mVar 2) (mOp dIx (mVar 3) (mVar 4))) (mVar 8))))
    (msExpr (mMeth "list" fAppend (mVar 3) (mCons (mVar 9) (mNil))))) (msNil))
noncomputable def t_together_2 : MT := mTb (mOp dLt (mVar 4) (mB bLen (mCons (mVar 3) (mNil))))
noncomputable def b_together_3 : MS := msCons (msSetT (gSets [5, 6]) (mOp dIx (mVar 3) (mVar 4)))
    (msCons (msFor (iEnum (mCons (mOp dIx (mVar 0) (mC (.int 0))) (mNil))) (gSets [7, 8]) b_together_1)
    (msSet 4 (mOp dAdd (mVar 4) (mC (.int 1)))))
noncomputable def m_together : MF := fnM 10 (msCons (msSet 2 (mDictP (mTup (mCons (mC (.int 0)) (mCons (mC (.int 0)) (mNil)))) (mC (.str []))))
    (msCons (msSet 3 (mLst (mCons (mTup (mCons (mC (.int 0)) (mCons (mC (.int 0)) (mNil)))) (mNil))))
    (msCons (msSet 4 (mC (.int 0)))
    (msCons (msWhile t_together_2 b_together_3)
    (msFz 2 (msRet (mVar 2)))))))
theorem sc_together : FnScope ["one", "other", "words", "met", "at", "first", "second", "k", "sign", "there"] ["one", "other"] (defScope (topS 16)) := ⟨rfl, rfl, rfl, by decide +kernel, rfl, by decide +kernel, by decide +kernel⟩
theorem okf_together {P : Program} {w : World} {K : PySem.W.Frag} {mg : Str → Option Value} {base : Heap} {cl : Str → Addr} {f : Addr} {fd : FuncData} (F : Fun K "together" "together" (topS 16) f fd) (z_len : mg "len" = none) (z_enumerate : mg "enumerate" = none) : FnOk P w K mg base (L2.CX P w) 1 f fd ["one", "other"] (FSp ⟨K, cl⟩ 2 m_together) :=
  fnPM F sc_together rfl fun cdv A outer s H E hr tk hp => mss_cons (ms_set 2 sc_together.nd (me_dictP hr.units (me_tup (ma_cons (me_int) (ma_cons (me_int) (ma_nil)))) (me_str [])))
    (mss_cons (ms_set 3 sc_together.nd (me_lst (ma_cons (me_tup (ma_cons (me_int) (ma_cons (me_int) (ma_nil)))) (ma_nil))))
    (mss_cons (ms_set 4 sc_together.nd (me_int))
    (mss_cons (ms_while hp (mt_cmp op_lt opS_C (me_var 4) (me_callB call_lenA bLen_ok z_len (by decide +kernel) (ma_cons (me_var 3) (ma_nil)))) (mss_cons (ms_setT (me_ix rfl (me_var 3) (me_var 4)) (mg_tup rfl rfl (.cons (pg_name (i := 5) sc_together.nd rfl (by first | exact Or.inl rfl | exact Or.inr rfl)) (.cons (pg_name (i := 6) sc_together.nd rfl (by first | exact Or.inl rfl | exact Or.inr rfl)) (.nil) rfl) rfl)))
    (mss_cons (ms_for rfl hp (mi_enum rfl (ma_cons (me_ix rfl (me_var 0) (me_int)) (ma_nil)) z_enumerate) (mg_tup rfl rfl (.cons (pg_name (i := 7) sc_together.nd rfl (by first | exact Or.inl rfl | exact Or.inr rfl)) (.cons (pg_name (i := 8) sc_together.nd rfl (by first | exact Or.inl rfl | exact Or.inr rfl)) (.nil) rfl) rfl)) (mss_cons (ms_set 9 sc_together.nd (me_tup (ma_cons (me_ix rfl (me_ix rfl (me_ix rfl (me_var 0) (me_int)) (me_var 5)) (me_var 7)) (ma_cons (me_ix rfl (me_ix rfl (me_ix rfl (me_var 1) (me_int)) (me_var 6)) (me_var 7)) (ma_nil)))))
    (mss_one (ms_if (mt_cmp (op_dNotIn hr.units) (dDIn_ok true) (me_var 9) (me_var 2)) (mss_cons (ms_setD hr.units (me_fz (me_add rfl (me_dget hr.units (me_var 2) (me_ix rfl (me_var 3) (me_var 4))) (me_var 8))) (me_var 2) (me_var 9))
    (mss_one (ms_expr (me_meth rfl PySem.F.plainAttrs_list PySem.F.slot_list_append PySem.F.type_list_append mt_append fAppend_ok (me_var 3) (ma_cons (me_var 9) (ma_nil)))))) (mss_nil)))))
    (mss_one (ms_set 4 sc_together.nd (me_add rfl (me_var 4) (me_int)))))))
    (mss_one (ms_fz 2 (ms_ret (me_var 2)))))))
theorem ok_together {P : Program} {w : World} {K : PySem.W.Frag} {mg : Str → Option Value} {base : Heap} {cl : Str → Addr} (d : DefAt K mg "together" (topS 16) ["one", "other"]) (z_len : mg "len" = none) (z_enumerate : mg "enumerate" = none) : FnG P w K mg base ⟨K, cl⟩ "together" 1 2 m_together := d.fn fun f fd F => okf_together F z_len z_enumerate
/-! _law_pen -/
noncomputable def m__law_pen : MF := fnM 1 (msRet (mLst (mCons (mFz (mSlice (mVar 0) (moNone) (moSome (mC (.int 63))))) (mCons (mC (.int 0)) (mCons (mC (.int 0)) (mNil))))))
theorem sc__law_pen : FnScope ["_law_script"] ["_law_script"] (defScope (topS 23)) := ⟨rfl, rfl, rfl, by decide +kernel, rfl, by decide +kernel, by decide +kernel⟩
theorem okf__law_pen {P : Program} {w : World} {K : PySem.W.Frag} {mg : Str → Option Value} {base : Heap} {cl : Str → Addr} {f : Addr} {fd : FuncData} (F : Fun K "_law_pen" "_law_pen" (topS 23) f fd) : FnOk P w K mg base (L2.CX P w) 1 f fd ["_law_script"] (FSp ⟨K, cl⟩ 1 m__law_pen) :=
  fnPM F sc__law_pen rfl fun cdv A outer s H E hr tk hp => mss_one (ms_ret (me_lst (ma_cons (me_fz (me_slice rfl (me_var 0) (moN) (moS (me_int)))) (ma_cons (me_int) (ma_cons (me_int) (ma_nil))))))
theorem ok__law_pen {P : Program} {w : World} {K : PySem.W.Frag} {mg : Str → Option Value} {base : Heap} {cl : Str → Addr} (d : DefAt K mg "_law_pen" (topS 23) ["_law_script"]) : FnG P w K mg base ⟨K, cl⟩ "_law_pen" 1 1 m__law_pen := d.fn fun f fd F => okf__law_pen F
/-! _law_take -/
noncomputable def m__law_take : MF := fnM 7 (msCons (msIf (mTb (mOp dGt (mOp dIx (mVar 0) (mC (.int 2))) (mC (.int 0)))) (msCons (msSet 2 (mOp dMod (mOp dIx (mVar 0) (mC (.int 2))) (mVar 1)))
    (msCons (msSetI (mVar 0) (mC (.int 2)) (mOp dDiv (mOp dIx (mVar 0) (mC (.int 2))) (mVar 1)))
    (msRet (mVar 2)))) (msNil))
    (msCons (msSet 3 (mOp dIx (mVar 0) (mC (.int 1))))
    (msCons (msSetI (mVar 0) (mC (.int 1)) (mOp dAdd (mVar 3) (mC (.int 1))))
    (msCons (msSet 4 (mC (.int 5)))
    (msCons (msIf (mTb (mOp dGt (mB bLen (mCons (mOp dIx (mVar 0) (mC (.int 0))) (mNil))) (mC (.int 0)))) (msSet 4 (mOp dIx (mOp dIx (mVar 0) (mC (.int 0))) (mOp dMod (mVar 3) (mB bLen (mCons (mOp dIx (mVar 0) (mC (.int 0))) (mNil)))))) (msNil))
    (msCons (msIf (mAnd (mTb (mOp dLt (mVar 3) (mB bLen (mCons (mOp dIx (mVar 0) (mC (.int 0))) (mNil))))) (mTb (mOp dGe (mB bAbs (mCons (mVar 4) (mNil))) (mOp dPow (mC (.int 10)) (mC (.int 18)))))) (msCons (msSet 5 (mOp dAdd (mOp dMul (mC (.int 2)) (mB bAbs (mCons (mVar 4) (mNil)))) (mB bInt1 (mCons (mOp dLt (mVar 4) (mC (.int 0))) (mNil)))))
    (msCons (msSetI (mVar 0) (mC (.int 2)) (mOp dDiv (mVar 5) (mVar 1)))
    (msRet (mOp dMod (mVar 5) (mVar 1))))) (msNil))
    (msCons (msSet 6 (mOp dMod (mOp dPow (mOp dAdd (mOp dAdd (mOp dMod (mVar 4) (mC (.int 2147483587))) (mOp dMul (mC (.int 40709)) (mVar 3))) (mC (.int 31))) (mC (.int 3))) (mC (.int 2147483647))))
    (msCons (msSet 6 (mOp dMod (mOp dAdd (mOp dAdd (mOp dMul (mVar 6) (mVar 6)) (mOp dMul (mC (.int 48271)) (mVar 6))) (mVar 3)) (mC (.int 2147483629))))
    (msRet (mOp dMod (mOp dDiv (mVar 6) (mC (.int 64))) (mVar 1)))))))))))
theorem sc__law_take : FnScope ["_law_pen_here", "_law_many", "_law_found", "_law_at", "_law_cell", "_law_great", "_law_number"] ["_law_pen_here", "_law_many"] (defScope (topS 24)) := ⟨rfl, rfl, rfl, by decide +kernel, rfl, by decide +kernel, by decide +kernel⟩
theorem okf__law_take {P : Program} {w : World} {K : PySem.W.Frag} {mg : Str → Option Value} {base : Heap} {cl : Str → Addr} {f : Addr} {fd : FuncData} (F : Fun K "_law_take" "_law_take" (topS 24) f fd) (z_len : mg "len" = none) (z_abs : mg "abs" = none) (z_int : mg "int" = none) : FnOk P w K mg base (L2.CX P w) 1 f fd ["_law_pen_here", "_law_many"] (FSp ⟨K, cl⟩ 2 m__law_take) :=
  fnPM F sc__law_take rfl fun cdv A outer s H E hr tk hp => mss_cons (ms_if (mt_cmp op_gt opS_C (me_ix rfl (me_var 0) (me_int)) (me_int)) (mss_cons (ms_set 2 sc__law_take.nd (me_mod (me_ix rfl (me_var 0) (me_int)) (me_var 1)))
    (mss_cons (ms_setI (me_div (me_ix rfl (me_var 0) (me_int)) (me_var 1)) (me_var 0) (me_int))
    (mss_one (ms_ret (me_var 2))))) (mss_nil))
    (mss_cons (ms_set 3 sc__law_take.nd (me_ix rfl (me_var 0) (me_int)))
    (mss_cons (ms_setI (me_add rfl (me_var 3) (me_int)) (me_var 0) (me_int))
    (mss_cons (ms_set 4 sc__law_take.nd (me_int))
    (mss_cons (ms_if (mt_cmp op_gt opS_C (me_callB call_lenA bLen_ok z_len (by decide +kernel) (ma_cons (me_ix rfl (me_var 0) (me_int)) (ma_nil))) (me_int)) (mss_one (ms_set 4 sc__law_take.nd (me_ix rfl (me_ix rfl (me_var 0) (me_int)) (me_mod (me_var 3) (me_callB call_lenA bLen_ok z_len (by decide +kernel) (ma_cons (me_ix rfl (me_var 0) (me_int)) (ma_nil))))))) (mss_nil))
    (mss_cons (ms_if (mt_w (mw_and (mt_cmp op_lt opS_C (me_var 3) (me_callB call_lenA bLen_ok z_len (by decide +kernel) (ma_cons (me_ix rfl (me_var 0) (me_int)) (ma_nil)))) (mw_and1 (mt_cmp op_ge opS_C (me_callB call_abs bAbs_ok z_abs (by decide +kernel) (ma_cons (me_var 4) (ma_nil))) (me_pow (me_int) (me_int)))))) (mss_cons (ms_set 5 sc__law_take.nd (me_add rfl (me_mul rfl (me_int) (me_callB call_abs bAbs_ok z_abs (by decide +kernel) (ma_cons (me_var 4) (ma_nil)))) (me_callT call_int1 bInt1_ok z_int (by decide +kernel) (ma_cons (me_cmp op_lt opS_C (me_var 4) (me_int)) (ma_nil)))))
    (mss_cons (ms_setI (me_div (me_var 5) (me_var 1)) (me_var 0) (me_int))
    (mss_one (ms_ret (me_mod (me_var 5) (me_var 1)))))) (mss_nil))
    (mss_cons (ms_set 6 sc__law_take.nd (me_mod (me_pow (me_add rfl (me_add rfl (me_mod (me_var 4) (me_int)) (me_mul rfl (me_int) (me_var 3))) (me_int)) (me_int)) (me_int)))
    (mss_cons (ms_set 6 sc__law_take.nd (me_mod (me_add rfl (me_add rfl (me_mul rfl (me_var 6) (me_var 6)) (me_mul rfl (me_int) (me_var 6))) (me_var 3)) (me_int)))
    (mss_one (ms_ret (me_mod (me_div (me_var 6) (me_int)) (me_var 1)))))))))))
theorem ok__law_take {P : Program} {w : World} {K : PySem.W.Frag} {mg : Str → Option Value} {base : Heap} {cl : Str → Addr} (d : DefAt K mg "_law_take" (topS 24) ["_law_pen_here", "_law_many"]) (z_len : mg "len" = none) (z_abs : mg "abs" = none) (z_int : mg "int" = none) : FnG P w K mg base ⟨K, cl⟩ "_law_take" 1 2 m__law_take := d.fn fun f fd F => okf__law_take F z_len z_abs z_int
/-! _law_signs -/
noncomputable def m__law_signs : MF := fnM 1 (msCons (msSet 0 (mC (.str [32, 33, 34, 35, 36, 38, 39, 40, 41, 42, 43, 44, 45, 46, 47, 48, 49, 50, 51, 52, 53, 54, 55, 56, 57, 58, 59, 60, 61, 62, 63, 64, 65, 66, 67, 68, 69, 70, 71, 72, 73, 74, 75, 76, 77, 78, 79, 80, 81, 82, 83, 84, 85, 86, 87, 88, 89, 90, 91, 92, 93, 94, 95, 96])))
    (msRet (mOp dAdd (mVar 0) (mC (.str [97, 98, 99, 100, 101, 102, 103, 104, 105, 106, 107, 108, 109, 110, 111, 112, 113, 114, 115, 116, 117, 118, 119, 120, 121, 122, 123, 124, 125, 126, 10])))))
theorem sc__law_signs : FnScope ["_law_some_here"] [] (defScope (topS 25)) := ⟨rfl, rfl, rfl, by decide +kernel, rfl, by decide +kernel, by decide +kernel⟩
theorem okf__law_signs {P : Program} {w : World} {K : PySem.W.Frag} {mg : Str → Option Value} {base : Heap} {cl : Str → Addr} {f : Addr} {fd : FuncData} (F : Fun K "_law_signs" "_law_signs" (topS 25) f fd) : FnOk P w K mg base (L2.CX P w) 1 f fd [] (FSp ⟨K, cl⟩ 0 m__law_signs) :=
  fnPM F sc__law_signs rfl fun cdv A outer s H E hr tk hp => mss_cons (ms_set 0 sc__law_signs.nd (me_str [32, 33, 34, 35, 36, 38, 39, 40, 41, 42, 43, 44, 45, 46, 47, 48, 49, 50, 51, 52, 53, 54, 55, 56, 57, 58, 59, 60, 61, 62, 63, 64, 65, 66, 67, 68, 69, 70, 71, 72, 73, 74, 75, 76, 77, 78, 79, 80, 81, 82, 83, 84, 85, 86, 87, 88, 89, 90, 91, 92, 93, 94, 95, 96]))
    (mss_one (ms_ret (me_add rfl (me_var 0) (me_str [97, 98, 99, 100, 101, 102, 103, 104, 105, 106, 107, 108, 109, 110, 111, 112, 113, 114, 115, 116, 117, 118, 119, 120, 121, 122, 123, 124, 125, 126, 10]))))
theorem ok__law_signs {P : Program} {w : World} {K : PySem.W.Frag} {mg : Str → Option Value} {base : Heap} {cl : Str → Addr} (d : DefAt K mg "_law_signs" (topS 25) []) : FnG P w K mg base ⟨K, cl⟩ "_law_signs" 1 0 m__law_signs := d.fn fun f fd F => okf__law_signs F
/-! _law_cut_down -/
noncomputable def b__law_cut_down_1 : MS := msIf (mTb (mOp (dIn true) (mVar 6) (mVar 4))) (msExpr (mMeth "list" fAppend (mVar 4) (mCons (mVar 6) (mNil)))) (msNil)
noncomputable def t__law_cut_down_2 : MT := mTb (mOp dLt (mVar 5) (mB bLen (mCons (mVar 4) (mNil))))
noncomputable def b__law_cut_down_3 : MS := msCons (msFor (iSeq (mOp dIx (mVar 1) (mOp dIx (mVar 4) (mVar 5)))) (gSet 6) b__law_cut_down_1)
    (msSet 5 (mOp dAdd (mVar 5) (mC (.int 1))))
noncomputable def e__law_cut_down_4 : ME := mOrE (mMeth "str" fIndex (mVar 4) (mCons (mVar 6) (mNil))) (mOrE (mMeth "list" fIndexL (mVar 4) (mCons (mVar 6) (mNil))) (mMeth "list" fIndexD (mVar 4) (mCons (mVar 6) (mNil))))
noncomputable def e__law_cut_down_5 : ME := mB bTupleX (mCons (mFz (mLc (iSeq (mOp dIx (mVar 1) (mVar 8))) (gSet 6) mYes e__law_cut_down_4 [6])) (mNil))
noncomputable def e__law_cut_down_6 : ME := mOp dIx (mVar 2) (mVar 8)
noncomputable def m__law_cut_down : MF := fnM 9 (msCons (msSet 4 (mLst (mCons (mC (.int 0)) (mNil))))
    (msCons (msSet 5 (mC (.int 0)))
    (msCons (msWhile t__law_cut_down_2 b__law_cut_down_3)
    (msCons (msFz 4 (msSet 3 (mOp dAdd (mC (.int 1)) (mOp dMod (mVar 3) (mB bLen (mCons (mVar 4) (mNil)))))))
    (msCons (msSet 4 (mFz (mOp dAdd (mFz (mOp dAdd (mFz (mLst (mCons (mC (.int 0)) (mNil)))) (mFz (mSlice (mVar 4) (moSome (mVar 3)) (moNone))))) (mFz (mSlice (mVar 4) (moSome (mC (.int 1))) (moSome (mVar 3)))))))
    (msCons (msSet 7 (mB bTupleX (mCons (mFz (mLc (iSeq (mVar 4)) (gSet 8) mYes e__law_cut_down_5 [8])) (mNil))))
    (msRet (mTup (mCons (mVar 0) (mCons (mVar 7) (mCons (mB bTupleX (mCons (mFz (mLc (iSeq (mVar 4)) (gSet 8) mYes e__law_cut_down_6 [8])) (mNil))) (mNil))))))))))))
theorem sc__law_cut_down : FnScope ["_law_tongue", "_law_goes", "_law_kinds", "_law_turn", "_law_met_here", "_law_at", "_law_there", "_law_rows", "_law_room"] ["_law_tongue", "_law_goes", "_law_kinds", "_law_turn"] (defScope (topS 27)) := ⟨rfl, rfl, rfl, by decide +kernel, rfl, by decide +kernel, by decide +kernel⟩
theorem okf__law_cut_down {P : Program} {w : World} {K : PySem.W.Frag} {mg : Str → Option Value} {base : Heap} {cl : Str → Addr} {f : Addr} {fd : FuncData} (F : Fun K "_law_cut_down" "_law_cut_down" (topS 27) f fd) (z_len : mg "len" = none) (z_tuple : mg "tuple" = none) : FnOk P w K mg base (L2.CX P w) 1 f fd ["_law_tongue", "_law_goes", "_law_kinds", "_law_turn"] (FSp ⟨K, cl⟩ 4 m__law_cut_down) :=
  fnPM F sc__law_cut_down rfl fun cdv A outer s H E hr tk hp => mss_cons (ms_set 4 sc__law_cut_down.nd (me_lst (ma_cons (me_int) (ma_nil))))
    (mss_cons (ms_set 5 sc__law_cut_down.nd (me_int))
    (mss_cons (ms_while hp (mt_cmp op_lt opS_C (me_var 5) (me_callB call_lenA bLen_ok z_len (by decide +kernel) (ma_cons (me_var 4) (ma_nil)))) (mss_cons (ms_for rfl hp (mi_seq rfl (me_ix rfl (me_var 1) (me_ix rfl (me_var 4) (me_var 5)))) (mg_name 6 sc__law_cut_down.nd) (mss_one (ms_if (mt_cmp (op_notInA hr.units) (dIn_ok rfl true) (me_var 6) (me_var 4)) (mss_one (ms_expr (me_meth rfl PySem.F.plainAttrs_list PySem.F.slot_list_append PySem.F.type_list_append mt_append fAppend_ok (me_var 4) (ma_cons (me_var 6) (ma_nil))))) (mss_nil))))
    (mss_one (ms_set 5 sc__law_cut_down.nd (me_add rfl (me_var 5) (me_int))))))
    (mss_cons (ms_fz 4 (ms_set 3 sc__law_cut_down.nd (me_add rfl (me_int) (me_mod (me_var 3) (me_callB call_lenA bLen_ok z_len (by decide +kernel) (ma_cons (me_var 4) (ma_nil)))))))
    (mss_cons (ms_set 4 sc__law_cut_down.nd (me_fz (me_add rfl (me_fz (me_add rfl (me_fz (me_lst (ma_cons (me_int) (ma_nil)))) (me_fz (me_slice rfl (me_var 4) (moS (me_var 3)) (moN))))) (me_fz (me_slice rfl (me_var 4) (moS (me_int)) (moS (me_var 3)))))))
    (mss_cons (ms_set 7 sc__law_cut_down.nd (me_callT (call_tupleX rfl) bTupleX_ok z_tuple (by decide +kernel) (ma_cons (me_fz (me_lc (own := [("_law_room", 8)]) rfl sc__law_cut_down.nd (mi_seq rfl (me_var 4)) (blkOk_by (N := ["_law_tongue", "_law_goes", "_law_kinds", "_law_turn", "_law_met_here", "_law_at", "_law_there", "_law_rows", "_law_room"]) (sc := defScope (topS 27)) (by decide +kernel)) (fun _ _ _ _ _ => mg_name 8 sc__law_cut_down.nd) (fun _ _ _ _ _ => mts_nil) (fun _ _ _ _ _ => me_callT (call_tupleX rfl) bTupleX_ok z_tuple (by decide +kernel) (ma_cons (me_fz (me_lc (own := [("_law_there", 6)]) rfl sc__law_cut_down.nd (mi_seq rfl (me_ix rfl (me_var 1) (me_var 8))) (by dsimp only [Cx.blk, compEnvC, cxOf]; exact blkOk_in (sc := defScope (topS 27)) rfl (by decide +kernel)) (fun _ _ _ _ _ => mg_name 6 sc__law_cut_down.nd) (fun _ _ _ _ _ => mts_nil) (fun _ _ _ _ _ => me_orE (me_meth rfl PySem.F.plainAttrs_str PySem.F.slot_str_index PySem.F.type_str_index mt_sindex fIndex_ok (me_var 4) (ma_cons (me_var 6) (ma_nil))) (me_orE (me_meth rfl PySem.F.plainAttrs_list PySem.F.slot_list_index PySem.F.type_list_index mt_index fIndexL_ok (me_var 4) (ma_cons (me_var 6) (ma_nil))) (me_meth rfl PySem.F.plainAttrs_list PySem.F.slot_list_index PySem.F.type_list_index (mt_indexD (units65 hr)) fIndexD_ok (me_var 4) (ma_cons (me_var 6) (ma_nil))))))) (ma_nil))))) (ma_nil))))
    (mss_one (ms_ret (me_tup (ma_cons (me_var 0) (ma_cons (me_var 7) (ma_cons (me_callT (call_tupleX rfl) bTupleX_ok z_tuple (by decide +kernel) (ma_cons (me_fz (me_lc (own := [("_law_room", 8)]) rfl sc__law_cut_down.nd (mi_seq rfl (me_var 4)) (blkOk_by (N := ["_law_tongue", "_law_goes", "_law_kinds", "_law_turn", "_law_met_here", "_law_at", "_law_there", "_law_rows", "_law_room"]) (sc := defScope (topS 27)) (by decide +kernel)) (fun _ _ _ _ _ => mg_name 8 sc__law_cut_down.nd) (fun _ _ _ _ _ => mts_nil) (fun _ _ _ _ _ => me_ix rfl (me_var 2) (me_var 8)))) (ma_nil))) (ma_nil))))))))))))
theorem ok__law_cut_down {P : Program} {w : World} {K : PySem.W.Frag} {mg : Str → Option Value} {base : Heap} {cl : Str → Addr} (d : DefAt K mg "_law_cut_down" (topS 27) ["_law_tongue", "_law_goes", "_law_kinds", "_law_turn"]) (z_len : mg "len" = none) (z_tuple : mg "tuple" = none) : FnG P w K mg base ⟨K, cl⟩ "_law_cut_down" 1 4 m__law_cut_down := d.fn fun f fd F => okf__law_cut_down F z_len z_tuple
/-! _law_met -/
noncomputable def b__law_met_1 : MS := msCons (msSet 8 (mTup (mCons (mOp dIx (mOp dIx (mOp dIx (mVar 0) (mC (.int 1))) (mOp dIx (mVar 5) (mC (.int 0)))) (mVar 7)) (mCons (mOp dIx (mOp dIx (mOp dIx (mVar 1) (mC (.int 1))) (mOp dIx (mVar 5) (mC (.int 1)))) (mVar 7)) (mNil)))))
    (msIf (mTb (mOp (dDIn true) (mVar 8) (mVar 3))) (msCons (msSetD (mVar 3) (mVar 8) (mC (.bl true)))
    (msExpr (mMeth "list" fAppend (mVar 2) (mCons (mTup (mCons (mVar 8) (mCons (mFz (mOp dAdd (mVar 6) (mOp dIx (mOp dIx (mVar 0) (mC (.int 0))) (mVar 7)))) (mNil)))) (mNil))))) (msNil))
noncomputable def t__law_met_2 : MT := mTb (mOp dLt (mVar 4) (mB bLen (mCons (mVar 2) (mNil))))
noncomputable def b__law_met_3 : MS := msCons (msSetT (gSets [5, 6]) (mOp dIx (mVar 2) (mVar 4)))
    (msCons (msFor (iRange1 (mCons (mB bLen (mCons (mOp dIx (mVar 0) (mC (.int 0))) (mNil))) (mNil))) (gSet 7) b__law_met_1)
    (msSet 4 (mOp dAdd (mVar 4) (mC (.int 1)))))
noncomputable def m__law_met : MF := fnM 9 (msCons (msSet 2 (mLst (mCons (mTup (mCons (mTup (mCons (mC (.int 0)) (mCons (mC (.int 0)) (mNil)))) (mCons (mC (.str [])) (mNil)))) (mNil))))
    (msCons (msSet 3 (mDictP (mTup (mCons (mC (.int 0)) (mCons (mC (.int 0)) (mNil)))) (mC (.bl true))))
    (msCons (msSet 4 (mC (.int 0)))
    (msCons (msWhile t__law_met_2 b__law_met_3)
    (msFz 2 (msRet (mVar 2)))))))
theorem sc__law_met : FnScope ["_law_one", "_law_other", "_law_met_here", "_law_known", "_law_at", "_law_pair", "_law_word", "_law_k", "_law_there"] ["_law_one", "_law_other"] (defScope (topS 32)) := ⟨rfl, rfl, rfl, by decide +kernel, rfl, by decide +kernel, by decide +kernel⟩
theorem okf__law_met {P : Program} {w : World} {K : PySem.W.Frag} {mg : Str → Option Value} {base : Heap} {cl : Str → Addr} {f : Addr} {fd : FuncData} (F : Fun K "_law_met" "_law_met" (topS 32) f fd) (z_len : mg "len" = none) (z_range : mg "range" = none) : FnOk P w K mg base (L2.CX P w) 1 f fd ["_law_one", "_law_other"] (FSp ⟨K, cl⟩ 2 m__law_met) :=
  fnPM F sc__law_met rfl fun cdv A outer s H E hr tk hp => mss_cons (ms_set 2 sc__law_met.nd (me_lst (ma_cons (me_tup (ma_cons (me_tup (ma_cons (me_int) (ma_cons (me_int) (ma_nil)))) (ma_cons (me_str []) (ma_nil)))) (ma_nil))))
    (mss_cons (ms_set 3 sc__law_met.nd (me_dictP hr.units (me_tup (ma_cons (me_int) (ma_cons (me_int) (ma_nil)))) (me_bl)))
    (mss_cons (ms_set 4 sc__law_met.nd (me_int))
    (mss_cons (ms_while hp (mt_cmp op_lt opS_C (me_var 4) (me_callB call_lenA bLen_ok z_len (by decide +kernel) (ma_cons (me_var 2) (ma_nil)))) (mss_cons (ms_setT (me_ix rfl (me_var 2) (me_var 4)) (mg_tup rfl rfl (.cons (pg_name (i := 5) sc__law_met.nd rfl (by first | exact Or.inl rfl | exact Or.inr rfl)) (.cons (pg_name (i := 6) sc__law_met.nd rfl (by first | exact Or.inl rfl | exact Or.inr rfl)) (.nil) rfl) rfl)))
    (mss_cons (ms_for rfl hp (mi_range1 (ma_cons (me_callB call_lenA bLen_ok z_len (by decide +kernel) (ma_cons (me_ix rfl (me_var 0) (me_int)) (ma_nil))) (ma_nil)) z_range) (mg_name 7 sc__law_met.nd) (mss_cons (ms_set 8 sc__law_met.nd (me_tup (ma_cons (me_ix rfl (me_ix rfl (me_ix rfl (me_var 0) (me_int)) (me_ix rfl (me_var 5) (me_int))) (me_var 7)) (ma_cons (me_ix rfl (me_ix rfl (me_ix rfl (me_var 1) (me_int)) (me_ix rfl (me_var 5) (me_int))) (me_var 7)) (ma_nil)))))
    (mss_one (ms_if (mt_cmp (op_dNotIn hr.units) (dDIn_ok true) (me_var 8) (me_var 3)) (mss_cons (ms_setD hr.units (me_bl) (me_var 3) (me_var 8))
    (mss_one (ms_expr (me_meth rfl PySem.F.plainAttrs_list PySem.F.slot_list_append PySem.F.type_list_append mt_append fAppend_ok (me_var 2) (ma_cons (me_tup (ma_cons (me_var 8) (ma_cons (me_fz (me_add rfl (me_var 6) (me_ix rfl (me_ix rfl (me_var 0) (me_int)) (me_var 7)))) (ma_nil)))) (ma_nil)))))) (mss_nil)))))
    (mss_one (ms_set 4 sc__law_met.nd (me_add rfl (me_var 4) (me_int)))))))
    (mss_one (ms_fz 2 (ms_ret (me_var 2)))))))
theorem ok__law_met {P : Program} {w : World} {K : PySem.W.Frag} {mg : Str → Option Value} {base : Heap} {cl : Str → Addr} (d : DefAt K mg "_law_met" (topS 32) ["_law_one", "_law_other"]) (z_len : mg "len" = none) (z_range : mg "range" = none) : FnG P w K mg base ⟨K, cl⟩ "_law_met" 1 2 m__law_met := d.fn fun f fd F => okf__law_met F z_len z_range
/-! _law_is_pair -/
noncomputable def b__law_is_pair_1 : MS := msIf (mOr (mNot (mTr (mIs "int" (mVar 3)))) (mOr (mTr (mIs "bool" (mVar 3))) (mNot (mTb (mChain dLe dLt (mC (.int 0)) (mVar 3) (mB bLen (mCons (mOp dIx (mVar 4) (mC (.int 1))) (mNil)))))))) (msRet (mC (.bl false))) (msNil)
noncomputable def m__law_is_pair : MF := fnM 5 (msCons (msIf (mOr (mNot (mTr (mIs "tuple" (mVar 2)))) (mTb (mOp (dEq true) (mB bLen (mCons (mVar 2) (mNil))) (mC (.int 2))))) (msRet (mC (.bl false))) (msNil))
    (msCons (msFor (iZip (mCons (mVar 2) (mCons (mTup (mCons (mVar 0) (mCons (mVar 1) (mNil)))) (mNil)))) (gSets [3, 4]) b__law_is_pair_1)
    (msRet (mOp (dEq false) (mOp dIx (mOp dIx (mVar 0) (mC (.int 2))) (mOp dIx (mVar 2) (mC (.int 0)))) (mOp dIx (mOp dIx (mVar 1) (mC (.int 2))) (mOp dIx (mVar 2) (mC (.int 1))))))))
theorem sc__law_is_pair : FnScope ["_law_one", "_law_other", "_law_pair", "_law_room", "_law_table_here"] ["_law_one", "_law_other", "_law_pair"] (defScope (topS 37)) := ⟨rfl, rfl, rfl, by decide +kernel, rfl, by decide +kernel, by decide +kernel⟩
theorem okf__law_is_pair {P : Program} {w : World} {K : PySem.W.Frag} {mg : Str → Option Value} {base : Heap} {cl : Str → Addr} {f : Addr} {fd : FuncData} (F : Fun K "_law_is_pair" "_law_is_pair" (topS 37) f fd) (z_isinstance : mg "isinstance" = none) (z_tuple : mg "tuple" = none) (z_len : mg "len" = none) (z_zip : mg "zip" = none) (z_int : mg "int" = none) (z_bool : mg "bool" = none) : FnOk P w K mg base (L2.CX P w) 1 f fd ["_law_one", "_law_other", "_law_pair"] (FSp ⟨K, cl⟩ 3 m__law_is_pair) :=
  fnPM F sc__law_is_pair rfl fun cdv A outer s H E hr tk hp => mss_cons (ms_if (mt_w (mw_or (mt_not (mt_val rfl (me_is rfl (me_var 2) z_isinstance z_tuple))) (mw_or1 (mt_cmp (op_neP hr.units) (dNe_ok rfl) (me_callB call_lenA bLen_ok z_len (by decide +kernel) (ma_cons (me_var 2) (ma_nil))) (me_int))))) (mss_one (ms_ret (me_bl))) (mss_nil))
    (mss_cons (ms_for rfl hp (mi_zip rfl (ma_cons (me_var 2) (ma_cons (me_tup (ma_cons (me_var 0) (ma_cons (me_var 1) (ma_nil)))) (ma_nil))) z_zip) (mg_tup rfl rfl (.cons (pg_name (i := 3) sc__law_is_pair.nd rfl (by first | exact Or.inl rfl | exact Or.inr rfl)) (.cons (pg_name (i := 4) sc__law_is_pair.nd rfl (by first | exact Or.inl rfl | exact Or.inr rfl)) (.nil) rfl) rfl)) (mss_one (ms_if (mt_w (mw_or (mt_not (mt_val rfl (me_is rfl (me_var 3) z_isinstance z_int))) (mw_or (mt_val rfl (me_is rfl (me_var 3) z_isinstance z_bool)) (mw_or1 (mt_not (mt_chain op_le opS_C op_lt opS_C (me_int) (me_var 3) (me_callB call_lenA bLen_ok z_len (by decide +kernel) (ma_cons (me_ix rfl (me_var 4) (me_int)) (ma_nil))))))))) (mss_one (ms_ret (me_bl))) (mss_nil))))
    (mss_one (ms_ret (me_cmp (op_eqP hr.units) (dEq_ok rfl) (me_ix rfl (me_ix rfl (me_var 0) (me_int)) (me_ix rfl (me_var 2) (me_int))) (me_ix rfl (me_ix rfl (me_var 1) (me_int)) (me_ix rfl (me_var 2) (me_int)))))))
theorem ok__law_is_pair {P : Program} {w : World} {K : PySem.W.Frag} {mg : Str → Option Value} {base : Heap} {cl : Str → Addr} (d : DefAt K mg "_law_is_pair" (topS 37) ["_law_one", "_law_other", "_law_pair"]) (z_isinstance : mg "isinstance" = none) (z_tuple : mg "tuple" = none) (z_len : mg "len" = none) (z_zip : mg "zip" = none) (z_int : mg "int" = none) (z_bool : mg "bool" = none) : FnG P w K mg base ⟨K, cl⟩ "_law_is_pair" 1 3 m__law_is_pair := d.fn fun f fd F => okf__law_is_pair F z_isinstance z_tuple z_len z_zip z_int z_bool
/-! _law_every -/
noncomputable def e__law_every_1 : ME := mTup (mCons (mVar 3) (mCons (mVar 4) (mNil)))
noncomputable def b__law_every_2 : MS := msSet 2 (mFz (mOp dAdd (mVar 2) (mFz (mLc (iRange1 (mCons (mB bLen (mCons (mOp dIx (mVar 1) (mC (.int 1))) (mNil))) (mNil))) (gSet 4) mYes e__law_every_1 [4]))))
noncomputable def m__law_every : MF := fnM 5 (msCons (msSet 2 (mFz (mLst (mNil))))
    (msCons (msFor (iRange1 (mCons (mB bLen (mCons (mOp dIx (mVar 0) (mC (.int 1))) (mNil))) (mNil))) (gSet 3) b__law_every_2)
    (msRet (mVar 2))))
theorem sc__law_every : FnScope ["_law_one", "_law_other", "_law_found", "_law_room", "_law_there"] ["_law_one", "_law_other"] (defScope (topS 40)) := ⟨rfl, rfl, rfl, by decide +kernel, rfl, by decide +kernel, by decide +kernel⟩
theorem okf__law_every {P : Program} {w : World} {K : PySem.W.Frag} {mg : Str → Option Value} {base : Heap} {cl : Str → Addr} {f : Addr} {fd : FuncData} (F : Fun K "_law_every" "_law_every" (topS 40) f fd) (z_len : mg "len" = none) (z_range : mg "range" = none) : FnOk P w K mg base (L2.CX P w) 1 f fd ["_law_one", "_law_other"] (FSp ⟨K, cl⟩ 2 m__law_every) :=
  fnPM F sc__law_every rfl fun cdv A outer s H E hr tk hp => mss_cons (ms_set 2 sc__law_every.nd (me_fz (me_lst (ma_nil))))
    (mss_cons (ms_for rfl hp (mi_range1 (ma_cons (me_callB call_lenA bLen_ok z_len (by decide +kernel) (ma_cons (me_ix rfl (me_var 0) (me_int)) (ma_nil))) (ma_nil)) z_range) (mg_name 3 sc__law_every.nd) (mss_one (ms_set 2 sc__law_every.nd (me_fz (me_add rfl (me_var 2) (me_fz (me_lc (own := [("_law_there", 4)]) rfl sc__law_every.nd (mi_range1 (ma_cons (me_callB call_lenA bLen_ok z_len (by decide +kernel) (ma_cons (me_ix rfl (me_var 1) (me_int)) (ma_nil))) (ma_nil)) z_range) (blkOk_by (N := ["_law_one", "_law_other", "_law_found", "_law_room", "_law_there"]) (sc := defScope (topS 40)) (by decide +kernel)) (fun _ _ _ _ _ => mg_name 4 sc__law_every.nd) (fun _ _ _ _ _ => mts_nil) (fun _ _ _ _ _ => me_tup (ma_cons (me_var 3) (ma_cons (me_var 4) (ma_nil)))))))))))
    (mss_one (ms_ret (me_var 2))))
theorem ok__law_every {P : Program} {w : World} {K : PySem.W.Frag} {mg : Str → Option Value} {base : Heap} {cl : Str → Addr} (d : DefAt K mg "_law_every" (topS 40) ["_law_one", "_law_other"]) (z_len : mg "len" = none) (z_range : mg "range" = none) : FnG P w K mg base ⟨K, cl⟩ "_law_every" 1 2 m__law_every := d.fn fun f fd F => okf__law_every F z_len z_range
/-! is_numbers -/
noncomputable def b_is_numbers_1 : MS := msIf (mNot (mTr (mCall 1 (m_is_number) (mCons (mVar 1) (mNil))))) (msRet (mC (.bl false))) (msNil)
noncomputable def m_is_numbers : MF := fnM 2 (msCons (msIf (mNot (mTr (mIs "tuple" (mVar 0)))) (msRet (mC (.bl false))) (msNil))
    (msCons (msFor (iSeq (mVar 0)) (gSet 1) b_is_numbers_1)
    (msRet (mC (.bl true)))))
theorem sc_is_numbers : FnScope ["thing", "one"] ["thing"] (defScope (topS 13)) := ⟨rfl, rfl, rfl, by decide +kernel, rfl, by decide +kernel, by decide +kernel⟩
theorem okf_is_numbers {P : Program} {w : World} {K : PySem.W.Frag} {mg : Str → Option Value} {base : Heap} {cl : Str → Addr} {f : Addr} {fd : FuncData} (F : Fun K "is_numbers" "is_numbers" (topS 13) f fd) (z_isinstance : mg "isinstance" = none) (z_tuple : mg "tuple" = none) (F_is_number : FnG P w K mg base ⟨K, cl⟩ "is_number" 1 1 m_is_number) : FnOk P w K mg base (L2.CX P w) 2 f fd ["thing"] (FSp ⟨K, cl⟩ 1 m_is_numbers) :=
  fnPM F sc_is_numbers rfl fun cdv A outer s H E hr tk hp => mss_cons (ms_if (mt_not (mt_val rfl (me_is rfl (me_var 0) z_isinstance z_tuple))) (mss_one (ms_ret (me_bl))) (mss_nil))
    (mss_cons (ms_for rfl hp (mi_seq rfl (me_var 0)) (mg_name 1 sc_is_numbers.nd) (mss_one (ms_if (mt_not (mt_val rfl (me_callG F_is_number hr (by decide) tk (ma_cons (me_var 1) (ma_nil))))) (mss_one (ms_ret (me_bl))) (mss_nil))))
    (mss_one (ms_ret (me_bl))))
theorem ok_is_numbers {P : Program} {w : World} {K : PySem.W.Frag} {mg : Str → Option Value} {base : Heap} {cl : Str → Addr} (d : DefAt K mg "is_numbers" (topS 13) ["thing"]) (z_isinstance : mg "isinstance" = none) (z_tuple : mg "tuple" = none) (F_is_number : FnG P w K mg base ⟨K, cl⟩ "is_number" 1 1 m_is_number) : FnG P w K mg base ⟨K, cl⟩ "is_numbers" 2 1 m_is_numbers := d.fn fun f fd F => okf_is_numbers F z_isinstance z_tuple F_is_number
/-! first_parted -/
noncomputable def b_first_parted_1 : MS := msIf (mTb (mOp (dEq true) (mOp dIx (mVar 2) (mOp dIx (mVar 4) (mC (.int 0)))) (mOp dIx (mVar 3) (mOp dIx (mVar 4) (mC (.int 1)))))) (msRet (mVar 5)) (msNil)
noncomputable def m_first_parted : MF := fnM 6 (msCons (msFor (iItemsT (mCall 2 (m_together) (mCons (mVar 0) (mCons (mVar 1) (mNil))))) (gSets [4, 5]) b_first_parted_1)
    (msRet (mC .non)))
theorem sc_first_parted : FnScope ["one", "other", "marks", "others", "pair", "word"] ["one", "other", "marks", "others"] (defScope (topS 17)) := ⟨rfl, rfl, rfl, by decide +kernel, rfl, by decide +kernel, by decide +kernel⟩
theorem okf_first_parted {P : Program} {w : World} {K : PySem.W.Frag} {mg : Str → Option Value} {base : Heap} {cl : Str → Addr} {f : Addr} {fd : FuncData} (F : Fun K "first_parted" "first_parted" (topS 17) f fd) (F_together : FnG P w K mg base ⟨K, cl⟩ "together" 1 2 m_together) : FnOk P w K mg base (L2.CX P w) 2 f fd ["one", "other", "marks", "others"] (FSp ⟨K, cl⟩ 4 m_first_parted) :=
  fnPM F sc_first_parted rfl fun cdv A outer s H E hr tk hp => mss_cons (ms_for rfl hp (mi_itemsT (me_callG F_together hr (by decide) tk (ma_cons (me_var 0) (ma_cons (me_var 1) (ma_nil))))) (mg_tup rfl rfl (.cons (pg_name (i := 4) sc_first_parted.nd rfl (by first | exact Or.inl rfl | exact Or.inr rfl)) (.cons (pg_name (i := 5) sc_first_parted.nd rfl (by first | exact Or.inl rfl | exact Or.inr rfl)) (.nil) rfl) rfl)) (mss_one (ms_if (mt_cmp (op_neP hr.units) (dNe_ok rfl) (me_ix rfl (me_var 2) (me_ix rfl (me_var 4) (me_int))) (me_ix rfl (me_var 3) (me_ix rfl (me_var 4) (me_int)))) (mss_one (ms_ret (me_var 5))) (mss_nil))))
    (mss_one (ms_ret (me_non)))
theorem ok_first_parted {P : Program} {w : World} {K : PySem.W.Frag} {mg : Str → Option Value} {base : Heap} {cl : Str → Addr} (d : DefAt K mg "first_parted" (topS 17) ["one", "other", "marks", "others"]) (F_together : FnG P w K mg base ⟨K, cl⟩ "together" 1 2 m_together) : FnG P w K mg base ⟨K, cl⟩ "first_parted" 2 4 m_first_parted := d.fn fun f fd F => okf_first_parted F F_together
/-! _law_some -/
noncomputable def b__law_some_1 : MS := msCons (msSet 5 (mCall 2 (m__law_take) (mCons (mVar 0) (mCons (mB bLen (mCons (mVar 1) (mNil))) (mNil)))))
    (msCons (msSet 3 (mFz (mOp dAdd (mVar 3) (mOp dIx (mVar 1) (mVar 5)))))
    (msSet 1 (mFz (mOp dAdd (mFz (mSlice (mVar 1) (moNone) (moSome (mVar 5)))) (mFz (mSlice (mVar 1) (moSome (mOp dAdd (mVar 5) (mC (.int 1)))) (moNone)))))))
noncomputable def m__law_some : MF := fnM 6 (msCons (msSet 3 (mC (.str [])))
    (msCons (msFor (iRange1 (mCons (mOp dAdd (mC (.int 1)) (mCall 2 (m__law_take) (mCons (mVar 0) (mCons (mVar 2) (mNil))))) (mNil))) (gSet 4) b__law_some_1)
    (msRet (mVar 3))))
theorem sc__law_some : FnScope ["_law_pen_here", "_law_rest", "_law_most", "_law_found", "_law_k", "_law_at"] ["_law_pen_here", "_law_rest", "_law_most"] (defScope (topS 26)) := ⟨rfl, rfl, rfl, by decide +kernel, rfl, by decide +kernel, by decide +kernel⟩
theorem okf__law_some {P : Program} {w : World} {K : PySem.W.Frag} {mg : Str → Option Value} {base : Heap} {cl : Str → Addr} {f : Addr} {fd : FuncData} (F : Fun K "_law_some" "_law_some" (topS 26) f fd) (z_range : mg "range" = none) (z_len : mg "len" = none) (F__law_take : FnG P w K mg base ⟨K, cl⟩ "_law_take" 1 2 m__law_take) : FnOk P w K mg base (L2.CX P w) 2 f fd ["_law_pen_here", "_law_rest", "_law_most"] (FSp ⟨K, cl⟩ 3 m__law_some) :=
  fnPM F sc__law_some rfl fun cdv A outer s H E hr tk hp => mss_cons (ms_set 3 sc__law_some.nd (me_str []))
    (mss_cons (ms_for rfl hp (mi_range1 (ma_cons (me_add rfl (me_int) (me_callG F__law_take hr (by decide) tk (ma_cons (me_var 0) (ma_cons (me_var 2) (ma_nil))))) (ma_nil)) z_range) (mg_name 4 sc__law_some.nd) (mss_cons (ms_set 5 sc__law_some.nd (me_callG F__law_take hr (by decide) tk (ma_cons (me_var 0) (ma_cons (me_callB call_lenA bLen_ok z_len (by decide +kernel) (ma_cons (me_var 1) (ma_nil))) (ma_nil)))))
    (mss_cons (ms_set 3 sc__law_some.nd (me_fz (me_add rfl (me_var 3) (me_ix rfl (me_var 1) (me_var 5)))))
    (mss_one (ms_set 1 sc__law_some.nd (me_fz (me_add rfl (me_fz (me_slice rfl (me_var 1) (moN) (moS (me_var 5)))) (me_fz (me_slice rfl (me_var 1) (moS (me_add rfl (me_var 5) (me_int))) (moN))))))))))
    (mss_one (ms_ret (me_var 3))))
theorem ok__law_some {P : Program} {w : World} {K : PySem.W.Frag} {mg : Str → Option Value} {base : Heap} {cl : Str → Addr} (d : DefAt K mg "_law_some" (topS 26) ["_law_pen_here", "_law_rest", "_law_most"]) (z_range : mg "range" = none) (z_len : mg "len" = none) (F__law_take : FnG P w K mg base ⟨K, cl⟩ "_law_take" 1 2 m__law_take) : FnG P w K mg base ⟨K, cl⟩ "_law_some" 2 3 m__law_some := d.fn fun f fd F => okf__law_some F z_range z_len F__law_take
/-! _law_table -/
noncomputable def e__law_table_1 : ME := mCall 2 (m__law_take) (mCons (mVar 0) (mCons (mVar 3) (mNil)))
noncomputable def b__law_table_2 : MS := msCons (msSet 9 (mLc (iSeq (mVar 1)) (gSet 11) mYes e__law_table_1 [11]))
    (msCons (msIf (mTb (mOp (dEq false) (mVar 4) (mC (.int 0)))) (msSetI (mVar 9) (mCall 2 (m__law_take) (mCons (mVar 0) (mCons (mB bLen (mCons (mVar 9) (mNil))) (mNil)))) (mB bMin2 (mCons (mOp dAdd (mVar 8) (mC (.int 1))) (mCons (mOp dSub (mVar 3) (mC (.int 1))) (mNil))))) (msNil))
    (msCons (msSet 10 (mCall 2 (m__law_take) (mCons (mVar 0) (mCons (mC (.int 6)) (mNil)))))
    (msCons (msIf (mOr (mTb (mOp (dEq false) (mVar 8) (mC (.int 0)))) (mTb (mOp dGt (mCall 2 (m__law_take) (mCons (mVar 0) (mCons (mVar 5) (mNil)))) (mC (.int 0))))) (msSet 10 (mNeg (mC (.int 1)))) (msNil))
    (msCons (msFz 9 (msExpr (mMeth "list" fAppend (mVar 6) (mCons (mVar 9) (mNil)))))
    (msExpr (mMeth "list" fAppend (mVar 7) (mCons (mVar 10) (mNil))))))))
noncomputable def m__law_table : MF := fnM 12 (msCons (msSet 3 (mOp dAdd (mC (.int 1)) (mCall 2 (m__law_take) (mCons (mVar 0) (mCons (mVar 2) (mNil))))))
    (msCons (msSet 4 (mCall 2 (m__law_take) (mCons (mVar 0) (mCons (mC (.int 3)) (mNil)))))
    (msCons (msSet 5 (mOp dAdd (mC (.int 2)) (mCall 2 (m__law_take) (mCons (mVar 0) (mCons (mC (.int 2)) (mNil))))))
    (msCons (msSet 6 (mLst (mNil)))
    (msCons (msSet 7 (mLst (mNil)))
    (msCons (msFor (iRange1 (mCons (mVar 3) (mNil))) (gSet 8) b__law_table_2)
    (msRet (mCall 4 (m__law_cut_down) (mCons (mVar 1) (mCons (mVar 6) (mCons (mVar 7) (mCons (mCall 2 (m__law_take) (mCons (mVar 0) (mCons (mC (.int 32)) (mNil)))) (mNil)))))))))))))
theorem sc__law_table : FnScope ["_law_pen_here", "_law_tongue", "_law_most", "_law_many", "_law_road", "_law_often", "_law_goes", "_law_kinds", "_law_room", "_law_row", "_law_kind", "_law_sign"] ["_law_pen_here", "_law_tongue", "_law_most"] (defScope (topS 28)) := ⟨rfl, rfl, rfl, by decide +kernel, rfl, by decide +kernel, by decide +kernel⟩
theorem okf__law_table {P : Program} {w : World} {K : PySem.W.Frag} {mg : Str → Option Value} {base : Heap} {cl : Str → Addr} {f : Addr} {fd : FuncData} (F : Fun K "_law_table" "_law_table" (topS 28) f fd) (z_range : mg "range" = none) (z_len : mg "len" = none) (z_min : mg "min" = none) (F__law_take : FnG P w K mg base ⟨K, cl⟩ "_law_take" 1 2 m__law_take) (F__law_cut_down : FnG P w K mg base ⟨K, cl⟩ "_law_cut_down" 1 4 m__law_cut_down) : FnOk P w K mg base (L2.CX P w) 2 f fd ["_law_pen_here", "_law_tongue", "_law_most"] (FSp ⟨K, cl⟩ 3 m__law_table) :=
  fnPM F sc__law_table rfl fun cdv A outer s H E hr tk hp => mss_cons (ms_set 3 sc__law_table.nd (me_add rfl (me_int) (me_callG F__law_take hr (by decide) tk (ma_cons (me_var 0) (ma_cons (me_var 2) (ma_nil))))))
    (mss_cons (ms_set 4 sc__law_table.nd (me_callG F__law_take hr (by decide) tk (ma_cons (me_var 0) (ma_cons (me_int) (ma_nil)))))
    (mss_cons (ms_set 5 sc__law_table.nd (me_add rfl (me_int) (me_callG F__law_take hr (by decide) tk (ma_cons (me_var 0) (ma_cons (me_int) (ma_nil))))))
    (mss_cons (ms_set 6 sc__law_table.nd (me_lst (ma_nil)))
    (mss_cons (ms_set 7 sc__law_table.nd (me_lst (ma_nil)))
    (mss_cons (ms_for rfl hp (mi_range1 (ma_cons (me_var 3) (ma_nil)) z_range) (mg_name 8 sc__law_table.nd) (mss_cons (ms_setLc 9 (own := [("_law_sign", 11)]) rfl sc__law_table.nd (mi_seq rfl (me_var 1)) (blkOk_by (N := ["_law_pen_here", "_law_tongue", "_law_most", "_law_many", "_law_road", "_law_often", "_law_goes", "_law_kinds", "_law_room", "_law_row", "_law_kind", "_law_sign"]) (sc := defScope (topS 28)) (by decide +kernel)) (fun _ _ _ _ _ => mg_name 11 sc__law_table.nd) (fun _ _ _ _ _ => mts_nil) (fun _ _ _ _ _ => me_callG F__law_take hr (by decide) takes0 (ma_cons (me_var 0) (ma_cons (me_var 3) (ma_nil)))) (sw_true rfl rfl rfl (by decide +kernel)))
    (mss_cons (ms_if (mt_cmp (op_eqP hr.units) (dEq_ok rfl) (me_var 4) (me_int)) (mss_one (ms_setI (me_callB (call_min2 rfl) bMin2_ok z_min (by decide +kernel) (ma_cons (me_add rfl (me_var 8) (me_int)) (ma_cons (me_sub (me_var 3) (me_int)) (ma_nil)))) (me_var 9) (me_callG F__law_take hr (by decide) tk (ma_cons (me_var 0) (ma_cons (me_callB call_lenA bLen_ok z_len (by decide +kernel) (ma_cons (me_var 9) (ma_nil))) (ma_nil)))))) (mss_nil))
    (mss_cons (ms_set 10 sc__law_table.nd (me_callG F__law_take hr (by decide) tk (ma_cons (me_var 0) (ma_cons (me_int) (ma_nil)))))
    (mss_cons (ms_if (mt_w (mw_or (mt_cmp (op_eqP hr.units) (dEq_ok rfl) (me_var 8) (me_int)) (mw_or1 (mt_cmp op_gt opS_C (me_callG F__law_take hr (by decide) tk (ma_cons (me_var 0) (ma_cons (me_var 5) (ma_nil)))) (me_int))))) (mss_one (ms_set 10 sc__law_table.nd (me_neg (me_int)))) (mss_nil))
    (mss_cons (ms_fz 9 (ms_expr (me_meth rfl PySem.F.plainAttrs_list PySem.F.slot_list_append PySem.F.type_list_append mt_append fAppend_ok (me_var 6) (ma_cons (me_var 9) (ma_nil)))))
    (mss_one (ms_expr (me_meth rfl PySem.F.plainAttrs_list PySem.F.slot_list_append PySem.F.type_list_append mt_append fAppend_ok (me_var 7) (ma_cons (me_var 10) (ma_nil)))))))))))
    (mss_one (ms_ret (me_callG F__law_cut_down hr (by decide) tk (ma_cons (me_var 1) (ma_cons (me_var 6) (ma_cons (me_var 7) (ma_cons (me_callG F__law_take hr (by decide) tk (ma_cons (me_var 0) (ma_cons (me_int) (ma_nil)))) (ma_nil)))))))))))))
theorem ok__law_table {P : Program} {w : World} {K : PySem.W.Frag} {mg : Str → Option Value} {base : Heap} {cl : Str → Addr} (d : DefAt K mg "_law_table" (topS 28) ["_law_pen_here", "_law_tongue", "_law_most"]) (z_range : mg "range" = none) (z_len : mg "len" = none) (z_min : mg "min" = none) (F__law_take : FnG P w K mg base ⟨K, cl⟩ "_law_take" 1 2 m__law_take) (F__law_cut_down : FnG P w K mg base ⟨K, cl⟩ "_law_cut_down" 1 4 m__law_cut_down) : FnG P w K mg base ⟨K, cl⟩ "_law_table" 2 3 m__law_table := d.fn fun f fd F => okf__law_table F z_range z_len z_min F__law_take F__law_cut_down
/-! _law_doubled -/
noncomputable def e__law_doubled_1 : ME := mOp dAdd (mVar 5) (mOp dMul (mVar 2) (mCall 2 (m__law_take) (mCons (mVar 0) (mCons (mC (.int 2)) (mNil)))))
noncomputable def b__law_doubled_2 : MS := msExpr (mMeth "list" fAppend (mVar 3) (mCons (mFz (mLc (iSeq (mOp dIx (mOp dIx (mVar 1) (mC (.int 1))) (mOp dMod (mVar 4) (mVar 2)))) (gSet 5) mYes e__law_doubled_1 [5])) (mNil)))
noncomputable def m__law_doubled : MF := fnM 6 (msCons (msSet 2 (mB bLen (mCons (mOp dIx (mVar 1) (mC (.int 1))) (mNil))))
    (msCons (msSet 3 (mLst (mNil)))
    (msCons (msFor (iRange1 (mCons (mOp dMul (mC (.int 2)) (mVar 2)) (mNil))) (gSet 4) b__law_doubled_2)
    (msRet (mCall 4 (m__law_cut_down) (mCons (mOp dIx (mVar 1) (mC (.int 0))) (mCons (mVar 3) (mCons (mOp dMul (mB bListX (mCons (mOp dIx (mVar 1) (mC (.int 2))) (mNil))) (mC (.int 2))) (mCons (mCall 2 (m__law_take) (mCons (mVar 0) (mCons (mC (.int 32)) (mNil)))) (mNil))))))))))
theorem sc__law_doubled : FnScope ["_law_pen_here", "_law_table_here", "_law_many", "_law_goes", "_law_at", "_law_there"] ["_law_pen_here", "_law_table_here"] (defScope (topS 29)) := ⟨rfl, rfl, rfl, by decide +kernel, rfl, by decide +kernel, by decide +kernel⟩
theorem okf__law_doubled {P : Program} {w : World} {K : PySem.W.Frag} {mg : Str → Option Value} {base : Heap} {cl : Str → Addr} {f : Addr} {fd : FuncData} (F : Fun K "_law_doubled" "_law_doubled" (topS 29) f fd) (z_len : mg "len" = none) (z_range : mg "range" = none) (z_list : mg "list" = none) (F__law_take : FnG P w K mg base ⟨K, cl⟩ "_law_take" 1 2 m__law_take) (F__law_cut_down : FnG P w K mg base ⟨K, cl⟩ "_law_cut_down" 1 4 m__law_cut_down) : FnOk P w K mg base (L2.CX P w) 2 f fd ["_law_pen_here", "_law_table_here"] (FSp ⟨K, cl⟩ 2 m__law_doubled) :=
  fnPM F sc__law_doubled rfl fun cdv A outer s H E hr tk hp => mss_cons (ms_set 2 sc__law_doubled.nd (me_callB call_lenA bLen_ok z_len (by decide +kernel) (ma_cons (me_ix rfl (me_var 1) (me_int)) (ma_nil))))
    (mss_cons (ms_set 3 sc__law_doubled.nd (me_lst (ma_nil)))
    (mss_cons (ms_for rfl hp (mi_range1 (ma_cons (me_mul rfl (me_int) (me_var 2)) (ma_nil)) z_range) (mg_name 4 sc__law_doubled.nd) (mss_one (ms_expr (me_meth rfl PySem.F.plainAttrs_list PySem.F.slot_list_append PySem.F.type_list_append mt_append fAppend_ok (me_var 3) (ma_cons (me_fz (me_lc (own := [("_law_there", 5)]) rfl sc__law_doubled.nd (mi_seq rfl (me_ix rfl (me_ix rfl (me_var 1) (me_int)) (me_mod (me_var 4) (me_var 2)))) (blkOk_by (N := ["_law_pen_here", "_law_table_here", "_law_many", "_law_goes", "_law_at", "_law_there"]) (sc := defScope (topS 29)) (by decide +kernel)) (fun _ _ _ _ _ => mg_name 5 sc__law_doubled.nd) (fun _ _ _ _ _ => mts_nil) (fun _ _ _ _ _ => me_add rfl (me_var 5) (me_mul rfl (me_var 2) (me_callG F__law_take hr (by decide) takes0 (ma_cons (me_var 0) (ma_cons (me_int) (ma_nil)))))))) (ma_nil))))))
    (mss_one (ms_ret (me_callG F__law_cut_down hr (by decide) tk (ma_cons (me_ix rfl (me_var 1) (me_int)) (ma_cons (me_var 3) (ma_cons (me_mul rfl (me_callT (call_listX rfl) bListX_ok z_list (by decide +kernel) (ma_cons (me_ix rfl (me_var 1) (me_int)) (ma_nil))) (me_int)) (ma_cons (me_callG F__law_take hr (by decide) tk (ma_cons (me_var 0) (ma_cons (me_int) (ma_nil)))) (ma_nil))))))))))
theorem ok__law_doubled {P : Program} {w : World} {K : PySem.W.Frag} {mg : Str → Option Value} {base : Heap} {cl : Str → Addr} (d : DefAt K mg "_law_doubled" (topS 29) ["_law_pen_here", "_law_table_here"]) (z_len : mg "len" = none) (z_range : mg "range" = none) (z_list : mg "list" = none) (F__law_take : FnG P w K mg base ⟨K, cl⟩ "_law_take" 1 2 m__law_take) (F__law_cut_down : FnG P w K mg base ⟨K, cl⟩ "_law_cut_down" 1 4 m__law_cut_down) : FnG P w K mg base ⟨K, cl⟩ "_law_doubled" 2 2 m__law_doubled := d.fn fun f fd F => okf__law_doubled F z_len z_range z_list F__law_take F__law_cut_down
/-! _law_bent -/
noncomputable def e__law_bent_1 : ME := mB bListX (mCons (mVar 5) (mNil))
noncomputable def m__law_bent : MF := fnM 6 (msCons (msSet 2 (mLc (iSeq (mOp dIx (mVar 1) (mC (.int 1)))) (gSet 5) mYes e__law_bent_1 [5]))
    (msCons (msSet 3 (mB bListX (mCons (mOp dIx (mVar 1) (mC (.int 2))) (mNil))))
    (msCons (msSet 4 (mCall 2 (m__law_take) (mCons (mVar 0) (mCons (mB bLen (mCons (mVar 2) (mNil))) (mNil)))))
    (msCons (msIf (mAnd (mTb (mOp dGt (mVar 4) (mC (.int 0)))) (mTb (mOp dGt (mCall 2 (m__law_take) (mCons (mVar 0) (mCons (mC (.int 3)) (mNil)))) (mC (.int 0))))) (msSetI (mVar 3) (mVar 4) (mOp dSub (mCall 2 (m__law_take) (mCons (mVar 0) (mCons (mC (.int 7)) (mNil)))) (mC (.int 1)))) (msSetI (mOp dIx (mVar 2) (mVar 4)) (mCall 2 (m__law_take) (mCons (mVar 0) (mCons (mB bLen (mCons (mOp dIx (mVar 1) (mC (.int 0))) (mNil))) (mNil)))) (mCall 2 (m__law_take) (mCons (mVar 0) (mCons (mB bLen (mCons (mVar 2) (mNil))) (mNil))))))
    (msRet (mCall 4 (m__law_cut_down) (mCons (mOp dIx (mVar 1) (mC (.int 0))) (mCons (mVar 2) (mCons (mVar 3) (mCons (mCall 2 (m__law_take) (mCons (mVar 0) (mCons (mC (.int 32)) (mNil)))) (mNil)))))))))))
theorem sc__law_bent : FnScope ["_law_pen_here", "_law_table_here", "_law_goes", "_law_kinds", "_law_at", "_law_row"] ["_law_pen_here", "_law_table_here"] (defScope (topS 30)) := ⟨rfl, rfl, rfl, by decide +kernel, rfl, by decide +kernel, by decide +kernel⟩
theorem okf__law_bent {P : Program} {w : World} {K : PySem.W.Frag} {mg : Str → Option Value} {base : Heap} {cl : Str → Addr} {f : Addr} {fd : FuncData} (F : Fun K "_law_bent" "_law_bent" (topS 30) f fd) (z_list : mg "list" = none) (z_len : mg "len" = none) (F__law_take : FnG P w K mg base ⟨K, cl⟩ "_law_take" 1 2 m__law_take) (F__law_cut_down : FnG P w K mg base ⟨K, cl⟩ "_law_cut_down" 1 4 m__law_cut_down) : FnOk P w K mg base (L2.CX P w) 2 f fd ["_law_pen_here", "_law_table_here"] (FSp ⟨K, cl⟩ 2 m__law_bent) :=
  fnPM F sc__law_bent rfl fun cdv A outer s H E hr tk hp => mss_cons (ms_setLc 2 (own := [("_law_row", 5)]) rfl sc__law_bent.nd (mi_seq rfl (me_ix rfl (me_var 1) (me_int))) (blkOk_by (N := ["_law_pen_here", "_law_table_here", "_law_goes", "_law_kinds", "_law_at", "_law_row"]) (sc := defScope (topS 30)) (by decide +kernel)) (fun _ _ _ _ _ => mg_name 5 sc__law_bent.nd) (fun _ _ _ _ _ => mts_nil) (fun _ _ _ _ _ => me_callT (call_listX rfl) bListX_ok z_list (by decide +kernel) (ma_cons (me_var 5) (ma_nil))) (sw_true rfl rfl rfl (by decide +kernel)))
    (mss_cons (ms_set 3 sc__law_bent.nd (me_callT (call_listX rfl) bListX_ok z_list (by decide +kernel) (ma_cons (me_ix rfl (me_var 1) (me_int)) (ma_nil))))
    (mss_cons (ms_set 4 sc__law_bent.nd (me_callG F__law_take hr (by decide) tk (ma_cons (me_var 0) (ma_cons (me_callB call_lenA bLen_ok z_len (by decide +kernel) (ma_cons (me_var 2) (ma_nil))) (ma_nil)))))
    (mss_cons (ms_if (mt_w (mw_and (mt_cmp op_gt opS_C (me_var 4) (me_int)) (mw_and1 (mt_cmp op_gt opS_C (me_callG F__law_take hr (by decide) tk (ma_cons (me_var 0) (ma_cons (me_int) (ma_nil)))) (me_int))))) (mss_one (ms_setI (me_sub (me_callG F__law_take hr (by decide) tk (ma_cons (me_var 0) (ma_cons (me_int) (ma_nil)))) (me_int)) (me_var 3) (me_var 4))) (mss_one (ms_setI (me_callG F__law_take hr (by decide) tk (ma_cons (me_var 0) (ma_cons (me_callB call_lenA bLen_ok z_len (by decide +kernel) (ma_cons (me_var 2) (ma_nil))) (ma_nil)))) (me_ix rfl (me_var 2) (me_var 4)) (me_callG F__law_take hr (by decide) tk (ma_cons (me_var 0) (ma_cons (me_callB call_lenA bLen_ok z_len (by decide +kernel) (ma_cons (me_ix rfl (me_var 1) (me_int)) (ma_nil))) (ma_nil)))))))
    (mss_one (ms_ret (me_callG F__law_cut_down hr (by decide) tk (ma_cons (me_ix rfl (me_var 1) (me_int)) (ma_cons (me_var 2) (ma_cons (me_var 3) (ma_cons (me_callG F__law_take hr (by decide) tk (ma_cons (me_var 0) (ma_cons (me_int) (ma_nil)))) (ma_nil)))))))))))
theorem ok__law_bent {P : Program} {w : World} {K : PySem.W.Frag} {mg : Str → Option Value} {base : Heap} {cl : Str → Addr} (d : DefAt K mg "_law_bent" (topS 30) ["_law_pen_here", "_law_table_here"]) (z_list : mg "list" = none) (z_len : mg "len" = none) (F__law_take : FnG P w K mg base ⟨K, cl⟩ "_law_take" 1 2 m__law_take) (F__law_cut_down : FnG P w K mg base ⟨K, cl⟩ "_law_cut_down" 1 4 m__law_cut_down) : FnG P w K mg base ⟨K, cl⟩ "_law_bent" 2 2 m__law_bent := d.fn fun f fd F => okf__law_bent F z_list z_len F__law_take F__law_cut_down
/-! _law_parted -/
noncomputable def b__law_parted_1 : MS := msIf (mTb (mOp (dEq true) (mOp dIx (mOp dIx (mVar 0) (mC (.int 2))) (mOp dIx (mVar 2) (mC (.int 0)))) (mOp dIx (mOp dIx (mVar 1) (mC (.int 2))) (mOp dIx (mVar 2) (mC (.int 1)))))) (msRet (mVar 3)) (msNil)
noncomputable def m__law_parted : MF := fnM 4 (msCons (msFor (iSeq (mCall 2 (m__law_met) (mCons (mVar 0) (mCons (mVar 1) (mNil))))) (gSets [2, 3]) b__law_parted_1)
    (msRet (mC .non)))
theorem sc__law_parted : FnScope ["_law_one", "_law_other", "_law_pair", "_law_word"] ["_law_one", "_law_other"] (defScope (topS 33)) := ⟨rfl, rfl, rfl, by decide +kernel, rfl, by decide +kernel, by decide +kernel⟩
theorem okf__law_parted {P : Program} {w : World} {K : PySem.W.Frag} {mg : Str → Option Value} {base : Heap} {cl : Str → Addr} {f : Addr} {fd : FuncData} (F : Fun K "_law_parted" "_law_parted" (topS 33) f fd) (F__law_met : FnG P w K mg base ⟨K, cl⟩ "_law_met" 1 2 m__law_met) : FnOk P w K mg base (L2.CX P w) 2 f fd ["_law_one", "_law_other"] (FSp ⟨K, cl⟩ 2 m__law_parted) :=
  fnPM F sc__law_parted rfl fun cdv A outer s H E hr tk hp => mss_cons (ms_for rfl hp (mi_seq rfl (me_callG F__law_met hr (by decide) tk (ma_cons (me_var 0) (ma_cons (me_var 1) (ma_nil))))) (mg_tup rfl rfl (.cons (pg_name (i := 2) sc__law_parted.nd rfl (by first | exact Or.inl rfl | exact Or.inr rfl)) (.cons (pg_name (i := 3) sc__law_parted.nd rfl (by first | exact Or.inl rfl | exact Or.inr rfl)) (.nil) rfl) rfl)) (mss_one (ms_if (mt_cmp (op_neP hr.units) (dNe_ok rfl) (me_ix rfl (me_ix rfl (me_var 0) (me_int)) (me_ix rfl (me_var 2) (me_int))) (me_ix rfl (me_ix rfl (me_var 1) (me_int)) (me_ix rfl (me_var 2) (me_int)))) (mss_one (ms_ret (me_var 3))) (mss_nil))))
    (mss_one (ms_ret (me_non)))
theorem ok__law_parted {P : Program} {w : World} {K : PySem.W.Frag} {mg : Str → Option Value} {base : Heap} {cl : Str → Addr} (d : DefAt K mg "_law_parted" (topS 33) ["_law_one", "_law_other"]) (F__law_met : FnG P w K mg base ⟨K, cl⟩ "_law_met" 1 2 m__law_met) : FnG P w K mg base ⟨K, cl⟩ "_law_parted" 2 2 m__law_parted := d.fn fun f fd F => okf__law_parted F F__law_met
/-! _law_other_tongue -/
noncomputable def t__law_other_tongue_1 : MT := mTb (mOp (dIn true) (mVar 6) (mVar 2))
noncomputable def e__law_other_tongue_2 : ME := mVar 6
noncomputable def e__law_other_tongue_3 : ME := mOp dAdd (mVar 9) (mTup (mCons (mVar 8) (mNil)))
noncomputable def m__law_other_tongue : MF := fnM 10 (msCons (msSet 2 (mOp dIx (mVar 1) (mC (.int 0))))
    (msCons (msSet 3 (mFz (mLc (iSeq (mCall 0 (m__law_signs) mNil)) (gSet 6) t__law_other_tongue_1 e__law_other_tongue_2 [6])))
    (msCons (msSet 4 (mCall 2 (m__law_take) (mCons (mVar 0) (mCons (mB bLen (mCons (mVar 2) (mNil))) (mNil)))))
    (msCons (msSet 5 (mCall 2 (m__law_take) (mCons (mVar 0) (mCons (mC (.int 3)) (mNil)))))
    (msCons (msSet 6 (mOp dIx (mVar 3) (mCall 2 (m__law_take) (mCons (mVar 0) (mCons (mB bLen (mCons (mVar 3) (mNil))) (mNil))))))
    (msCons (msIf (mAnd (mTb (mOp (dEq false) (mVar 5) (mC (.int 0)))) (mTb (mOp dGt (mB bLen (mCons (mVar 2) (mNil))) (mC (.int 1))))) (msRet (mTup (mCons (mFz (mOp dAdd (mFz (mSlice (mVar 2) (moSome (mC (.int 1))) (moNone))) (mOp dIx (mVar 2) (mC (.int 0))))) (mCons (mOp dIx (mVar 1) (mC (.int 1))) (mCons (mOp dIx (mVar 1) (mC (.int 2))) (mNil)))))) (msNil))
    (msCons (msIf (mAnd (mTb (mOp (dEq false) (mVar 5) (mC (.int 1)))) (mTb (mOp dLt (mB bLen (mCons (mVar 2) (mNil))) (mC (.int 6))))) (msCons (msSet 7 (mFz (mLc (iEnum (mCons (mOp dIx (mVar 1) (mC (.int 1))) (mNil))) (gSets [8, 9]) mYes e__law_other_tongue_3 [8, 9])))
    (msRet (mTup (mCons (mFz (mOp dAdd (mVar 2) (mVar 6))) (mCons (mB bTupleX (mCons (mVar 7) (mNil))) (mCons (mOp dIx (mVar 1) (mC (.int 2))) (mNil))))))) (msNil))
    (msRet (mTup (mCons (mFz (mOp dAdd (mFz (mOp dAdd (mFz (mSlice (mVar 2) (moNone) (moSome (mVar 4)))) (mVar 6))) (mFz (mSlice (mVar 2) (moSome (mOp dAdd (mVar 4) (mC (.int 1)))) (moNone))))) (mCons (mOp dIx (mVar 1) (mC (.int 1))) (mCons (mOp dIx (mVar 1) (mC (.int 2))) (mNil)))))))))))))
theorem sc__law_other_tongue : FnScope ["_law_pen_here", "_law_table_here", "_law_tongue", "_law_rest", "_law_at", "_law_road", "_law_sign", "_law_rows", "_law_room", "_law_row"] ["_law_pen_here", "_law_table_here"] (defScope (topS 34)) := ⟨rfl, rfl, rfl, by decide +kernel, rfl, by decide +kernel, by decide +kernel⟩
theorem okf__law_other_tongue {P : Program} {w : World} {K : PySem.W.Frag} {mg : Str → Option Value} {base : Heap} {cl : Str → Addr} {f : Addr} {fd : FuncData} (F : Fun K "_law_other_tongue" "_law_other_tongue" (topS 34) f fd) (z_len : mg "len" = none) (z_enumerate : mg "enumerate" = none) (z_tuple : mg "tuple" = none) (F__law_signs : FnG P w K mg base ⟨K, cl⟩ "_law_signs" 1 0 m__law_signs) (F__law_take : FnG P w K mg base ⟨K, cl⟩ "_law_take" 1 2 m__law_take) : FnOk P w K mg base (L2.CX P w) 2 f fd ["_law_pen_here", "_law_table_here"] (FSp ⟨K, cl⟩ 2 m__law_other_tongue) :=
  fnPM F sc__law_other_tongue rfl fun cdv A outer s H E hr tk hp => mss_cons (ms_set 2 sc__law_other_tongue.nd (me_ix rfl (me_var 1) (me_int)))
    (mss_cons (ms_setF (ms_setLc 3 (own := [("_law_sign", 6)]) rfl sc__law_other_tongue.nd (mi_seq rfl (me_callG0 F__law_signs hr (by decide) tk)) (blkOk_by (N := ["_law_pen_here", "_law_table_here", "_law_tongue", "_law_rest", "_law_at", "_law_road", "_law_sign", "_law_rows", "_law_room", "_law_row"]) (sc := defScope (topS 34)) (by decide +kernel)) (fun _ _ _ _ _ => mg_name 6 sc__law_other_tongue.nd) (fun _ _ _ _ _ => mts_one (mt_cmp (op_notInA hr.units) (dIn_ok rfl true) (me_var 6) (me_var 2))) (fun _ _ _ _ _ => me_var 6) (sw_true rfl rfl rfl (by decide +kernel))))
    (mss_cons (ms_set 4 sc__law_other_tongue.nd (me_callG F__law_take hr (by decide) tk (ma_cons (me_var 0) (ma_cons (me_callB call_lenA bLen_ok z_len (by decide +kernel) (ma_cons (me_var 2) (ma_nil))) (ma_nil)))))
    (mss_cons (ms_set 5 sc__law_other_tongue.nd (me_callG F__law_take hr (by decide) tk (ma_cons (me_var 0) (ma_cons (me_int) (ma_nil)))))
    (mss_cons (ms_set 6 sc__law_other_tongue.nd (me_ix rfl (me_var 3) (me_callG F__law_take hr (by decide) tk (ma_cons (me_var 0) (ma_cons (me_callB call_lenA bLen_ok z_len (by decide +kernel) (ma_cons (me_var 3) (ma_nil))) (ma_nil))))))
    (mss_cons (ms_if (mt_w (mw_and (mt_cmp (op_eqP hr.units) (dEq_ok rfl) (me_var 5) (me_int)) (mw_and1 (mt_cmp op_gt opS_C (me_callB call_lenA bLen_ok z_len (by decide +kernel) (ma_cons (me_var 2) (ma_nil))) (me_int))))) (mss_one (ms_ret (me_tup (ma_cons (me_fz (me_add rfl (me_fz (me_slice rfl (me_var 2) (moS (me_int)) (moN))) (me_ix rfl (me_var 2) (me_int)))) (ma_cons (me_ix rfl (me_var 1) (me_int)) (ma_cons (me_ix rfl (me_var 1) (me_int)) (ma_nil))))))) (mss_nil))
    (mss_cons (ms_if (mt_w (mw_and (mt_cmp (op_eqP hr.units) (dEq_ok rfl) (me_var 5) (me_int)) (mw_and1 (mt_cmp op_lt opS_C (me_callB call_lenA bLen_ok z_len (by decide +kernel) (ma_cons (me_var 2) (ma_nil))) (me_int))))) (mss_cons (ms_setF (ms_setLc 7 (own := [("_law_room", 8), ("_law_row", 9)]) rfl sc__law_other_tongue.nd (mi_enum rfl (ma_cons (me_ix rfl (me_var 1) (me_int)) (ma_nil)) z_enumerate) (blkOk_by (N := ["_law_pen_here", "_law_table_here", "_law_tongue", "_law_rest", "_law_at", "_law_road", "_law_sign", "_law_rows", "_law_room", "_law_row"]) (sc := defScope (topS 34)) (by decide +kernel)) (fun _ _ _ _ _ => mg_tup rfl rfl (.cons (pg_name (i := 8) sc__law_other_tongue.nd rfl (by first | exact Or.inl rfl | exact Or.inr rfl)) (.cons (pg_name (i := 9) sc__law_other_tongue.nd rfl (by first | exact Or.inl rfl | exact Or.inr rfl)) (.nil) rfl) rfl)) (fun _ _ _ _ _ => mts_nil) (fun _ _ _ _ _ => me_add rfl (me_var 9) (me_tup (ma_cons (me_var 8) (ma_nil)))) (sw_true rfl rfl rfl (by decide +kernel))))
    (mss_one (ms_ret (me_tup (ma_cons (me_fz (me_add rfl (me_var 2) (me_var 6))) (ma_cons (me_callT (call_tupleX rfl) bTupleX_ok z_tuple (by decide +kernel) (ma_cons (me_var 7) (ma_nil))) (ma_cons (me_ix rfl (me_var 1) (me_int)) (ma_nil)))))))) (mss_nil))
    (mss_one (ms_ret (me_tup (ma_cons (me_fz (me_add rfl (me_fz (me_add rfl (me_fz (me_slice rfl (me_var 2) (moN) (moS (me_var 4)))) (me_var 6))) (me_fz (me_slice rfl (me_var 2) (moS (me_add rfl (me_var 4) (me_int))) (moN))))) (ma_cons (me_ix rfl (me_var 1) (me_int)) (ma_cons (me_ix rfl (me_var 1) (me_int)) (ma_nil)))))))))))))
theorem ok__law_other_tongue {P : Program} {w : World} {K : PySem.W.Frag} {mg : Str → Option Value} {base : Heap} {cl : Str → Addr} (d : DefAt K mg "_law_other_tongue" (topS 34) ["_law_pen_here", "_law_table_here"]) (z_len : mg "len" = none) (z_enumerate : mg "enumerate" = none) (z_tuple : mg "tuple" = none) (F__law_signs : FnG P w K mg base ⟨K, cl⟩ "_law_signs" 1 0 m__law_signs) (F__law_take : FnG P w K mg base ⟨K, cl⟩ "_law_take" 1 2 m__law_take) : FnG P w K mg base ⟨K, cl⟩ "_law_other_tongue" 2 2 m__law_other_tongue := d.fn fun f fd F => okf__law_other_tongue F z_len z_enumerate z_tuple F__law_signs F__law_take
/-! _law_holds -/
noncomputable def b__law_holds_1 : MS := msCons (msIf (mNot (mTr (mCall 3 (m__law_is_pair) (mCons (mVar 0) (mCons (mVar 1) (mCons (mVar 4) (mNil))))))) (msRet (mC (.bl false))) (msNil))
    (msSetD (mVar 3) (mVar 4) (mC (.bl true)))
noncomputable def b__law_holds_2 : MS := msIf (mTb (mOp (dDIn true) (mTup (mCons (mOp dIx (mOp dIx (mOp dIx (mVar 0) (mC (.int 1))) (mOp dIx (mVar 4) (mC (.int 0)))) (mVar 5)) (mCons (mOp dIx (mOp dIx (mOp dIx (mVar 1) (mC (.int 1))) (mOp dIx (mVar 4) (mC (.int 1)))) (mVar 5)) (mNil)))) (mVar 3))) (msRet (mC (.bl false))) (msNil)
noncomputable def b__law_holds_3 : MS := msFor (iRange1 (mCons (mB bLen (mCons (mOp dIx (mVar 0) (mC (.int 0))) (mNil))) (mNil))) (gSet 5) b__law_holds_2
noncomputable def m__law_holds : MF := fnM 6 (msCons (msIf (mNot (mTr (mIs "tuple" (mVar 2)))) (msRet (mC (.bl false))) (msNil))
    (msCons (msSet 3 (mDictT))
    (msCons (msFor (iSeq (mVar 2)) (gSet 4) b__law_holds_1)
    (msCons (msFz 3 (msFor (iSeq (mVar 2)) (gSet 4) b__law_holds_3))
    (msRet (mOp (dDIn false) (mTup (mCons (mC (.int 0)) (mCons (mC (.int 0)) (mNil)))) (mVar 3)))))))
theorem sc__law_holds : FnScope ["_law_one", "_law_other", "_law_rows", "_law_known", "_law_pair", "_law_k"] ["_law_one", "_law_other", "_law_rows"] (defScope (topS 38)) := ⟨rfl, rfl, rfl, by decide +kernel, rfl, by decide +kernel, by decide +kernel⟩
theorem okf__law_holds {P : Program} {w : World} {K : PySem.W.Frag} {mg : Str → Option Value} {base : Heap} {cl : Str → Addr} {f : Addr} {fd : FuncData} (F : Fun K "_law_holds" "_law_holds" (topS 38) f fd) (z_isinstance : mg "isinstance" = none) (z_tuple : mg "tuple" = none) (z_len : mg "len" = none) (z_range : mg "range" = none) (F__law_is_pair : FnG P w K mg base ⟨K, cl⟩ "_law_is_pair" 1 3 m__law_is_pair) : FnOk P w K mg base (L2.CX P w) 2 f fd ["_law_one", "_law_other", "_law_rows"] (FSp ⟨K, cl⟩ 3 m__law_holds) :=
  fnPM F sc__law_holds rfl fun cdv A outer s H E hr tk hp => mss_cons (ms_if (mt_not (mt_val rfl (me_is rfl (me_var 2) z_isinstance z_tuple))) (mss_one (ms_ret (me_bl))) (mss_nil))
    (mss_cons (ms_set 3 sc__law_holds.nd (me_dict0T))
    (mss_cons (ms_for rfl hp (mi_seq rfl (me_var 2)) (mg_name 4 sc__law_holds.nd) (mss_cons (ms_if (mt_not (mt_val rfl (me_callG F__law_is_pair hr (by decide) tk (ma_cons (me_var 0) (ma_cons (me_var 1) (ma_cons (me_var 4) (ma_nil))))))) (mss_one (ms_ret (me_bl))) (mss_nil))
    (mss_one (ms_setD hr.units (me_bl) (me_var 3) (me_var 4)))))
    (mss_cons (ms_fz 3 (ms_for rfl hp (mi_seq rfl (me_var 2)) (mg_name 4 sc__law_holds.nd) (mss_one (ms_for rfl hp (mi_range1 (ma_cons (me_callB call_lenA bLen_ok z_len (by decide +kernel) (ma_cons (me_ix rfl (me_var 0) (me_int)) (ma_nil))) (ma_nil)) z_range) (mg_name 5 sc__law_holds.nd) (mss_one (ms_if (mt_cmp (op_dNotIn hr.units) (dDIn_ok true) (me_tup (ma_cons (me_ix rfl (me_ix rfl (me_ix rfl (me_var 0) (me_int)) (me_ix rfl (me_var 4) (me_int))) (me_var 5)) (ma_cons (me_ix rfl (me_ix rfl (me_ix rfl (me_var 1) (me_int)) (me_ix rfl (me_var 4) (me_int))) (me_var 5)) (ma_nil)))) (me_var 3)) (mss_one (ms_ret (me_bl))) (mss_nil)))))))
    (mss_one (ms_ret (me_cmp (op_dIn hr.units) (dDIn_ok false) (me_tup (ma_cons (me_int) (ma_cons (me_int) (ma_nil)))) (me_var 3)))))))
theorem ok__law_holds {P : Program} {w : World} {K : PySem.W.Frag} {mg : Str → Option Value} {base : Heap} {cl : Str → Addr} (d : DefAt K mg "_law_holds" (topS 38) ["_law_one", "_law_other", "_law_rows"]) (z_isinstance : mg "isinstance" = none) (z_tuple : mg "tuple" = none) (z_len : mg "len" = none) (z_range : mg "range" = none) (F__law_is_pair : FnG P w K mg base ⟨K, cl⟩ "_law_is_pair" 1 3 m__law_is_pair) : FnG P w K mg base ⟨K, cl⟩ "_law_holds" 2 3 m__law_holds := d.fn fun f fd F => okf__law_holds F z_isinstance z_tuple z_len z_range F__law_is_pair
/-! _law_bent_rows -/
noncomputable def m__law_bent_rows : MF := fnM 12 (msCons (msSet 4 (mCall 2 (m__law_take) (mCons (mVar 0) (mCons (mC (.int 6)) (mNil)))))
    (msCons (msSet 5 (mCall 2 (m__law_take) (mCons (mVar 0) (mCons (mB bLen (mCons (mVar 3) (mNil))) (mNil)))))
    (msCons (msSetT (gSets [6, 7]) (mOp dIx (mVar 3) (mVar 5)))
    (msCons (msSet 8 (mOp dIx (mFz (mLst (mCons (mC (.int 1)) (mCons (mNeg (mC (.int 1))) (mCons (mC (.int 32)) (mCons (mNeg (mC (.int 32))) (mNil))))))) (mCall 2 (m__law_take) (mCons (mVar 0) (mCons (mC (.int 4)) (mNil))))))
    (msCons (msIf (mTb (mOp dLt (mVar 4) (mC (.int 2)))) (msRet (mFz (mOp dAdd (mFz (mSlice (mVar 3) (moNone) (moSome (mVar 5)))) (mFz (mSlice (mVar 3) (moSome (mOp dAdd (mVar 5) (mC (.int 1)))) (moNone)))))) (msNil))
    (msCons (msIf (mTb (mOp (dEq false) (mVar 4) (mC (.int 2)))) (msCons (msSet 9 (mTup (mCons (mCall 2 (m__law_take) (mCons (mVar 0) (mCons (mB bLen (mCons (mOp dIx (mVar 1) (mC (.int 1))) (mNil))) (mNil)))) (mCons (mCall 2 (m__law_take) (mCons (mVar 0) (mCons (mB bLen (mCons (mOp dIx (mVar 2) (mC (.int 1))) (mNil))) (mNil)))) (mNil)))))
    (msRet (mOp dAdd (mOp dAdd (mFz (mSlice (mVar 3) (moNone) (moSome (mVar 5)))) (mTup (mCons (mVar 9) (mNil)))) (mFz (mSlice (mVar 3) (moSome (mVar 5)) (moNone)))))) (msNil))
    (msCons (msIf (mTb (mOp (dEq false) (mVar 4) (mC (.int 3)))) (msCons (msSet 10 (mFz (mLst (mCons (mTup (mCons (mFz (mOp dAdd (mVar 6) (mVar 8))) (mCons (mVar 7) (mNil)))) (mCons (mTup (mCons (mVar 6) (mCons (mFz (mOp dAdd (mVar 7) (mVar 8))) (mNil)))) (mCons (mTup (mCons (mVar 7) (mCons (mVar 6) (mNil)))) (mCons (mTup (mCons (mVar 6) (mCons (mC (.bl true)) (mNil)))) (mCons (mTup (mCons (mC (.bl true)) (mCons (mVar 7) (mNil)))) (mNil)))))))))
    (msCons (msSet 11 (mOp dIx (mVar 10) (mCall 2 (m__law_take) (mCons (mVar 0) (mCons (mC (.int 5)) (mNil))))))
    (msRet (mOp dAdd (mOp dAdd (mFz (mSlice (mVar 3) (moNone) (moSome (mVar 5)))) (mTup (mCons (mVar 11) (mNil)))) (mFz (mSlice (mVar 3) (moSome (mFz (mOp dAdd (mVar 5) (mCall 2 (m__law_take) (mCons (mVar 0) (mCons (mC (.int 2)) (mNil))))))) (moNone))))))) (msNil))
    (msCons (msIf (mTb (mOp (dEq false) (mVar 4) (mC (.int 4)))) (msCons (msSet 11 (mOp dIx (mFz (mLst (mCons (mFz (mLst (mCons (mVar 6) (mCons (mVar 7) (mNil))))) (mCons (mTup (mCons (mVar 6) (mNil))) (mCons (mTup (mCons (mVar 6) (mCons (mVar 7) (mCons (mC (.int 0)) (mNil))))) (mCons (mC .non) (mCons (mTup (mCons (mVar 6) (mCons (mC (.str [48])) (mNil)))) (mCons (mVar 6) (mNil))))))))) (mCall 2 (m__law_take) (mCons (mVar 0) (mCons (mC (.int 6)) (mNil))))))
    (msRet (mOp dAdd (mOp dAdd (mFz (mSlice (mVar 3) (moNone) (moSome (mVar 5)))) (mTup (mCons (mVar 11) (mNil)))) (mFz (mSlice (mVar 3) (moSome (mVar 5)) (moNone)))))) (msNil))
    (msRet (mOp dIx (mFz (mLst (mCons (mFz (mB bListX (mCons (mVar 3) (mNil)))) (mCons (mC .non) (mCons (mTup (mNil)) (mCons (mC (.int 0)) (mCons (mC (.str [])) (mCons (mFz (mDict [])) (mCons (mC (.bl true)) (mCons (mTup (mCons (mVar 3) (mNil))) (mNil))))))))))) (mCall 2 (m__law_take) (mCons (mVar 0) (mCons (mC (.int 8)) (mNil))))))))))))))
theorem sc__law_bent_rows : FnScope ["_law_pen_here", "_law_one", "_law_other", "_law_rows", "_law_road", "_law_at", "_law_first", "_law_second", "_law_step", "_law_there", "_law_some_here", "_law_odd"] ["_law_pen_here", "_law_one", "_law_other", "_law_rows"] (defScope (topS 39)) := ⟨rfl, rfl, rfl, by decide +kernel, rfl, by decide +kernel, by decide +kernel⟩
theorem okf__law_bent_rows {P : Program} {w : World} {K : PySem.W.Frag} {mg : Str → Option Value} {base : Heap} {cl : Str → Addr} {f : Addr} {fd : FuncData} (F : Fun K "_law_bent_rows" "_law_bent_rows" (topS 39) f fd) (z_len : mg "len" = none) (z_list : mg "list" = none) (F__law_take : FnG P w K mg base ⟨K, cl⟩ "_law_take" 1 2 m__law_take) : FnOk P w K mg base (L2.CX P w) 2 f fd ["_law_pen_here", "_law_one", "_law_other", "_law_rows"] (FSp ⟨K, cl⟩ 4 m__law_bent_rows) :=
  fnPM F sc__law_bent_rows rfl fun cdv A outer s H E hr tk hp => mss_cons (ms_set 4 sc__law_bent_rows.nd (me_callG F__law_take hr (by decide) tk (ma_cons (me_var 0) (ma_cons (me_int) (ma_nil)))))
    (mss_cons (ms_set 5 sc__law_bent_rows.nd (me_callG F__law_take hr (by decide) tk (ma_cons (me_var 0) (ma_cons (me_callB call_lenA bLen_ok z_len (by decide +kernel) (ma_cons (me_var 3) (ma_nil))) (ma_nil)))))
    (mss_cons (ms_setT (me_ix rfl (me_var 3) (me_var 5)) (mg_tup rfl rfl (.cons (pg_name (i := 6) sc__law_bent_rows.nd rfl (by first | exact Or.inl rfl | exact Or.inr rfl)) (.cons (pg_name (i := 7) sc__law_bent_rows.nd rfl (by first | exact Or.inl rfl | exact Or.inr rfl)) (.nil) rfl) rfl)))
    (mss_cons (ms_set 8 sc__law_bent_rows.nd (me_ix rfl (me_fz (me_lst (ma_cons (me_int) (ma_cons (me_neg (me_int)) (ma_cons (me_int) (ma_cons (me_neg (me_int)) (ma_nil))))))) (me_callG F__law_take hr (by decide) tk (ma_cons (me_var 0) (ma_cons (me_int) (ma_nil))))))
    (mss_cons (ms_if (mt_cmp op_lt opS_C (me_var 4) (me_int)) (mss_one (ms_ret (me_fz (me_add rfl (me_fz (me_slice rfl (me_var 3) (moN) (moS (me_var 5)))) (me_fz (me_slice rfl (me_var 3) (moS (me_add rfl (me_var 5) (me_int))) (moN))))))) (mss_nil))
    (mss_cons (ms_if (mt_cmp (op_eqP hr.units) (dEq_ok rfl) (me_var 4) (me_int)) (mss_cons (ms_set 9 sc__law_bent_rows.nd (me_tup (ma_cons (me_callG F__law_take hr (by decide) tk (ma_cons (me_var 0) (ma_cons (me_callB call_lenA bLen_ok z_len (by decide +kernel) (ma_cons (me_ix rfl (me_var 1) (me_int)) (ma_nil))) (ma_nil)))) (ma_cons (me_callG F__law_take hr (by decide) tk (ma_cons (me_var 0) (ma_cons (me_callB call_lenA bLen_ok z_len (by decide +kernel) (ma_cons (me_ix rfl (me_var 2) (me_int)) (ma_nil))) (ma_nil)))) (ma_nil)))))
    (mss_one (ms_ret (me_add rfl (me_add rfl (me_fz (me_slice rfl (me_var 3) (moN) (moS (me_var 5)))) (me_tup (ma_cons (me_var 9) (ma_nil)))) (me_fz (me_slice rfl (me_var 3) (moS (me_var 5)) (moN))))))) (mss_nil))
    (mss_cons (ms_if (mt_cmp (op_eqP hr.units) (dEq_ok rfl) (me_var 4) (me_int)) (mss_cons (ms_set 10 sc__law_bent_rows.nd (me_fz (me_lst (ma_cons (me_tup (ma_cons (me_fz (me_add rfl (me_var 6) (me_var 8))) (ma_cons (me_var 7) (ma_nil)))) (ma_cons (me_tup (ma_cons (me_var 6) (ma_cons (me_fz (me_add rfl (me_var 7) (me_var 8))) (ma_nil)))) (ma_cons (me_tup (ma_cons (me_var 7) (ma_cons (me_var 6) (ma_nil)))) (ma_cons (me_tup (ma_cons (me_var 6) (ma_cons (me_bl) (ma_nil)))) (ma_cons (me_tup (ma_cons (me_bl) (ma_cons (me_var 7) (ma_nil)))) (ma_nil)))))))))
    (mss_cons (ms_set 11 sc__law_bent_rows.nd (me_ix rfl (me_var 10) (me_callG F__law_take hr (by decide) tk (ma_cons (me_var 0) (ma_cons (me_int) (ma_nil))))))
    (mss_one (ms_ret (me_add rfl (me_add rfl (me_fz (me_slice rfl (me_var 3) (moN) (moS (me_var 5)))) (me_tup (ma_cons (me_var 11) (ma_nil)))) (me_fz (me_slice rfl (me_var 3) (moS (me_fz (me_add rfl (me_var 5) (me_callG F__law_take hr (by decide) tk (ma_cons (me_var 0) (ma_cons (me_int) (ma_nil))))))) (moN)))))))) (mss_nil))
    (mss_cons (ms_if (mt_cmp (op_eqP hr.units) (dEq_ok rfl) (me_var 4) (me_int)) (mss_cons (ms_set 11 sc__law_bent_rows.nd (me_ix rfl (me_fz (me_lst (ma_cons (me_fz (me_lst (ma_cons (me_var 6) (ma_cons (me_var 7) (ma_nil))))) (ma_cons (me_tup (ma_cons (me_var 6) (ma_nil))) (ma_cons (me_tup (ma_cons (me_var 6) (ma_cons (me_var 7) (ma_cons (me_int) (ma_nil))))) (ma_cons (me_non) (ma_cons (me_tup (ma_cons (me_var 6) (ma_cons (me_str [48]) (ma_nil)))) (ma_cons (me_var 6) (ma_nil))))))))) (me_callG F__law_take hr (by decide) tk (ma_cons (me_var 0) (ma_cons (me_int) (ma_nil))))))
    (mss_one (ms_ret (me_add rfl (me_add rfl (me_fz (me_slice rfl (me_var 3) (moN) (moS (me_var 5)))) (me_tup (ma_cons (me_var 11) (ma_nil)))) (me_fz (me_slice rfl (me_var 3) (moS (me_var 5)) (moN))))))) (mss_nil))
    (mss_one (ms_ret (me_ix rfl (me_fz (me_lst (ma_cons (me_fz (me_callT (call_listX rfl) bListX_ok z_list (by decide +kernel) (ma_cons (me_var 3) (ma_nil)))) (ma_cons (me_non) (ma_cons (me_tup (ma_nil)) (ma_cons (me_int) (ma_cons (me_str []) (ma_cons (me_fz (me_dict0)) (ma_cons (me_bl) (ma_cons (me_tup (ma_cons (me_var 3) (ma_nil))) (ma_nil))))))))))) (me_callG F__law_take hr (by decide) tk (ma_cons (me_var 0) (ma_cons (me_int) (ma_nil))))))))))))))
theorem ok__law_bent_rows {P : Program} {w : World} {K : PySem.W.Frag} {mg : Str → Option Value} {base : Heap} {cl : Str → Addr} (d : DefAt K mg "_law_bent_rows" (topS 39) ["_law_pen_here", "_law_one", "_law_other", "_law_rows"]) (z_len : mg "len" = none) (z_list : mg "list" = none) (F__law_take : FnG P w K mg base ⟨K, cl⟩ "_law_take" 1 2 m__law_take) : FnG P w K mg base ⟨K, cl⟩ "_law_bent_rows" 2 4 m__law_bent_rows := d.fn fun f fd F => okf__law_bent_rows F z_len z_list F__law_take
/-! parted -/
noncomputable def m_parted : MF := fnM 2 (msCons (msExpr (mCall 2 (m_asked_alike) (mCons (mVar 0) (mCons (mVar 1) (mNil)))))
    (msRet (mCall 4 (m_first_parted) (mCons (mVar 0) (mCons (mVar 1) (mCons (mOp dIx (mVar 0) (mC (.int 2))) (mCons (mOp dIx (mVar 1) (mC (.int 2))) (mNil))))))))
theorem sc_parted : FnScope ["one", "other"] ["one", "other"] (defScope (topS 18)) := ⟨rfl, rfl, rfl, by decide +kernel, rfl, by decide +kernel, by decide +kernel⟩
theorem okf_parted {P : Program} {w : World} {K : PySem.W.Frag} {mg : Str → Option Value} {base : Heap} {cl : Str → Addr} {f : Addr} {fd : FuncData} (F : Fun K "parted" "parted" (topS 18) f fd) (F_asked_alike : FnG P w K mg base ⟨K, cl⟩ "asked_alike" 1 2 m_asked_alike) (F_first_parted : FnG P w K mg base ⟨K, cl⟩ "first_parted" 2 4 m_first_parted) : FnOk P w K mg base (L2.CX P w) 3 f fd ["one", "other"] (FSp ⟨K, cl⟩ 2 m_parted) :=
  fnPM F sc_parted rfl fun cdv A outer s H E hr tk hp => mss_cons (ms_expr (me_callG F_asked_alike hr (by decide) tk (ma_cons (me_var 0) (ma_cons (me_var 1) (ma_nil)))))
    (mss_one (ms_ret (me_callG F_first_parted hr (by decide) tk (ma_cons (me_var 0) (ma_cons (me_var 1) (ma_cons (me_ix rfl (me_var 0) (me_int)) (ma_cons (me_ix rfl (me_var 1) (me_int)) (ma_nil))))))))
theorem ok_parted {P : Program} {w : World} {K : PySem.W.Frag} {mg : Str → Option Value} {base : Heap} {cl : Str → Addr} (d : DefAt K mg "parted" (topS 18) ["one", "other"]) (F_asked_alike : FnG P w K mg base ⟨K, cl⟩ "asked_alike" 1 2 m_asked_alike) (F_first_parted : FnG P w K mg base ⟨K, cl⟩ "first_parted" 2 4 m_first_parted) : FnG P w K mg base ⟨K, cl⟩ "parted" 3 2 m_parted := d.fn fun f fd F => okf_parted F F_asked_alike F_first_parted
/-! is_pair -/
noncomputable def m_is_pair : MF := fnM 3 (msCons (msIf (mOr (mNot (mTr (mCall 1 (m_is_numbers) (mCons (mVar 2) (mNil))))) (mTb (mOp (dEq true) (mB bLen (mCons (mVar 2) (mNil))) (mC (.int 2))))) (msRet (mC (.bl false))) (msNil))
    (msCons (msIf (mOr (mNot (mTb (mChain dLe dLt (mC (.int 0)) (mOp dIx (mVar 2) (mC (.int 0))) (mB bLen (mCons (mOp dIx (mVar 0) (mC (.int 1))) (mNil)))))) (mNot (mTb (mChain dLe dLt (mC (.int 0)) (mOp dIx (mVar 2) (mC (.int 1))) (mB bLen (mCons (mOp dIx (mVar 1) (mC (.int 1))) (mNil))))))) (msRet (mC (.bl false))) (msNil))
    (msRet (mOp (dEq false) (mOp dIx (mOp dIx (mVar 0) (mC (.int 2))) (mOp dIx (mVar 2) (mC (.int 0)))) (mOp dIx (mOp dIx (mVar 1) (mC (.int 2))) (mOp dIx (mVar 2) (mC (.int 1))))))))
theorem sc_is_pair : FnScope ["one", "other", "thing"] ["one", "other", "thing"] (defScope (topS 20)) := ⟨rfl, rfl, rfl, by decide +kernel, rfl, by decide +kernel, by decide +kernel⟩
theorem okf_is_pair {P : Program} {w : World} {K : PySem.W.Frag} {mg : Str → Option Value} {base : Heap} {cl : Str → Addr} {f : Addr} {fd : FuncData} (F : Fun K "is_pair" "is_pair" (topS 20) f fd) (z_len : mg "len" = none) (F_is_numbers : FnG P w K mg base ⟨K, cl⟩ "is_numbers" 2 1 m_is_numbers) : FnOk P w K mg base (L2.CX P w) 3 f fd ["one", "other", "thing"] (FSp ⟨K, cl⟩ 3 m_is_pair) :=
  fnPM F sc_is_pair rfl fun cdv A outer s H E hr tk hp => mss_cons (ms_if (mt_w (mw_or (mt_not (mt_val rfl (me_callG F_is_numbers hr (by decide) tk (ma_cons (me_var 2) (ma_nil))))) (mw_or1 (mt_cmp (op_neP hr.units) (dNe_ok rfl) (me_callB call_lenA bLen_ok z_len (by decide +kernel) (ma_cons (me_var 2) (ma_nil))) (me_int))))) (mss_one (ms_ret (me_bl))) (mss_nil))
    (mss_cons (ms_if (mt_w (mw_or (mt_not (mt_chain op_le opS_C op_lt opS_C (me_int) (me_ix rfl (me_var 2) (me_int)) (me_callB call_lenA bLen_ok z_len (by decide +kernel) (ma_cons (me_ix rfl (me_var 0) (me_int)) (ma_nil))))) (mw_or1 (mt_not (mt_chain op_le opS_C op_lt opS_C (me_int) (me_ix rfl (me_var 2) (me_int)) (me_callB call_lenA bLen_ok z_len (by decide +kernel) (ma_cons (me_ix rfl (me_var 1) (me_int)) (ma_nil)))))))) (mss_one (ms_ret (me_bl))) (mss_nil))
    (mss_one (ms_ret (me_cmp (op_eqP hr.units) (dEq_ok rfl) (me_ix rfl (me_ix rfl (me_var 0) (me_int)) (me_ix rfl (me_var 2) (me_int))) (me_ix rfl (me_ix rfl (me_var 1) (me_int)) (me_ix rfl (me_var 2) (me_int)))))))
theorem ok_is_pair {P : Program} {w : World} {K : PySem.W.Frag} {mg : Str → Option Value} {base : Heap} {cl : Str → Addr} (d : DefAt K mg "is_pair" (topS 20) ["one", "other", "thing"]) (z_len : mg "len" = none) (F_is_numbers : FnG P w K mg base ⟨K, cl⟩ "is_numbers" 2 1 m_is_numbers) : FnG P w K mg base ⟨K, cl⟩ "is_pair" 3 3 m_is_pair := d.fn fun f fd F => okf_is_pair F z_len F_is_numbers
/-! _law_two -/
noncomputable def m__law_two : MF := fnM 6 (msCons (msSet 1 (mCall 2 (m__law_take) (mCons (mVar 0) (mCons (mC (.int 6)) (mNil)))))
    (msCons (msSet 2 (mCall 3 (m__law_some) (mCons (mVar 0) (mCons (mCall 0 (m__law_signs) mNil) (mCons (mOp dIx (mFz (mLst (mCons (mC (.int 2)) (mCons (mC (.int 2)) (mCons (mC (.int 3)) (mCons (mC (.int 6)) (mNil))))))) (mCall 2 (m__law_take) (mCons (mVar 0) (mCons (mC (.int 4)) (mNil))))) (mNil))))))
    (msCons (msSet 3 (mOp dIx (mFz (mLst (mCons (mC (.int 4)) (mCons (mC (.int 8)) (mCons (mC (.int 8)) (mCons (mC (.int 16)) (mNil))))))) (mCall 2 (m__law_take) (mCons (mVar 0) (mCons (mC (.int 4)) (mNil))))))
    (msCons (msSet 4 (mCall 3 (m__law_table) (mCons (mVar 0) (mCons (mVar 2) (mCons (mVar 3) (mNil))))))
    (msCons (msSet 5 (mCall 3 (m__law_table) (mCons (mVar 0) (mCons (mVar 2) (mCons (mVar 3) (mNil))))))
    (msCons (msIf (mTb (mOp dLt (mVar 1) (mC (.int 5)))) (msSet 5 (mCall 2 (m__law_doubled) (mCons (mVar 0) (mCons (mVar 4) (mNil))))) (msNil))
    (msCons (msIf (mOr (mTb (mOp (dEq false) (mVar 1) (mC (.int 2)))) (mTb (mOp (dEq false) (mVar 1) (mC (.int 3))))) (msSet 5 (mCall 2 (m__law_bent) (mCons (mVar 0) (mCons (mVar 5) (mNil))))) (msNil))
    (msCons (msIf (mTb (mOp (dEq false) (mVar 1) (mC (.int 4)))) (msSet 4 (mCall 2 (m__law_bent) (mCons (mVar 0) (mCons (mVar 5) (mNil))))) (msNil))
    (msRet (mTup (mCons (mVar 4) (mCons (mVar 5) (mNil)))))))))))))
theorem sc__law_two : FnScope ["_law_pen_here", "_law_road", "_law_tongue", "_law_most", "_law_one", "_law_other"] ["_law_pen_here"] (defScope (topS 31)) := ⟨rfl, rfl, rfl, by decide +kernel, rfl, by decide +kernel, by decide +kernel⟩
theorem okf__law_two {P : Program} {w : World} {K : PySem.W.Frag} {mg : Str → Option Value} {base : Heap} {cl : Str → Addr} {f : Addr} {fd : FuncData} (F : Fun K "_law_two" "_law_two" (topS 31) f fd) (F__law_take : FnG P w K mg base ⟨K, cl⟩ "_law_take" 1 2 m__law_take) (F__law_some : FnG P w K mg base ⟨K, cl⟩ "_law_some" 2 3 m__law_some) (F__law_signs : FnG P w K mg base ⟨K, cl⟩ "_law_signs" 1 0 m__law_signs) (F__law_table : FnG P w K mg base ⟨K, cl⟩ "_law_table" 2 3 m__law_table) (F__law_doubled : FnG P w K mg base ⟨K, cl⟩ "_law_doubled" 2 2 m__law_doubled) (F__law_bent : FnG P w K mg base ⟨K, cl⟩ "_law_bent" 2 2 m__law_bent) : FnOk P w K mg base (L2.CX P w) 3 f fd ["_law_pen_here"] (FSp ⟨K, cl⟩ 1 m__law_two) :=
  fnPM F sc__law_two rfl fun cdv A outer s H E hr tk hp => mss_cons (ms_set 1 sc__law_two.nd (me_callG F__law_take hr (by decide) tk (ma_cons (me_var 0) (ma_cons (me_int) (ma_nil)))))
    (mss_cons (ms_set 2 sc__law_two.nd (me_callG F__law_some hr (by decide) tk (ma_cons (me_var 0) (ma_cons (me_callG0 F__law_signs hr (by decide) tk) (ma_cons (me_ix rfl (me_fz (me_lst (ma_cons (me_int) (ma_cons (me_int) (ma_cons (me_int) (ma_cons (me_int) (ma_nil))))))) (me_callG F__law_take hr (by decide) tk (ma_cons (me_var 0) (ma_cons (me_int) (ma_nil))))) (ma_nil))))))
    (mss_cons (ms_set 3 sc__law_two.nd (me_ix rfl (me_fz (me_lst (ma_cons (me_int) (ma_cons (me_int) (ma_cons (me_int) (ma_cons (me_int) (ma_nil))))))) (me_callG F__law_take hr (by decide) tk (ma_cons (me_var 0) (ma_cons (me_int) (ma_nil))))))
    (mss_cons (ms_set 4 sc__law_two.nd (me_callG F__law_table hr (by decide) tk (ma_cons (me_var 0) (ma_cons (me_var 2) (ma_cons (me_var 3) (ma_nil))))))
    (mss_cons (ms_set 5 sc__law_two.nd (me_callG F__law_table hr (by decide) tk (ma_cons (me_var 0) (ma_cons (me_var 2) (ma_cons (me_var 3) (ma_nil))))))
    (mss_cons (ms_if (mt_cmp op_lt opS_C (me_var 1) (me_int)) (mss_one (ms_set 5 sc__law_two.nd (me_callG F__law_doubled hr (by decide) tk (ma_cons (me_var 0) (ma_cons (me_var 4) (ma_nil)))))) (mss_nil))
    (mss_cons (ms_if (mt_w (mw_or (mt_cmp (op_eqP hr.units) (dEq_ok rfl) (me_var 1) (me_int)) (mw_or1 (mt_cmp (op_eqP hr.units) (dEq_ok rfl) (me_var 1) (me_int))))) (mss_one (ms_set 5 sc__law_two.nd (me_callG F__law_bent hr (by decide) tk (ma_cons (me_var 0) (ma_cons (me_var 5) (ma_nil)))))) (mss_nil))
    (mss_cons (ms_if (mt_cmp (op_eqP hr.units) (dEq_ok rfl) (me_var 1) (me_int)) (mss_one (ms_set 4 sc__law_two.nd (me_callG F__law_bent hr (by decide) tk (ma_cons (me_var 0) (ma_cons (me_var 5) (ma_nil)))))) (mss_nil))
    (mss_one (ms_ret (me_tup (ma_cons (me_var 4) (ma_cons (me_var 5) (ma_nil)))))))))))))
theorem ok__law_two {P : Program} {w : World} {K : PySem.W.Frag} {mg : Str → Option Value} {base : Heap} {cl : Str → Addr} (d : DefAt K mg "_law_two" (topS 31) ["_law_pen_here"]) (F__law_take : FnG P w K mg base ⟨K, cl⟩ "_law_take" 1 2 m__law_take) (F__law_some : FnG P w K mg base ⟨K, cl⟩ "_law_some" 2 3 m__law_some) (F__law_signs : FnG P w K mg base ⟨K, cl⟩ "_law_signs" 1 0 m__law_signs) (F__law_table : FnG P w K mg base ⟨K, cl⟩ "_law_table" 2 3 m__law_table) (F__law_doubled : FnG P w K mg base ⟨K, cl⟩ "_law_doubled" 2 2 m__law_doubled) (F__law_bent : FnG P w K mg base ⟨K, cl⟩ "_law_bent" 2 2 m__law_bent) : FnG P w K mg base ⟨K, cl⟩ "_law_two" 3 1 m__law_two := d.fn fun f fd F => okf__law_two F F__law_take F__law_some F__law_signs F__law_table F__law_doubled F__law_bent
/-! pairs -/
noncomputable def m_pairs : MF := fnM 2 (msCons (msIf (mTb (mOp (dIsN true) (mCall 2 (m_parted) (mCons (mVar 0) (mCons (mVar 1) (mNil)))) (mC .non))) (msRet (mC .non)) (msNil))
    (msRet (mB bTupleX (mCons (mFz (mB bSortedV (mCons (mCall 2 (m_together) (mCons (mVar 0) (mCons (mVar 1) (mNil)))) (mNil)))) (mNil)))))
theorem sc_pairs : FnScope ["one", "other"] ["one", "other"] (defScope (topS 19)) := ⟨rfl, rfl, rfl, by decide +kernel, rfl, by decide +kernel, by decide +kernel⟩
theorem okf_pairs {P : Program} {w : World} {K : PySem.W.Frag} {mg : Str → Option Value} {base : Heap} {cl : Str → Addr} {f : Addr} {fd : FuncData} (F : Fun K "pairs" "pairs" (topS 19) f fd) (z_sorted : mg "sorted" = none) (z_tuple : mg "tuple" = none) (F_parted : FnG P w K mg base ⟨K, cl⟩ "parted" 3 2 m_parted) (F_together : FnG P w K mg base ⟨K, cl⟩ "together" 1 2 m_together) : FnOk P w K mg base (L2.CX P w) 4 f fd ["one", "other"] (FSp ⟨K, cl⟩ 2 m_pairs) :=
  fnPM F sc_pairs rfl fun cdv A outer s H E hr tk hp => mss_cons (ms_if (mt_cmp op_isnotA dIsnot_ok (me_callG F_parted hr (by decide) tk (ma_cons (me_var 0) (ma_cons (me_var 1) (ma_nil)))) (me_non)) (mss_one (ms_ret (me_non))) (mss_nil))
    (mss_one (ms_ret (me_callT (call_tupleX rfl) bTupleX_ok z_tuple (by decide +kernel) (ma_cons (me_fz (me_callB (call_sortedV rfl) bSortedV_ok z_sorted (by decide +kernel) (ma_cons (me_callG F_together hr (by decide) tk (ma_cons (me_var 0) (ma_cons (me_var 1) (ma_nil)))) (ma_nil)))) (ma_nil)))))
theorem ok_pairs {P : Program} {w : World} {K : PySem.W.Frag} {mg : Str → Option Value} {base : Heap} {cl : Str → Addr} (d : DefAt K mg "pairs" (topS 19) ["one", "other"]) (z_sorted : mg "sorted" = none) (z_tuple : mg "tuple" = none) (F_parted : FnG P w K mg base ⟨K, cl⟩ "parted" 3 2 m_parted) (F_together : FnG P w K mg base ⟨K, cl⟩ "together" 1 2 m_together) : FnG P w K mg base ⟨K, cl⟩ "pairs" 4 2 m_pairs := d.fn fun f fd F => okf_pairs F z_sorted z_tuple F_parted F_together
/-! pairs_hold -/
noncomputable def e_pairs_hold_1 : ME := mCall 3 (m_is_pair) (mCons (mVar 0) (mCons (mVar 1) (mCons (mVar 4) (mNil))))
noncomputable def b_pairs_hold_2 : MS := msSetD (mVar 3) (mVar 4) (mC (.bl true))
noncomputable def b_pairs_hold_3 : MS := msIf (mTb (mOp (dDIn true) (mVar 7) (mVar 3))) (msRet (mC (.bl false))) (msNil)
noncomputable def b_pairs_hold_4 : MS := msFor (iZip (mCons (mOp dIx (mOp dIx (mVar 0) (mC (.int 1))) (mVar 5)) (mCons (mOp dIx (mOp dIx (mVar 1) (mC (.int 1))) (mVar 6)) (mNil)))) (gSet 7) b_pairs_hold_3
noncomputable def m_pairs_hold : MF := fnM 8 (msCons (msExpr (mCall 2 (m_asked_alike) (mCons (mVar 0) (mCons (mVar 1) (mNil)))))
    (msCons (msIf (mOr (mNot (mTr (mIs "tuple" (mVar 2)))) (mNot (mTr (mB bAll (mCons (mFz (mLc (iSeq (mVar 2)) (gSet 4) mYes e_pairs_hold_1 [4])) (mNil)))))) (msRet (mC (.bl false))) (msNil))
    (msCons (msSet 3 (mDictT))
    (msCons (msFor (iSeq (mVar 2)) (gSet 4) b_pairs_hold_2)
    (msCons (msFz 3 (msIf (mTb (mOp (dDIn true) (mTup (mCons (mC (.int 0)) (mCons (mC (.int 0)) (mNil)))) (mVar 3))) (msRet (mC (.bl false))) (msNil)))
    (msCons (msFor (iSeq (mVar 2)) (gSets [5, 6]) b_pairs_hold_4)
    (msRet (mC (.bl true)))))))))
theorem sc_pairs_hold : FnScope ["one", "other", "rows", "known", "pair", "first", "second", "there"] ["one", "other", "rows"] (defScope (topS 21)) := ⟨rfl, rfl, rfl, by decide +kernel, rfl, by decide +kernel, by decide +kernel⟩
theorem okf_pairs_hold {P : Program} {w : World} {K : PySem.W.Frag} {mg : Str → Option Value} {base : Heap} {cl : Str → Addr} {f : Addr} {fd : FuncData} (F : Fun K "pairs_hold" "pairs_hold" (topS 21) f fd) (z_isinstance : mg "isinstance" = none) (z_tuple : mg "tuple" = none) (z_all : mg "all" = none) (z_zip : mg "zip" = none) (F_asked_alike : FnG P w K mg base ⟨K, cl⟩ "asked_alike" 1 2 m_asked_alike) (F_is_pair : FnG P w K mg base ⟨K, cl⟩ "is_pair" 3 3 m_is_pair) : FnOk P w K mg base (L2.CX P w) 4 f fd ["one", "other", "rows"] (FSp ⟨K, cl⟩ 3 m_pairs_hold) :=
  fnPM F sc_pairs_hold rfl fun cdv A outer s H E hr tk hp => mss_cons (ms_expr (me_callG F_asked_alike hr (by decide) tk (ma_cons (me_var 0) (ma_cons (me_var 1) (ma_nil)))))
    (mss_cons (ms_if (mt_w (mw_or (mt_not (mt_val rfl (me_is rfl (me_var 2) z_isinstance z_tuple))) (mw_or1 (mt_not (mt_val rfl (me_callB (cr_all rfl) bAll_ok z_all (by decide +kernel) (ma_cons (me_fz (me_lc (own := [("pair", 4)]) rfl sc_pairs_hold.nd (mi_seq rfl (me_var 2)) (blkOk_by (N := ["one", "other", "rows", "known", "pair", "first", "second", "there"]) (sc := defScope (topS 21)) (by decide +kernel)) (fun _ _ _ _ _ => mg_name 4 sc_pairs_hold.nd) (fun _ _ _ _ _ => mts_nil) (fun _ _ _ _ _ => me_callG F_is_pair hr (by decide) takes0 (ma_cons (me_var 0) (ma_cons (me_var 1) (ma_cons (me_var 4) (ma_nil))))))) (ma_nil)))))))) (mss_one (ms_ret (me_bl))) (mss_nil))
    (mss_cons (ms_set 3 sc_pairs_hold.nd (me_dict0T))
    (mss_cons (ms_for rfl hp (mi_seq rfl (me_var 2)) (mg_name 4 sc_pairs_hold.nd) (mss_one (ms_setD hr.units (me_bl) (me_var 3) (me_var 4))))
    (mss_cons (ms_fz 3 (ms_if (mt_cmp (op_dNotIn hr.units) (dDIn_ok true) (me_tup (ma_cons (me_int) (ma_cons (me_int) (ma_nil)))) (me_var 3)) (mss_one (ms_ret (me_bl))) (mss_nil)))
    (mss_cons (ms_for rfl hp (mi_seq rfl (me_var 2)) (mg_tup rfl rfl (.cons (pg_name (i := 5) sc_pairs_hold.nd rfl (by first | exact Or.inl rfl | exact Or.inr rfl)) (.cons (pg_name (i := 6) sc_pairs_hold.nd rfl (by first | exact Or.inl rfl | exact Or.inr rfl)) (.nil) rfl) rfl)) (mss_one (ms_for rfl hp (mi_zipN rfl (ma_cons (me_ix rfl (me_ix rfl (me_var 0) (me_int)) (me_var 5)) (ma_cons (me_ix rfl (me_ix rfl (me_var 1) (me_int)) (me_var 6)) (ma_nil))) z_zip) (mg_name 7 sc_pairs_hold.nd) (mss_one (ms_if (mt_cmp (op_dNotIn hr.units) (dDIn_ok true) (me_var 7) (me_var 3)) (mss_one (ms_ret (me_bl))) (mss_nil))))))
    (mss_one (ms_ret (me_bl))))))))
theorem ok_pairs_hold {P : Program} {w : World} {K : PySem.W.Frag} {mg : Str → Option Value} {base : Heap} {cl : Str → Addr} (d : DefAt K mg "pairs_hold" (topS 21) ["one", "other", "rows"]) (z_isinstance : mg "isinstance" = none) (z_tuple : mg "tuple" = none) (z_all : mg "all" = none) (z_zip : mg "zip" = none) (F_asked_alike : FnG P w K mg base ⟨K, cl⟩ "asked_alike" 1 2 m_asked_alike) (F_is_pair : FnG P w K mg base ⟨K, cl⟩ "is_pair" 3 3 m_is_pair) : FnG P w K mg base ⟨K, cl⟩ "pairs_hold" 4 3 m_pairs_hold := d.fn fun f fd F => okf_pairs_hold F z_isinstance z_tuple z_all z_zip F_asked_alike F_is_pair
/-! _law_refused -/
noncomputable def b__law_refused_1 : MS := msIf (mTb (mOp (dEq false) (mVar 2) (mC (.int 0)))) (msExpr (mCall 2 (m_pairs) (mCons (mVar 0) (mCons (mVar 1) (mNil))))) (msExpr (mCall 3 (m_pairs_hold) (mCons (mVar 0) (mCons (mVar 1) (mCons (mVar 3) (mNil))))))
noncomputable def s__law_refused_2 : Str → Nat → MS := fun c a => msCons (msSet 4 (mAndV (mIsE iT c a 5 "Unlike") (mIsE iT c a 5 "ValueError")))
    (msIf (mTr (mIsET iT c a 5 ["Closed", "NoBook", "NoModes", "NoPlace", "NoTable", "NoText", "TooHeavy", "TooMany"])) (msSet 4 (mC (.bl false))) (msNil))
noncomputable def m__law_refused : MF := fnM 6 (msCons (msSet 4 (mC (.bl false)))
    (msCons (msTryAs hT "ReachError" 5 b__law_refused_1 s__law_refused_2)
    (msRet (mVar 4))))
theorem sc__law_refused : FnScope ["_law_one", "_law_other", "_law_road", "_law_rows", "_law_good", "e"] ["_law_one", "_law_other", "_law_road", "_law_rows"] (defScope (topS 36)) := ⟨rfl, rfl, rfl, by decide +kernel, rfl, by decide +kernel, by decide +kernel⟩
theorem okf__law_refused {P : Program} {w : World} {K : PySem.W.Frag} {mg : Str → Option Value} {base : Heap} {cl : Str → Addr} {f : Addr} {fd : FuncData} (F : Fun K "_law_refused" "_law_refused" (topS 36) f fd) (z_isinstance : mg "isinstance" = none) (z_ValueError : mg "ValueError" = none) (m_Closed : mg "Closed" = some (.ref (cl "Closed"))) (m_NoBook : mg "NoBook" = some (.ref (cl "NoBook"))) (m_NoModes : mg "NoModes" = some (.ref (cl "NoModes"))) (m_NoPlace : mg "NoPlace" = some (.ref (cl "NoPlace"))) (m_NoTable : mg "NoTable" = some (.ref (cl "NoTable"))) (m_NoText : mg "NoText" = some (.ref (cl "NoText"))) (m_ReachError : mg "ReachError" = some (.ref (cl "ReachError"))) (m_TooHeavy : mg "TooHeavy" = some (.ref (cl "TooHeavy"))) (m_TooMany : mg "TooMany" = some (.ref (cl "TooMany"))) (m_Unlike : mg "Unlike" = some (.ref (cl "Unlike"))) (F_hT : ExH K cl hT) (F_iT : ExI K cl iT) (F_pairs : FnG P w K mg base ⟨K, cl⟩ "pairs" 4 2 m_pairs) (F_pairs_hold : FnG P w K mg base ⟨K, cl⟩ "pairs_hold" 4 3 m_pairs_hold) : FnOk P w K mg base (L2.CX P w) 5 f fd ["_law_one", "_law_other", "_law_road", "_law_rows"] (FSp ⟨K, cl⟩ 4 m__law_refused) :=
  fnPM F sc__law_refused rfl fun cdv A outer s H E hr tk hp => mss_cons (ms_set 4 sc__law_refused.nd (me_bl))
    (mss_cons (ms_tryAs 5 rfl rfl sc__law_refused.nd F_hT m_ReachError tk (fun W pn xe tk hp => mss_one (ms_if (mt_cmp (op_eqP hr.units) (dEq_ok rfl) (me_var 2) (me_int)) (mss_one (ms_expr (me_callG F_pairs hr (by decide) tk (ma_cons (me_var 0) (ma_cons (me_var 1) (ma_nil)))))) (mss_one (ms_expr (me_callG F_pairs_hold hr (by decide) tk (ma_cons (me_var 0) (ma_cons (me_var 1) (ma_cons (me_var 3) (ma_nil))))))))) (fun c a oe pn hz hf => mss_cons (ms_set 4 sc__law_refused.nd (me_and (me_isE 5 hz hf F_iT z_isinstance (.own rfl m_Unlike (by decide) (by decide) (.nil))) (me_one (me_isE 5 hz hf F_iT z_isinstance (.val rfl z_ValueError (.nil))))))
    (mss_one (ms_if (mt_val rfl (me_isET 5 hz hf F_iT z_isinstance (.own rfl m_Closed (by decide) (by decide) (.own rfl m_NoBook (by decide) (by decide) (.own rfl m_NoModes (by decide) (by decide) (.own rfl m_NoPlace (by decide) (by decide) (.own rfl m_NoTable (by decide) (by decide) (.own rfl m_NoText (by decide) (by decide) (.own rfl m_TooHeavy (by decide) (by decide) (.own rfl m_TooMany (by decide) (by decide) (.nil))))))))))) (mss_one (ms_set 4 sc__law_refused.nd (me_bl))) (mss_nil)))))
    (mss_one (ms_ret (me_var 4))))
theorem ok__law_refused {P : Program} {w : World} {K : PySem.W.Frag} {mg : Str → Option Value} {base : Heap} {cl : Str → Addr} (d : DefAt K mg "_law_refused" (topS 36) ["_law_one", "_law_other", "_law_road", "_law_rows"]) (z_isinstance : mg "isinstance" = none) (z_ValueError : mg "ValueError" = none) (m_Closed : mg "Closed" = some (.ref (cl "Closed"))) (m_NoBook : mg "NoBook" = some (.ref (cl "NoBook"))) (m_NoModes : mg "NoModes" = some (.ref (cl "NoModes"))) (m_NoPlace : mg "NoPlace" = some (.ref (cl "NoPlace"))) (m_NoTable : mg "NoTable" = some (.ref (cl "NoTable"))) (m_NoText : mg "NoText" = some (.ref (cl "NoText"))) (m_ReachError : mg "ReachError" = some (.ref (cl "ReachError"))) (m_TooHeavy : mg "TooHeavy" = some (.ref (cl "TooHeavy"))) (m_TooMany : mg "TooMany" = some (.ref (cl "TooMany"))) (m_Unlike : mg "Unlike" = some (.ref (cl "Unlike"))) (F_hT : ExH K cl hT) (F_iT : ExI K cl iT) (F_pairs : FnG P w K mg base ⟨K, cl⟩ "pairs" 4 2 m_pairs) (F_pairs_hold : FnG P w K mg base ⟨K, cl⟩ "pairs_hold" 4 3 m_pairs_hold) : FnG P w K mg base ⟨K, cl⟩ "_law_refused" 5 4 m__law_refused := d.fn fun f fd F => okf__law_refused F z_isinstance z_ValueError m_Closed m_NoBook m_NoModes m_NoPlace m_NoTable m_NoText m_ReachError m_TooHeavy m_TooMany m_Unlike F_hT F_iT F_pairs F_pairs_hold
/-! _law_same -/
noncomputable def b__law_same_1 (r__law_same : MF) : MS := msIf (mNot (mTr (mCall 2 (r__law_same) (mCons (mVar 2) (mCons (mVar 3) (mNil)))))) (msRet (mC (.bl false))) (msNil)
noncomputable def B__law_same (r__law_same : MF) : MF := fnM 4 (msCons (msIf (mTr (mIs "tuple" (mVar 1))) (msCons (msIf (mOr (mNot (mTr (mIs "tuple" (mVar 0)))) (mTb (mOp (dEq true) (mB bLen (mCons (mVar 0) (mNil))) (mB bLen (mCons (mVar 1) (mNil)))))) (msRet (mC (.bl false))) (msNil))
    (msCons (msFor (iZip (mCons (mVar 0) (mCons (mVar 1) (mNil)))) (gSets [2, 3]) (b__law_same_1 r__law_same))
    (msRet (mC (.bl true))))) (msNil))
    (msCons (msIf (mTr (mIs "str" (mVar 1))) (msRet (mAndV (mIs "str" (mVar 0)) (mOp (dEq false) (mVar 0) (mVar 1)))) (msNil))
    (msRet (mAndV (mIs "int" (mVar 0)) (mAndV (mNotV (mIs "bool" (mVar 0))) (mOp (dEq false) (mVar 0) (mVar 1)))))))
theorem sc__law_same : FnScope ["_law_found", "_law_due", "_law_one", "_law_other"] ["_law_found", "_law_due"] (defScope (topS 35)) := ⟨rfl, rfl, rfl, by decide +kernel, rfl, by decide +kernel, by decide +kernel⟩
theorem okf__law_same {P : Program} {w : World} {K : PySem.W.Frag} {mg : Str → Option Value} {base : Heap} {cl : Str → Addr} {k : Nat} {r__law_same : MF} (hk : 0 ≤ k) {f : Addr} {fd : FuncData} (F : Fun K "_law_same" "_law_same" (topS 35) f fd) (z_isinstance : mg "isinstance" = none) (z_tuple : mg "tuple" = none) (z_len : mg "len" = none) (z_zip : mg "zip" = none) (z_str : mg "str" = none) (z_int : mg "int" = none) (z_bool : mg "bool" = none) (F__law_same : FnG P w K mg base ⟨K, cl⟩ "_law_same" k 2 r__law_same) : FnOk P w K mg base (L2.CX P w) (k + 1) f fd ["_law_found", "_law_due"] (FSp ⟨K, cl⟩ 2 (B__law_same r__law_same)) :=
  fnPM F sc__law_same rfl fun cdv A outer s H E hr tk hp => mss_cons (ms_if (mt_val rfl (me_is rfl (me_var 1) z_isinstance z_tuple)) (mss_cons (ms_if (mt_w (mw_or (mt_not (mt_val rfl (me_is rfl (me_var 0) z_isinstance z_tuple))) (mw_or1 (mt_cmp (op_neP hr.units) (dNe_ok rfl) (me_callB call_lenA bLen_ok z_len (by decide +kernel) (ma_cons (me_var 0) (ma_nil))) (me_callB call_lenA bLen_ok z_len (by decide +kernel) (ma_cons (me_var 1) (ma_nil))))))) (mss_one (ms_ret (me_bl))) (mss_nil))
    (mss_cons (ms_for rfl hp (mi_zip rfl (ma_cons (me_var 0) (ma_cons (me_var 1) (ma_nil))) z_zip) (mg_tup rfl rfl (.cons (pg_name (i := 2) sc__law_same.nd rfl (by first | exact Or.inl rfl | exact Or.inr rfl)) (.cons (pg_name (i := 3) sc__law_same.nd rfl (by first | exact Or.inl rfl | exact Or.inr rfl)) (.nil) rfl) rfl)) (mss_one (ms_if (mt_not (mt_val rfl (me_callG F__law_same hr (Nat.le_refl _) tk (ma_cons (me_var 2) (ma_cons (me_var 3) (ma_nil)))))) (mss_one (ms_ret (me_bl))) (mss_nil))))
    (mss_one (ms_ret (me_bl))))) (mss_nil))
    (mss_cons (ms_if (mt_val rfl (me_is rfl (me_var 1) z_isinstance z_str)) (mss_one (ms_ret (me_and (me_is rfl (me_var 0) z_isinstance z_str) (me_one (me_cmp (op_eqP hr.units) (dEq_ok rfl) (me_var 0) (me_var 1)))))) (mss_nil))
    (mss_one (ms_ret (me_and (me_is rfl (me_var 0) z_isinstance z_int) (me_and (me_not (me_is rfl (me_var 0) z_isinstance z_bool)) (me_one (me_cmp (op_eqP hr.units) (dEq_ok rfl) (me_var 0) (me_var 1))))))))
noncomputable def scc__law_same : Nat → MF
  | 0 => (mNo)
  | n + 1 => (B__law_same (scc__law_same n))
noncomputable def m__law_same (n : Nat) : MF := (scc__law_same n)
theorem m__law_same_succ (n : Nat) : m__law_same (n + 1) = B__law_same (m__law_same n) := rfl
theorem ok_scc__law_same {P : Program} {w : World} {K : PySem.W.Frag} {mg : Str → Option Value} {base : Heap} {cl : Str → Addr} (d__law_same : DefAt K mg "_law_same" (topS 35) ["_law_found", "_law_due"]) (z_isinstance : mg "isinstance" = none) (z_tuple : mg "tuple" = none) (z_len : mg "len" = none) (z_zip : mg "zip" = none) (z_str : mg "str" = none) (z_int : mg "int" = none) (z_bool : mg "bool" = none) (n : Nat) : FnG P w K mg base ⟨K, cl⟩ "_law_same" (0 + n) 2 (m__law_same n) := by
  induction n with
  | zero => exact fnG_no d__law_same rfl
  | succ n ih => exact d__law_same.fn fun f fd F => okf__law_same (Nat.le_add_right _ _) F z_isinstance z_tuple z_len z_zip z_str z_int z_bool ih
/-! law -/
noncomputable def e_law_1 : ME := mVar 13
noncomputable def t_law_2 : MT := mTb (mOp (dEq false) (mOp dIx (mOp dIx (mVar 2) (mC (.int 2))) (mVar 15)) (mOp dIx (mOp dIx (mVar 3) (mC (.int 2))) (mVar 16)))
noncomputable def e_law_3 : ME := mTup (mCons (mVar 15) (mCons (mVar 16) (mNil)))
noncomputable def e_law_4 : ME := mCall 4 (m__law_bent_rows) (mCons (mVar 1) (mCons (mVar 2) (mCons (mVar 3) (mCons (mVar 8) (mNil)))))
noncomputable def b_law_5 : MS := msCons (msSet 12 (mCall 3 (m_pairs_hold) (mCons (mVar 2) (mCons (mVar 3) (mCons (mVar 11) (mNil))))))
    (msIf (mOr (mNot (mTr (mIs "bool" (mVar 12)))) (mTb (mOp (dEq true) (mVar 12) (mCall 3 (m__law_holds) (mCons (mVar 2) (mCons (mVar 3) (mCons (mVar 11) (mNil)))))))) (msRet (mC (.bl false))) (msNil))
noncomputable def b_law_6 : MS := msIf (mOr (mNot (mTr (mCall 4 (m__law_refused) (mCons (mVar 2) (mCons (mVar 4) (mCons (mC (.int 1)) (mCons (mVar 11) (mNil)))))))) (mNot (mTr (mCall 4 (m__law_refused) (mCons (mVar 4) (mCons (mVar 2) (mCons (mC (.int 1)) (mCons (mVar 11) (mNil))))))))) (msRet (mC (.bl false))) (msNil)
noncomputable def m_law : MF := fnM 18 (msCons (msSet 1 (mCall 1 (m__law_pen) (mCons (mVar 0) (mNil))))
    (msCons (msSetT (gSets [2, 3]) (mCall 1 (m__law_two) (mCons (mVar 1) (mNil))))
    (msCons (msSet 4 (mCall 2 (m__law_other_tongue) (mCons (mVar 1) (mCons (mVar 3) (mNil)))))
    (msCons (msSet 5 (mFz (mLc (iSeq (mCall 2 (m__law_met) (mCons (mVar 2) (mCons (mVar 3) (mNil))))) (gSets [13, 14]) mYes e_law_1 [13, 14])))
    (msCons (msSet 6 (mCall 2 (m_pairs) (mCons (mVar 2) (mCons (mVar 3) (mNil)))))
    (msCons (msIf (mTb (mOp (dIsN true) (mCall 2 (m__law_parted) (mCons (mVar 2) (mCons (mVar 3) (mNil)))) (mC .non))) (msIf (mOr (mTb (mOp (dIsN true) (mVar 6) (mC .non))) (mTb (mOp (dIsN true) (mCall 2 (m_pairs) (mCons (mVar 3) (mCons (mVar 2) (mNil)))) (mC .non)))) (msRet (mC (.bl false))) (msNil)) (msIf (mNot (mTr (mCall 2 ((m__law_same 24)) (mCons (mVar 6) (mCons (mB bTupleX (mCons (mFz (mB bSortedV (mCons (mVar 5) (mNil)))) (mNil))) (mNil)))))) (msRet (mC (.bl false))) (msNil)))
    (msCons (msSet 7 (mCall 2 (m__law_take) (mCons (mVar 1) (mCons (mB bLen (mCons (mVar 5) (mNil))) (mNil)))))
    (msCons (msSet 8 (mB bTupleX (mCons (mFz (mOp dAdd (mFz (mSlice (mVar 5) (moSome (mVar 7)) (moNone))) (mFz (mSlice (mVar 5) (moNone) (moSome (mOp dAdd (mVar 7) (mC (.int 1)))))))) (mNil))))
    (msCons (msSet 9 (mFz (mLc (iSeq (mCall 2 (m__law_every) (mCons (mVar 2) (mCons (mVar 3) (mNil))))) (gSets [15, 16]) t_law_2 e_law_3 [15, 16])))
    (msCons (msSet 10 (mFz (mOp dAdd (mFz (mLst (mCons (mVar 8) (mCons (mB bTupleX (mCons (mFz (mSlice (mVar 9) (moNone) (moSome (mC (.int 1000))))) (mNil))) (mNil))))) (mFz (mLc (iRange1 (mCons (mC (.int 5)) (mNil))) (gSet 17) mYes e_law_4 [17])))))
    (msCons (msFor (iSeq (mFz (mOp dAdd (mVar 10) (mFz (mLst (mCons (mVar 8) (mNil))))))) (gSet 11) b_law_5)
    (msCons (msFor (iSeq (mTup (mCons (mOp dIx (mVar 10) (mCall 2 (m__law_take) (mCons (mVar 1) (mCons (mC (.int 7)) (mNil))))) (mCons (mC .non) (mCons (mVar 8) (mCons (mTup (mCons (mTup (mCons (mC (.int 0)) (mCons (mC (.int 0)) (mNil)))) (mNil))) (mNil))))))) (gSet 11) b_law_6)
    (msCons (msIf (mNot (mTr (mCall 4 (m__law_refused) (mCons (mVar 2) (mCons (mVar 4) (mCons (mC (.int 0)) (mCons (mTup (mNil)) (mNil)))))))) (msRet (mC (.bl false))) (msNil))
    (msRet (mOp (dEq false) (mVar 8) (mB bTupleX (mCons (mFz (mOp dAdd (mFz (mSlice (mVar 5) (moSome (mVar 7)) (moNone))) (mFz (mSlice (mVar 5) (moNone) (moSome (mOp dAdd (mVar 7) (mC (.int 1)))))))) (mNil))))))))))))))))))
theorem sc_law : FnScope ["_law_script", "_law_pen_here", "_law_one", "_law_other", "_law_third", "_law_met_here", "_law_found", "_law_at", "_law_rows", "_law_every_here", "_law_some_here", "_law_thing", "_law_told", "_law_pair", "_law_word", "_law_a", "_law_b", "_law_k"] ["_law_script"] (defScope (topS 41)) := ⟨rfl, rfl, rfl, by decide +kernel, rfl, by decide +kernel, by decide +kernel⟩
theorem okf_law {P : Program} {w : World} {K : PySem.W.Frag} {mg : Str → Option Value} {base : Heap} {cl : Str → Addr} {f : Addr} {fd : FuncData} (F : Fun K "law" "law" (topS 41) f fd) (z_sorted : mg "sorted" = none) (z_tuple : mg "tuple" = none) (z_len : mg "len" = none) (z_range : mg "range" = none) (z_isinstance : mg "isinstance" = none) (z_bool : mg "bool" = none) (F__law_pen : FnG P w K mg base ⟨K, cl⟩ "_law_pen" 1 1 m__law_pen) (F__law_two : FnG P w K mg base ⟨K, cl⟩ "_law_two" 3 1 m__law_two) (F__law_other_tongue : FnG P w K mg base ⟨K, cl⟩ "_law_other_tongue" 2 2 m__law_other_tongue) (F__law_met : FnG P w K mg base ⟨K, cl⟩ "_law_met" 1 2 m__law_met) (F_pairs : FnG P w K mg base ⟨K, cl⟩ "pairs" 4 2 m_pairs) (F__law_parted : FnG P w K mg base ⟨K, cl⟩ "_law_parted" 2 2 m__law_parted) (F__law_same : FnG P w K mg base ⟨K, cl⟩ "_law_same" 24 2 (m__law_same 24)) (F__law_take : FnG P w K mg base ⟨K, cl⟩ "_law_take" 1 2 m__law_take) (F__law_every : FnG P w K mg base ⟨K, cl⟩ "_law_every" 1 2 m__law_every) (F__law_bent_rows : FnG P w K mg base ⟨K, cl⟩ "_law_bent_rows" 2 4 m__law_bent_rows) (F_pairs_hold : FnG P w K mg base ⟨K, cl⟩ "pairs_hold" 4 3 m_pairs_hold) (F__law_holds : FnG P w K mg base ⟨K, cl⟩ "_law_holds" 2 3 m__law_holds) (F__law_refused : FnG P w K mg base ⟨K, cl⟩ "_law_refused" 5 4 m__law_refused) : FnOk P w K mg base (L2.CX P w) 25 f fd ["_law_script"] (FSp ⟨K, cl⟩ 1 m_law) :=
  fnPM F sc_law rfl fun cdv A outer s H E hr tk hp => mss_cons (ms_set 1 sc_law.nd (me_callG F__law_pen hr (by decide) tk (ma_cons (me_var 0) (ma_nil))))
    (mss_cons (ms_setT (me_callG F__law_two hr (by decide) tk (ma_cons (me_var 1) (ma_nil))) (mg_tup rfl rfl (.cons (pg_name (i := 2) sc_law.nd rfl (by first | exact Or.inl rfl | exact Or.inr rfl)) (.cons (pg_name (i := 3) sc_law.nd rfl (by first | exact Or.inl rfl | exact Or.inr rfl)) (.nil) rfl) rfl)))
    (mss_cons (ms_set 4 sc_law.nd (me_callG F__law_other_tongue hr (by decide) tk (ma_cons (me_var 1) (ma_cons (me_var 3) (ma_nil)))))
    (mss_cons (ms_setF (ms_setLc 5 (own := [("_law_pair", 13), ("_law_word", 14)]) rfl sc_law.nd (mi_seq rfl (me_callG F__law_met hr (by decide) tk (ma_cons (me_var 2) (ma_cons (me_var 3) (ma_nil))))) (blkOk_by (N := ["_law_script", "_law_pen_here", "_law_one", "_law_other", "_law_third", "_law_met_here", "_law_found", "_law_at", "_law_rows", "_law_every_here", "_law_some_here", "_law_thing", "_law_told", "_law_pair", "_law_word", "_law_a", "_law_b", "_law_k"]) (sc := defScope (topS 41)) (by decide +kernel)) (fun _ _ _ _ _ => mg_tup rfl rfl (.cons (pg_name (i := 13) sc_law.nd rfl (by first | exact Or.inl rfl | exact Or.inr rfl)) (.cons (pg_name (i := 14) sc_law.nd rfl (by first | exact Or.inl rfl | exact Or.inr rfl)) (.nil) rfl) rfl)) (fun _ _ _ _ _ => mts_nil) (fun _ _ _ _ _ => me_var 13) (sw_true rfl rfl rfl (by decide +kernel))))
    (mss_cons (ms_set 6 sc_law.nd (me_callG F_pairs hr (by decide) tk (ma_cons (me_var 2) (ma_cons (me_var 3) (ma_nil)))))
    (mss_cons (ms_if (mt_cmp op_isnotA dIsnot_ok (me_callG F__law_parted hr (by decide) tk (ma_cons (me_var 2) (ma_cons (me_var 3) (ma_nil)))) (me_non)) (mss_one (ms_if (mt_w (mw_or (mt_cmp op_isnotA dIsnot_ok (me_var 6) (me_non)) (mw_or1 (mt_cmp op_isnotA dIsnot_ok (me_callG F_pairs hr (by decide) tk (ma_cons (me_var 3) (ma_cons (me_var 2) (ma_nil)))) (me_non))))) (mss_one (ms_ret (me_bl))) (mss_nil))) (mss_one (ms_if (mt_not (mt_val rfl (me_callG F__law_same hr (by decide) tk (ma_cons (me_var 6) (ma_cons (me_callT (call_tupleX rfl) bTupleX_ok z_tuple (by decide +kernel) (ma_cons (me_fz (me_callB (call_sortedV rfl) bSortedV_ok z_sorted (by decide +kernel) (ma_cons (me_var 5) (ma_nil)))) (ma_nil))) (ma_nil)))))) (mss_one (ms_ret (me_bl))) (mss_nil))))
    (mss_cons (ms_set 7 sc_law.nd (me_callG F__law_take hr (by decide) tk (ma_cons (me_var 1) (ma_cons (me_callB call_lenA bLen_ok z_len (by decide +kernel) (ma_cons (me_var 5) (ma_nil))) (ma_nil)))))
    (mss_cons (ms_set 8 sc_law.nd (me_callT (call_tupleX rfl) bTupleX_ok z_tuple (by decide +kernel) (ma_cons (me_fz (me_add rfl (me_fz (me_slice rfl (me_var 5) (moS (me_var 7)) (moN))) (me_fz (me_slice rfl (me_var 5) (moN) (moS (me_add rfl (me_var 7) (me_int))))))) (ma_nil))))
    (mss_cons (ms_setF (ms_setLc 9 (own := [("_law_a", 15), ("_law_b", 16)]) rfl sc_law.nd (mi_seq rfl (me_callG F__law_every hr (by decide) tk (ma_cons (me_var 2) (ma_cons (me_var 3) (ma_nil))))) (blkOk_by (N := ["_law_script", "_law_pen_here", "_law_one", "_law_other", "_law_third", "_law_met_here", "_law_found", "_law_at", "_law_rows", "_law_every_here", "_law_some_here", "_law_thing", "_law_told", "_law_pair", "_law_word", "_law_a", "_law_b", "_law_k"]) (sc := defScope (topS 41)) (by decide +kernel)) (fun _ _ _ _ _ => mg_tup rfl rfl (.cons (pg_name (i := 15) sc_law.nd rfl (by first | exact Or.inl rfl | exact Or.inr rfl)) (.cons (pg_name (i := 16) sc_law.nd rfl (by first | exact Or.inl rfl | exact Or.inr rfl)) (.nil) rfl) rfl)) (fun _ _ _ _ _ => mts_one (mt_cmp (op_eqP hr.units) (dEq_ok rfl) (me_ix rfl (me_ix rfl (me_var 2) (me_int)) (me_var 15)) (me_ix rfl (me_ix rfl (me_var 3) (me_int)) (me_var 16)))) (fun _ _ _ _ _ => me_tup (ma_cons (me_var 15) (ma_cons (me_var 16) (ma_nil)))) (sw_true rfl rfl rfl (by decide +kernel))))
    (mss_cons (ms_set 10 sc_law.nd (me_fz (me_add rfl (me_fz (me_lst (ma_cons (me_var 8) (ma_cons (me_callT (call_tupleX rfl) bTupleX_ok z_tuple (by decide +kernel) (ma_cons (me_fz (me_slice rfl (me_var 9) (moN) (moS (me_int)))) (ma_nil))) (ma_nil))))) (me_fz (me_lc (own := [("_law_k", 17)]) rfl sc_law.nd (mi_range1 (ma_cons (me_int) (ma_nil)) z_range) (blkOk_by (N := ["_law_script", "_law_pen_here", "_law_one", "_law_other", "_law_third", "_law_met_here", "_law_found", "_law_at", "_law_rows", "_law_every_here", "_law_some_here", "_law_thing", "_law_told", "_law_pair", "_law_word", "_law_a", "_law_b", "_law_k"]) (sc := defScope (topS 41)) (by decide +kernel)) (fun _ _ _ _ _ => mg_name 17 sc_law.nd) (fun _ _ _ _ _ => mts_nil) (fun _ _ _ _ _ => me_callG F__law_bent_rows hr (by decide) takes0 (ma_cons (me_var 1) (ma_cons (me_var 2) (ma_cons (me_var 3) (ma_cons (me_var 8) (ma_nil)))))))))))
    (mss_cons (ms_for rfl hp (mi_seq rfl (me_fz (me_add rfl (me_var 10) (me_fz (me_lst (ma_cons (me_var 8) (ma_nil))))))) (mg_name 11 sc_law.nd) (mss_cons (ms_set 12 sc_law.nd (me_callG F_pairs_hold hr (by decide) tk (ma_cons (me_var 2) (ma_cons (me_var 3) (ma_cons (me_var 11) (ma_nil))))))
    (mss_one (ms_if (mt_w (mw_or (mt_not (mt_val rfl (me_is rfl (me_var 12) z_isinstance z_bool))) (mw_or1 (mt_cmp (op_neP hr.units) (dNe_ok rfl) (me_var 12) (me_callG F__law_holds hr (by decide) tk (ma_cons (me_var 2) (ma_cons (me_var 3) (ma_cons (me_var 11) (ma_nil))))))))) (mss_one (ms_ret (me_bl))) (mss_nil)))))
    (mss_cons (ms_for rfl hp (mi_seq rfl (me_tup (ma_cons (me_ix rfl (me_var 10) (me_callG F__law_take hr (by decide) tk (ma_cons (me_var 1) (ma_cons (me_int) (ma_nil))))) (ma_cons (me_non) (ma_cons (me_var 8) (ma_cons (me_tup (ma_cons (me_tup (ma_cons (me_int) (ma_cons (me_int) (ma_nil)))) (ma_nil))) (ma_nil))))))) (mg_name 11 sc_law.nd) (mss_one (ms_if (mt_w (mw_or (mt_not (mt_val rfl (me_callG F__law_refused hr (by decide) tk (ma_cons (me_var 2) (ma_cons (me_var 4) (ma_cons (me_int) (ma_cons (me_var 11) (ma_nil)))))))) (mw_or1 (mt_not (mt_val rfl (me_callG F__law_refused hr (by decide) tk (ma_cons (me_var 4) (ma_cons (me_var 2) (ma_cons (me_int) (ma_cons (me_var 11) (ma_nil))))))))))) (mss_one (ms_ret (me_bl))) (mss_nil))))
    (mss_cons (ms_if (mt_not (mt_val rfl (me_callG F__law_refused hr (by decide) tk (ma_cons (me_var 2) (ma_cons (me_var 4) (ma_cons (me_int) (ma_cons (me_tup (ma_nil)) (ma_nil)))))))) (mss_one (ms_ret (me_bl))) (mss_nil))
    (mss_one (ms_ret (me_cmp (op_eqP hr.units) (dEq_ok rfl) (me_var 8) (me_callT (call_tupleX rfl) bTupleX_ok z_tuple (by decide +kernel) (ma_cons (me_fz (me_add rfl (me_fz (me_slice rfl (me_var 5) (moS (me_var 7)) (moN))) (me_fz (me_slice rfl (me_var 5) (moN) (moS (me_add rfl (me_var 7) (me_int))))))) (ma_nil))))))))))))))))))
/-! the end -/
theorem all_ok {P : Program} {w : World} {K : PySem.W.Frag} {mg : Str → Option Value} {base : Heap} (cl : Str → Addr) (z_ValueError : mg "ValueError" = none) (z_abs : mg "abs" = none) (z_all : mg "all" = none) (z_bool : mg "bool" = none) (z_enumerate : mg "enumerate" = none) (z_int : mg "int" = none) (z_isinstance : mg "isinstance" = none) (z_len : mg "len" = none) (z_list : mg "list" = none) (z_min : mg "min" = none) (z_range : mg "range" = none) (z_sorted : mg "sorted" = none) (z_str : mg "str" = none) (z_tuple : mg "tuple" = none) (z_zip : mg "zip" = none) (x_Unlike : ExC1 K mg "Unlike" (cl "Unlike")) (m_Closed : mg "Closed" = some (.ref (cl "Closed"))) (m_NoBook : mg "NoBook" = some (.ref (cl "NoBook"))) (m_NoModes : mg "NoModes" = some (.ref (cl "NoModes"))) (m_NoPlace : mg "NoPlace" = some (.ref (cl "NoPlace"))) (m_NoTable : mg "NoTable" = some (.ref (cl "NoTable"))) (m_NoText : mg "NoText" = some (.ref (cl "NoText"))) (m_ReachError : mg "ReachError" = some (.ref (cl "ReachError"))) (m_TooHeavy : mg "TooHeavy" = some (.ref (cl "TooHeavy"))) (m_TooMany : mg "TooMany" = some (.ref (cl "TooMany"))) (m_Unlike : mg "Unlike" = some (.ref (cl "Unlike"))) (F_hT : ExH K cl hT) (F_iT : ExI K cl iT) (d_is_number : DefAt K mg "is_number" (topS 12) ["thing"]) (d_asked_alike : DefAt K mg "asked_alike" (topS 15) ["one", "other"]) (d_together : DefAt K mg "together" (topS 16) ["one", "other"]) (d__law_pen : DefAt K mg "_law_pen" (topS 23) ["_law_script"]) (d__law_take : DefAt K mg "_law_take" (topS 24) ["_law_pen_here", "_law_many"]) (d__law_signs : DefAt K mg "_law_signs" (topS 25) []) (d__law_cut_down : DefAt K mg "_law_cut_down" (topS 27) ["_law_tongue", "_law_goes", "_law_kinds", "_law_turn"]) (d__law_met : DefAt K mg "_law_met" (topS 32) ["_law_one", "_law_other"]) (d__law_is_pair : DefAt K mg "_law_is_pair" (topS 37) ["_law_one", "_law_other", "_law_pair"]) (d__law_every : DefAt K mg "_law_every" (topS 40) ["_law_one", "_law_other"]) (d_is_numbers : DefAt K mg "is_numbers" (topS 13) ["thing"]) (d_first_parted : DefAt K mg "first_parted" (topS 17) ["one", "other", "marks", "others"]) (d__law_some : DefAt K mg "_law_some" (topS 26) ["_law_pen_here", "_law_rest", "_law_most"]) (d__law_table : DefAt K mg "_law_table" (topS 28) ["_law_pen_here", "_law_tongue", "_law_most"]) (d__law_doubled : DefAt K mg "_law_doubled" (topS 29) ["_law_pen_here", "_law_table_here"]) (d__law_bent : DefAt K mg "_law_bent" (topS 30) ["_law_pen_here", "_law_table_here"]) (d__law_parted : DefAt K mg "_law_parted" (topS 33) ["_law_one", "_law_other"]) (d__law_other_tongue : DefAt K mg "_law_other_tongue" (topS 34) ["_law_pen_here", "_law_table_here"]) (d__law_holds : DefAt K mg "_law_holds" (topS 38) ["_law_one", "_law_other", "_law_rows"]) (d__law_bent_rows : DefAt K mg "_law_bent_rows" (topS 39) ["_law_pen_here", "_law_one", "_law_other", "_law_rows"]) (d_parted : DefAt K mg "parted" (topS 18) ["one", "other"]) (d_is_pair : DefAt K mg "is_pair" (topS 20) ["one", "other", "thing"]) (d__law_two : DefAt K mg "_law_two" (topS 31) ["_law_pen_here"]) (d_pairs : DefAt K mg "pairs" (topS 19) ["one", "other"]) (d_pairs_hold : DefAt K mg "pairs_hold" (topS 21) ["one", "other", "rows"]) (d__law_refused : DefAt K mg "_law_refused" (topS 36) ["_law_one", "_law_other", "_law_road", "_law_rows"]) (d__law_same : DefAt K mg "_law_same" (topS 35) ["_law_found", "_law_due"]) {f : Addr} {fd : FuncData} (F : Fun K "law" "law" (topS 41) f fd) : FnOk P w K mg base (L2.CX P w) 25 f fd ["_law_script"] (FSp ⟨K, cl⟩ 1 m_law) := by
  have F_is_number : FnG P w K mg base ⟨K, cl⟩ "is_number" 1 1 m_is_number := ok_is_number d_is_number z_isinstance z_int z_bool
  have F_asked_alike : FnG P w K mg base ⟨K, cl⟩ "asked_alike" 1 2 m_asked_alike := ok_asked_alike d_asked_alike x_Unlike
  have F_together : FnG P w K mg base ⟨K, cl⟩ "together" 1 2 m_together := ok_together d_together z_len z_enumerate
  have F__law_pen : FnG P w K mg base ⟨K, cl⟩ "_law_pen" 1 1 m__law_pen := ok__law_pen d__law_pen
  have F__law_take : FnG P w K mg base ⟨K, cl⟩ "_law_take" 1 2 m__law_take := ok__law_take d__law_take z_len z_abs z_int
  have F__law_signs : FnG P w K mg base ⟨K, cl⟩ "_law_signs" 1 0 m__law_signs := ok__law_signs d__law_signs
  have F__law_cut_down : FnG P w K mg base ⟨K, cl⟩ "_law_cut_down" 1 4 m__law_cut_down := ok__law_cut_down d__law_cut_down z_len z_tuple
  have F__law_met : FnG P w K mg base ⟨K, cl⟩ "_law_met" 1 2 m__law_met := ok__law_met d__law_met z_len z_range
  have F__law_is_pair : FnG P w K mg base ⟨K, cl⟩ "_law_is_pair" 1 3 m__law_is_pair := ok__law_is_pair d__law_is_pair z_isinstance z_tuple z_len z_zip z_int z_bool
  have F__law_every : FnG P w K mg base ⟨K, cl⟩ "_law_every" 1 2 m__law_every := ok__law_every d__law_every z_len z_range
  have F_is_numbers : FnG P w K mg base ⟨K, cl⟩ "is_numbers" 2 1 m_is_numbers := ok_is_numbers d_is_numbers z_isinstance z_tuple F_is_number
  have F_first_parted : FnG P w K mg base ⟨K, cl⟩ "first_parted" 2 4 m_first_parted := ok_first_parted d_first_parted F_together
  have F__law_some : FnG P w K mg base ⟨K, cl⟩ "_law_some" 2 3 m__law_some := ok__law_some d__law_some z_range z_len F__law_take
  have F__law_table : FnG P w K mg base ⟨K, cl⟩ "_law_table" 2 3 m__law_table := ok__law_table d__law_table z_range z_len z_min F__law_take F__law_cut_down
  have F__law_doubled : FnG P w K mg base ⟨K, cl⟩ "_law_doubled" 2 2 m__law_doubled := ok__law_doubled d__law_doubled z_len z_range z_list F__law_take F__law_cut_down
  have F__law_bent : FnG P w K mg base ⟨K, cl⟩ "_law_bent" 2 2 m__law_bent := ok__law_bent d__law_bent z_list z_len F__law_take F__law_cut_down
  have F__law_parted : FnG P w K mg base ⟨K, cl⟩ "_law_parted" 2 2 m__law_parted := ok__law_parted d__law_parted F__law_met
  have F__law_other_tongue : FnG P w K mg base ⟨K, cl⟩ "_law_other_tongue" 2 2 m__law_other_tongue := ok__law_other_tongue d__law_other_tongue z_len z_enumerate z_tuple F__law_signs F__law_take
  have F__law_holds : FnG P w K mg base ⟨K, cl⟩ "_law_holds" 2 3 m__law_holds := ok__law_holds d__law_holds z_isinstance z_tuple z_len z_range F__law_is_pair
  have F__law_bent_rows : FnG P w K mg base ⟨K, cl⟩ "_law_bent_rows" 2 4 m__law_bent_rows := ok__law_bent_rows d__law_bent_rows z_len z_list F__law_take
  have F_parted : FnG P w K mg base ⟨K, cl⟩ "parted" 3 2 m_parted := ok_parted d_parted F_asked_alike F_first_parted
  have F_is_pair : FnG P w K mg base ⟨K, cl⟩ "is_pair" 3 3 m_is_pair := ok_is_pair d_is_pair z_len F_is_numbers
  have F__law_two : FnG P w K mg base ⟨K, cl⟩ "_law_two" 3 1 m__law_two := ok__law_two d__law_two F__law_take F__law_some F__law_signs F__law_table F__law_doubled F__law_bent
  have F_pairs : FnG P w K mg base ⟨K, cl⟩ "pairs" 4 2 m_pairs := ok_pairs d_pairs z_sorted z_tuple F_parted F_together
  have F_pairs_hold : FnG P w K mg base ⟨K, cl⟩ "pairs_hold" 4 3 m_pairs_hold := ok_pairs_hold d_pairs_hold z_isinstance z_tuple z_all z_zip F_asked_alike F_is_pair
  have F__law_refused : FnG P w K mg base ⟨K, cl⟩ "_law_refused" 5 4 m__law_refused := ok__law_refused d__law_refused z_isinstance z_ValueError m_Closed m_NoBook m_NoModes m_NoPlace m_NoTable m_NoText m_ReachError m_TooHeavy m_TooMany m_Unlike F_hT F_iT F_pairs F_pairs_hold
  have F__law_same : FnG P w K mg base ⟨K, cl⟩ "_law_same" 24 2 (m__law_same 24) := (ok_scc__law_same d__law_same z_isinstance z_tuple z_len z_zip z_str z_int z_bool 24)
  exact okf_law F z_sorted z_tuple z_len z_range z_isinstance z_bool F__law_pen F__law_two F__law_other_tongue F__law_met F_pairs F__law_parted F__law_same F__law_take F__law_every F__law_bent_rows F_pairs_hold F__law_holds F__law_refused
end NR

set_option Elab.async false
set_option linter.all false
set_option maxRecDepth 100000
set_option maxHeartbeats 1000000
/-! What the functions come to: equations for simp. -/
namespace NR
open PySem PySem.Spec PyProof.Rows L2
@[simp] theorem get_zero {A : Type} {a : A} {l : List A} : (a :: l)[0]? = some a := (rfl)
section
variable {A B : Type} {env : EV} {h h' : IH} {i j : Nat} {d x y : D} {a b c m mo mi me : ME} {t u : MT} {ta : MA} {s s1 s2 : MS} {f g : D → D → IH → R D}
@[simp] theorem bind_ok {a : A} {k : A → IH → R B} : (R.ok a h).bind k = k a h := (rfl)
@[simp] theorem bind_ex {c : Str} {d : XF} {k : A → IH → R B} : (R.ex c d h : R A).bind k = .ex c d h := (rfl)
@[simp] theorem bind_no {k : A → IH → R B} : (R.no : R A).bind k = .no := (rfl)
@[simp] theorem bindS_ok {a : A} {k : A → IH → RS} : (R.ok a h).bindS env k = k a h := (rfl)
@[simp] theorem bindS_ex {c : Str} {d : XF} {k : A → IH → RS} : (R.ex c d h : R A).bindS env k = .ex c d env h := (rfl)
@[simp] theorem bindS_no {k : A → IH → RS} : (R.no : R A).bindS env k = .no := (rfl)
@[simp] theorem then_nx {k : EV → IH → RS} : (RS.nx env h).then k = k env h := (rfl)
@[simp] theorem then_rt {k : EV → IH → RS} : (RS.rt d h).then k = .rt d h := (rfl)
@[simp] theorem then_bk {k : EV → IH → RS} : (RS.bk env h).then k = .bk env h := (rfl)
@[simp] theorem then_ct {k : EV → IH → RS} : (RS.ct env h).then k = .ct env h := (rfl)
@[simp] theorem then_ex {c : Str} {d : XF} {k : EV → IH → RS} : (RS.ex c d env h).then k = .ex c d env h := (rfl)
@[simp] theorem then_no {k : EV → IH → RS} : RS.no.then k = .no := (rfl)
@[simp] theorem fin_nx : (RS.nx env h).fin = .ok .non h := (rfl)
@[simp] theorem fin_rt : (RS.rt d h).fin = .ok d h := (rfl)
@[simp] theorem fin_ex {c : Str} {d : XF} : (RS.ex c d env h).fin = .ex c d h := (rfl)
@[simp] theorem ofO_some {a : A} : R.ofO (some a) h = .ok a h := (rfl)
/-- a new list -/
def newL (h : IH) (xs : List D) : R D := .ok (.ref h.length) (h ++ [.lst xs])
theorem newL_bind {xs : List D} {k : D → IH → R B} : (newL h xs).bind k = k (.ref h.length) (h ++ [.lst xs]) := rfl
theorem newL_bindS {xs : List D} {k : D → IH → RS} : (newL h xs).bindS env k = k (.ref h.length) (h ++ [.lst xs]) := rfl
@[simp] theorem ap_mVar : mVar i env h = match env[i]? with | some (some d) => .ok d h | _ => .no := rfl
@[simp] theorem ap_mC : mC d env h = .ok d h := rfl
@[simp] theorem ap_mOp : mOp f a b env h = (a env h).bind fun x h1 => (b env h1).bind fun y h2 => f x y h2 := rfl
@[simp] theorem ap_mTr : mTr m env h = (m env h).bind fun d h1 => R.ofO (truD h1 d) h1 := rfl
@[simp] theorem ap_mTb : mTb m env h = (m env h).bind fun d h1 => R.ofO d.bl? h1 := rfl
@[simp] theorem ap_mAnd : mAnd t u env h = (t env h).bind fun c h1 => if c = true then u env h1 else .ok false h1 := rfl
@[simp] theorem ap_mOr : mOr t u env h = (t env h).bind fun c h1 => if c = true then .ok true h1 else u env h1 := rfl
@[simp] theorem ap_mNot : mNot t env h = (t env h).bind fun c h1 => .ok (!c) h1 := rfl
@[simp] theorem ap_mIf : mIf t a b env h = (t env h).bind fun c h1 => if c = true then a env h1 else b env h1 := rfl
@[simp] theorem ap_mNil : mNil env h = .ok [] h := rfl
@[simp] theorem ap_mCons : mCons a ta env h = (a env h).bind fun x h1 => (ta env h1).bind fun xs h2 => .ok (x :: xs) h2 := rfl
@[simp] theorem ap_mTup : mTup ta env h = (ta env h).bind fun xs h1 => if xs.length ≤ 10000000 then .ok (.tup xs) h1 else .no := rfl
@[simp] theorem ap_mLst : mLst ta env h = (ta env h).bind fun xs h1 => if xs.length ≤ 10000000 then newL h1 xs else .no := rfl
@[simp] theorem ap_mCall {n : Nat} {fm : MF} : mCall n fm ta env h = (ta env h).bind fun ds h1 => callC n fm ds h1 := rfl
@[simp] theorem ap_mB {fb : List D → IH → R D} : mB fb ta env h = (ta env h).bind fun xs h1 => fb xs h1 := rfl
@[simp] theorem ap_mMeth {T : String} {fb : D → List D → IH → R D} : mMeth T fb mo ta env h = (mo env h).bind fun x h1 => if tyD T h1 x = true then (ta env h1).bind fun xs h2 => fb x xs h2 else .no := rfl
@[simp] theorem ap_mNeg : mNeg a env h = (a env h).bind fun x h1 => match x with | .int i => .ok (.int (-i)) h1 | _ => .no := rfl
@[simp] theorem ap_mAndV : mAndV a b env h = (a env h).bind fun x h1 => match x with | .bl true => b env h1 | .bl false => .ok (.bl false) h1 | _ => .no := rfl
@[simp] theorem ap_mOrV : mOrV a b env h = (a env h).bind fun x h1 => match x with | .bl true => .ok (.bl true) h1 | .bl false => b env h1 | _ => .no := rfl
@[simp] theorem ap_mNotV : mNotV a env h = (a env h).bind fun x h1 => match x with | .bl b => .ok (.bl (!b)) h1 | _ => .no := rfl
@[simp] theorem ap_mChain : mChain f g a b c env h = (a env h).bind fun x h1 => (b env h1).bind fun y h2 => (f x y h2).bind fun z h3 => match z with
  | .bl true => (c env h3).bind fun w h4 => g y w h4
  | .bl false => .ok (.bl false) h3
  | _ => .no := rfl
@[simp] theorem ap_mSlice {l u : MO} : mSlice m l u env h = (m env h).bind fun x h1 => (l env h1).bind fun l h2 => (u env h2).bind fun u h3 => sliceD x l u h3 := rfl
@[simp] theorem ap_moNone : moNone env h = .ok none h := rfl
@[simp] theorem ap_moSome : moSome m env h = (m env h).bind fun d h1 => match d with | .int i => .ok (some i) h1 | _ => .no := rfl
@[simp] theorem ap_mIs {T : String} : mIs T m env h = (m env h).bind fun x h1 => match isT T h1 x with | some b => .ok (.bl b) h1 | none => .no := rfl
@[simp] theorem ap_msNil : msNil env h = .nx env h := rfl
@[simp] theorem ap_msCons : msCons s1 s2 env h = (s1 env h).then s2 := rfl
@[simp] theorem ap_msRet : msRet m env h = (m env h).bindS env fun d h1 => .rt d h1 := rfl
@[simp] theorem ap_msIf : msIf t s1 s2 env h = (t env h).bindS env fun c h1 => if c = true then s1 env h1 else s2 env h1 := rfl
@[simp] theorem ap_msSet : msSet i m env h = (m env h).bindS env fun d h1 => .nx (env.set i (some d)) h1 := rfl
@[simp] theorem ap_msSetT {gg : MG} : msSetT gg m env h = (m env h).bindS env fun d h1 => match gg d env with | some e => .nx e h1 | none => .no := rfl
@[simp] theorem ap_msExpr : msExpr m env h = (m env h).bindS env fun _ h1 => .nx env h1 := rfl
@[simp] theorem ap_msAug : msAug i f m env h = match env[i]? with
  | some (some x) => (m env h).bindS env fun y h1 => (f x y h1).bindS env fun z h2 => .nx (env.set i (some z)) h2
  | _ => .no := rfl
@[simp] theorem ap_msSetI : msSetI mo mi me env h = (me env h).bindS env fun v h1 => (mo env h1).bindS env fun o h2 => (mi env h2).bindS env fun i h3 => match putD o i v h3 with
  | some h4 => .nx env h4
  | none => .no := rfl
@[simp] theorem ap_msAugI : msAugI f mo mi me env h = (mo env h).bindS env fun o h1 => (mi env h1).bindS env fun i h2 => match getL o i h2 with
  | none => .no
  | some x => (me env h2).bindS env fun y h3 => (f x y h3).bindS env fun z h4 => match putD o i z h4 with
    | some h5 => .nx env h5
    | none => .no := rfl
@[simp] theorem ap_msFor {it : MI} {gg : MG} : msFor it gg s env h = (it env h).bindS env fun src h1 => forM src gg s (src.many h1 + 1) 0 env h1 := rfl
@[simp] theorem ap_mLc {it : MI} {gg : MG} {ws : List Nat} : mLc it gg t m ws env h = (it env h).bind fun src h1 => lcM src gg t m h1.length (src.many h1 + 1) 0 (wipeE env ws) (h1 ++ [.lst []]) := rfl
@[simp] theorem ap_iSeq : iSeq m env h = (m env h).bind fun x h1 => match x with
  | .ref n => if (lstOf h1 (.ref n)).isSome then .ok (.ls n) h1 else .no
  | .tup l => .ok (.st l) h1
  | .fl l => .ok (.st l) h1
  | .str s => if s.length ≤ 10000000 then .ok (.st (s.map fun c => .str [c])) h1 else .no
  | _ => .no := rfl
@[simp] theorem ap_iRange1 : iRange1 ta env h = (ta env h).bind fun xs h1 => match xs with
  | [.int j] => if -10000000 ≤ j ∧ j ≤ 10000000 then .ok (.st (intsFrom 0 j.toNat)) h1 else .no
  | _ => .no := rfl
@[simp] theorem ap_iRange2 : iRange2 ta env h = (ta env h).bind fun xs h1 => match xs with
  | [.int i, .int j] => if -10000000 ≤ i ∧ i ≤ 10000000 ∧ -10000000 ≤ j ∧ j ≤ 10000000 then .ok (.st (intsFrom i (j - i).toNat)) h1 else .no
  | _ => .no := rfl
@[simp] theorem ap_fnM {n : Nat} {ds : List D} : fnM n s ds h = (s (ds.map some ++ List.replicate (n - ds.length) none) h).fin := rfl
theorem strV_eq (a b : List Nat) : (strV a == strV b) = decide (a = b) := by
  by_cases e : a = b
  · subst e; simp
  · rw [decide_eq_false e]
    exact beq_eq_false_iff_ne.mpr fun z => e (strV_inj z)
@[simp] theorem dEq_str {neg : Bool} {a b : List Nat} : dEq neg (.str a) (.str b) h = .ok (.bl (if neg then !decide (a = b) else decide (a = b))) h := by
  show R.ok (D.bl (if neg then !PyData.eqv (.str (strV a)) (.str (strV b)) else PyData.eqv (.str (strV a)) (.str (strV b)))) h = _
  rw [show PyData.eqv (.str (strV a)) (.str (strV b)) = (strV a == strV b) by simp [PyData.eqv], strV_eq]
@[simp] theorem dEq_int {neg : Bool} {a b : Int} : dEq neg (.int a) (.int b) h = .ok (.bl (if neg then !decide (a = b) else decide (a = b))) h := by
  show R.ok (D.bl (if neg then !PyData.eqv (.int a) (.int b) else PyData.eqv (.int a) (.int b))) h = _
  rw [show PyData.eqv (.int a) (.int b) = (a == b) by simp [PyData.eqv], Bool.beq_eq_decide_eq]
@[simp] theorem dIn_sign {neg : Bool} {c : Nat} {z : List Nat} : dIn neg (.str [c]) (.str z) h = .ok (.bl (if neg then !decide (c ∈ z) else decide (c ∈ z))) h := rfl
theorem allM_pyStrs {k : Nat} (zs : List (List Nat)) : allM (D.py h (k + 1)) (zs.map D.str) = some (zs.map fun z => PyData.str (strV z)) := by
  induction zs with
  | nil => rfl
  | cons z zs ih =>
    rw [List.map_cons, List.map_cons]
    unfold allM
    rw [ih]
    rfl
theorem dIn_strs {neg : Bool} {a : List Nat} {zs : List (List Nat)} : dIn neg (.str a) (.tup (zs.map D.str)) h = .ok (.bl (if neg then !decide (a ∈ zs) else decide (a ∈ zs))) h := by
  have e : (zs.map fun z => PyData.str (strV z)).any (fun z => PyData.eqv z (.str (strV a))) = decide (a ∈ zs) := by
    induction zs with
    | nil => rfl
    | cons z zs ih =>
      simp only [List.map_cons, List.any_cons, ih, PyData.eqv, strV_eq, List.mem_cons, Bool.decide_or]
      rw [show decide (z = a) = decide (a = z) from decide_eq_decide.mpr eq_comm]
  unfold dIn
  split
  · rename_i h1 h2; cases h2
  · rw [show D.py h 50 (.str a) = some (.str (strV a)) from rfl, show (seqOf h (.tup (zs.map D.str))).bind (allM (D.py h 49)) = allM (D.py h (48 + 1)) (zs.map D.str) from rfl, allM_pyStrs]
    dsimp only
    rw [e]
@[simp] theorem dAdd_int {i j : Int} : dAdd (.int i) (.int j) h = .ok (.int (i + j)) h := rfl
@[simp] theorem dSub_int {i j : Int} : dSub (.int i) (.int j) h = .ok (.int (i - j)) h := rfl
theorem dAdd_str_if {a b : List Nat} : dAdd (.str a) (.str b) h = if a.length + b.length ≤ 10000000 then .ok (.str (a ++ b)) h else .no := rfl
@[simp] theorem dMul_int {i j : Int} : dMul (.int i) (.int j) h = if cMul i j then .ok (.int (i * j)) h else .no := rfl
@[simp] theorem dI_int {C : Int → Int → Bool} {k : Int → Int → Int} {i j : Int} : dI C k (.int i) (.int j) h = if C i j then .ok (.int (k i j)) h else .no := rfl
@[simp] theorem dC_int {k : Int → Int → Bool} {i j : Int} : dC k (.int i) (.int j) h = .ok (.bl (k i j)) h := rfl
@[simp] theorem bl?_bl {b : Bool} : (D.bl b).bl? = some b := rfl
@[simp] theorem truD_bl {b : Bool} : truD h (.bl b) = some b := rfl
theorem okB_self {k : Nat} : ∀ {h g : IH}, okB k h (h ++ g)
  | [], _ => True.intro
  | _ :: h, g => ⟨.inl rfl, okB_self (h := h)⟩
@[simp] theorem okB_app {k : Nat} {h g : IH} : okB k h (h ++ g) ↔ True := iff_true_intro okB_self
@[simp] theorem okB_refl {k : Nat} {h : IH} : okB k h h ↔ True := iff_true_intro (by simpa using okB_self (k := k) (h := h) (g := []))
@[simp] theorem okB_nil {k : Nat} {h : IH} : okB k [] h ↔ True := Iff.rfl
@[simp] theorem okB_cons {k : Nat} {c c' : Cell} {cs cs' : IH} : okB k (c :: cs) (c' :: cs') ↔ (c' = c ∨ Cell.lo k c' = true) ∧ okB k cs cs' := Iff.rfl
/-- a call of a def that changes nothing and tells a value without cells of its own -/
theorem callC_pure {n : Nat} {fm : MF} {ds : List D} {d : D} {g : IH} (hn : ds.length = n) (e : fm ds h = .ok d (h ++ g)) (hd : d.lo h.length = true) : callC n fm ds h = .ok d h := by
  unfold callC
  rw [if_pos hn, e]
  unfold clean
  simp [hd]
theorem callC_same {n : Nat} {fm : MF} {ds : List D} {d : D} (hn : ds.length = n) (e : fm ds h = .ok d h) : callC n fm ds h = .ok d h := by
  unfold callC
  rw [if_pos hn, e]
  unfold clean
  simp
theorem callC_ex {n : Nat} {fm : MF} {ds : List D} {c : Str} {g : IH} (hn : ds.length = n) (e : fm ds h = .ex c none (h ++ g)) : callC n fm ds h = .ex c none h := by
  unfold callC
  rw [if_pos hn, e]
  unfold clean
  simp [xfLo]
theorem callC_len {n : Nat} {fm : MF} {ds : List D} {d : D} (hn : ds.length = n) (e : fm ds h = .ok d h') (hl : h'.length = h.length) : callC n fm ds h = .ok d h' := by
  unfold callC
  rw [if_pos hn, e]
  unfold clean
  dsimp only
  rw [← hl, List.take_length]
  split <;> rfl
/-- a call that leaves h' of the old cells, and more behind them -/
theorem callC_cut {n : Nat} {fm : MF} {ds : List D} {d : D} {g : IH} (hn : ds.length = n) (e : fm ds h = .ok d (h' ++ g)) (hl : h'.length = h.length) (hd : d.lo h.length = true) (hw : okB h.length h (h' ++ g)) : callC n fm ds h = .ok d h' := by
  unfold callC
  rw [if_pos hn, e]
  unfold clean
  dsimp only
  rw [if_pos ⟨hd, hw⟩, ← hl, List.take_left]
/-- a call that draws: the pen's cell stands at 1 -/
theorem callC_pen {n : Nat} {fm : MF} {ds : List D} {d : D} {z c c' : Cell} {g g' : IH} (hn : ds.length = n) (e : fm ds (z :: c :: g) = .ok d (z :: c' :: (g ++ g'))) (hd : ∀ k, 2 ≤ k → d.lo k = true) (hc : ∀ k, 2 ≤ k → Cell.lo k c' = true) : callC n fm ds (z :: c :: g) = .ok d (z :: c' :: g) :=
  callC_cut (h := z :: c :: g) (h' := z :: c' :: g) (g := g') hn (by simpa using e) rfl (hd _ (by simp)) (by simp [hc])
theorem callC_pen0 {n : Nat} {fm : MF} {ds : List D} {d : D} {z c c' : Cell} {g : IH} (hn : ds.length = n) (e : fm ds (z :: c :: g) = .ok d (z :: c' :: g)) : callC n fm ds (z :: c :: g) = .ok d (z :: c' :: g) := callC_len hn e rfl
/-- a call whose value is a cell of its own -/
theorem callC_new {n : Nat} {fm : MF} {ds : List D} {k : Nat} (hn : ds.length = n) (e : fm ds h = .ok (.ref k) h') (hk : h.length ≤ k) : callC n fm ds h = .ok (.ref k) h' := by
  unfold callC
  rw [if_pos hn, e]
  unfold clean
  dsimp only
  rw [if_neg]
  rintro ⟨h2, _⟩
  simp [D.lo] at h2
  omega
/-- a call whose value tells of cells of its own -/
theorem callC_tup {n : Nat} {fm : MF} {ds : List D} {d : D} (hn : ds.length = n) (e : fm ds h = .ok d h') (hd : d.lo h.length = false) : callC n fm ds h = .ok d h' := by
  unfold callC
  rw [if_pos hn, e]
  unfold clean
  dsimp only
  rw [if_neg]
  rintro ⟨h2, _⟩
  rw [hd] at h2
  cases h2
/-- a for over what stands still -/
theorem forM_inv {ds : List D} {gg : MG} (P : Nat → EV → IH → Prop) (Rs : RS → Prop)
    (step : ∀ i d env h, ds[i]? = some d → P i env h → ∃ e1, gg d env = some e1 ∧ (match s e1 h with
      | .nx e2 h2 => P (i + 1) e2 h2
      | .ct e2 h2 => P (i + 1) e2 h2
      | .bk e2 h2 => Rs (.nx e2 h2)
      | r => Rs r)) (fin : ∀ env h, P ds.length env h → Rs (.nx env h)) (h0 : P 0 env h) : Rs (forM (.st ds) gg s ((Src.st ds).many h + 1) 0 env h) := by
  have go : ∀ m i env h, i + m = ds.length + 1 → i ≤ ds.length → P i env h → Rs (forM (.st ds) gg s m i env h) := by
    intro m
    induction m with
    | zero => intro i env h e l; omega
    | succ m ih =>
      intro i env h e l p
      unfold forM
      rw [if_pos (show (Src.st ds).ok h = true from rfl)]
      show Rs (match ds[i]? with
        | none => _
        | some d => _)
      cases hd : ds[i]? with
      | none =>
        have : i = ds.length := by
          have := List.getElem?_eq_none_iff.mp hd
          omega
        subst this
        exact fin env h p
      | some d =>
        have hi := (List.getElem?_eq_some_iff.mp hd).1
        obtain ⟨e1, g1, st⟩ := step i d env h hd p
        dsimp only
        rw [g1]
        dsimp only
        revert st
        cases s e1 h with
        | nx e2 h2 => exact fun st => ih (i + 1) e2 h2 (by omega) (by omega) st
        | ct e2 h2 => exact fun st => ih (i + 1) e2 h2 (by omega) (by omega) st
        | bk e2 h2 => exact fun st => st
        | rt d2 h2 => exact fun st => st
        | ex c d2 e2 h2 => exact fun st => st
        | no => exact fun st => st
  exact go _ 0 env h (by show 0 + (ds.length + 1) = _; omega) (Nat.zero_le _) h0
theorem msWhile_inv {c : MT} (P : Nat → EV → IH → Prop) (Rs : RS → Prop)
    (step : ∀ m env h, P m env h → match c env h with
      | .ok true h1 => (match s env h1 with
        | .nx e2 h2 => ∃ m', m' < m ∧ P m' e2 h2
        | .ct e2 h2 => ∃ m', m' < m ∧ P m' e2 h2
        | .bk e2 h2 => Rs (.nx e2 h2)
        | r => Rs r)
      | .ok false h1 => Rs (.nx env h1)
      | .ex cl d h1 => Rs (.ex cl d env h1)
      | .no => Rs .no) : ∀ (m : Nat) (env : EV) (h : IH), P m env h → Rs (msWhile c s env h) := by
  intro m
  induction m using Nat.strongRecOn with
  | _ m ih =>
    intro env h p
    have st := step m env h p
    rw [msWhile_eq]
    revert st
    cases c env h with
    | no => exact fun st => st
    | ex cl d h1 => exact fun st => st
    | ok b h1 =>
      cases b with
      | false => exact fun st => st
      | true =>
        dsimp only
        cases s env h1 with
        | nx e2 h2 => exact fun ⟨m', l, p'⟩ => ih m' l e2 h2 p'
        | ct e2 h2 => exact fun ⟨m', l, p'⟩ => ih m' l e2 h2 p'
        | bk e2 h2 => exact fun st => st
        | rt d2 h2 => exact fun st => st
        | ex c d2 e2 h2 => exact fun st => st
        | no => exact fun st => st
/-- a comprehension over what stands still -/
theorem lcM_inv {ds : List D} {gg : MG} {n : Nat} (P : Nat → IH → Prop) (Rs : R D → Prop)
    (step : ∀ i d h, ds[i]? = some d → P i h → ∃ e1, gg d env = some e1 ∧ (match t e1 h with
      | .ok true h2 => ∃ y h3 acc, m e1 h2 = .ok y h3 ∧ h3[n]? = some (.lst acc) ∧ acc.length < 10000000 ∧ P (i + 1) (h3.set n (.lst (acc ++ [y])))
      | .ok false h2 => P (i + 1) h2
      | _ => False)) (fin : ∀ h, P ds.length h → Rs (.ok (.ref n) h)) (h0 : P 0 h) : Rs (lcM (.st ds) gg t m n ((Src.st ds).many h' + 1) 0 env h) := by
  have go : ∀ k i h, i + k = ds.length + 1 → i ≤ ds.length → P i h → Rs (lcM (.st ds) gg t m n k i env h) := by
    intro k
    induction k with
    | zero => intro i h e l; omega
    | succ k ih =>
      intro i h e l p
      unfold lcM
      rw [if_pos (show (Src.st ds).ok h = true from rfl)]
      show Rs (match ds[i]? with
        | none => _
        | some d => _)
      cases hd : ds[i]? with
      | none =>
        have : i = ds.length := by
          have := List.getElem?_eq_none_iff.mp hd
          omega
        subst this
        exact fin h p
      | some d =>
        have hi := (List.getElem?_eq_some_iff.mp hd).1
        obtain ⟨e1, g1, st⟩ := step i d h hd p
        dsimp only
        rw [g1]
        dsimp only
        revert st
        cases t e1 h with
        | no => exact fun st => st.elim
        | ex _ _ _ => exact fun st => st.elim
        | ok b h2 =>
          cases b with
          | false => exact fun st => ih (i + 1) h2 (by omega) (by omega) st
          | true =>
            rintro ⟨y, h3, acc, e3, e4, l4, p4⟩
            dsimp only
            rw [e3]
            dsimp only
            rw [e4]
            dsimp only
            rw [if_pos l4]
            exact ih (i + 1) _ (by omega) (by omega) p4
  exact go _ 0 h (by show 0 + (ds.length + 1) = _; omega) (Nat.zero_le _) h0
theorem get_last {h : IH} {c : Cell} : (h ++ [c])[h.length]? = some c := by simp
theorem set_last {h : IH} {c c' : Cell} : (h ++ [c]).set h.length c' = h ++ [c'] := by simp
/-- a comprehension of what is reckoned of each -/
theorem lcM_map {ds : List D} {gg : MG} (F : D → D) (hl : ds.length ≤ 9000000) (step : ∀ d ∈ ds, ∃ e1, gg d env = some e1 ∧ ∀ x, m e1 (h ++ [x]) = .ok (F d) (h ++ [x])) :
    lcM (.st ds) gg mYes m h.length ((Src.st ds).many h' + 1) 0 env (h ++ [.lst []]) = .ok (.ref h.length) (h ++ [.lst (ds.map F)]) := by
  refine lcM_inv (P := fun i h' => h' = h ++ [.lst ((ds.take i).map F)]) (Rs := fun r => r = .ok (.ref h.length) (h ++ [.lst (ds.map F)])) ?_ ?_ ?_
  · intro i d h' hd hp
    subst hp
    obtain ⟨e1, g1, st⟩ := step d (List.mem_of_getElem? hd)
    refine ⟨e1, g1, ?_⟩
    show ∃ y h3 acc, m e1 _ = .ok y h3 ∧ _
    refine ⟨F d, _, _, st _, get_last, ?_, ?_⟩
    · rw [List.length_map, List.length_take]
      omega
    · rw [set_last, List.take_add_one, hd]
      simp
  · intro h' hp
    rw [hp, List.take_length]
  · simp
theorem lcM_filter {ds : List D} {gg : MG} (F : D → D) (p : D → Bool) (hl : ds.length ≤ 9000000) (step : ∀ d ∈ ds, ∃ e1, gg d env = some e1 ∧ (∀ x, t e1 (h ++ [x]) = .ok (p d) (h ++ [x])) ∧ ∀ x, p d = true → m e1 (h ++ [x]) = .ok (F d) (h ++ [x])) :
    lcM (.st ds) gg t m h.length ((Src.st ds).many h' + 1) 0 env (h ++ [.lst []]) = .ok (.ref h.length) (h ++ [.lst ((ds.filter p).map F)]) := by
  refine lcM_inv (P := fun i h' => h' = h ++ [.lst (((ds.take i).filter p).map F)]) (Rs := fun r => r = .ok (.ref h.length) (h ++ [.lst ((ds.filter p).map F)])) ?_ ?_ ?_
  · intro i d h' hd hp
    subst hp
    obtain ⟨e1, g1, tt, st⟩ := step d (List.mem_of_getElem? hd)
    refine ⟨e1, g1, ?_⟩
    rw [tt]
    cases hpd : p d with
    | true =>
      dsimp only
      refine ⟨F d, _, _, st _ hpd, get_last, ?_, ?_⟩
      · rw [List.length_map]
        have := List.length_filter_le p (ds.take i)
        rw [List.length_take] at this
        omega
      · rw [set_last, List.take_add_one, hd]
        simp [hpd]
    | false =>
      dsimp only
      rw [List.take_add_one, hd]
      simp [hpd]
  · intro h' hp
    rw [hp, List.take_length]
  · simp
theorem joinN_nil : ∀ ys : List (List Nat), joinN [] ys = ys.flatten
  | [] => rfl
  | [x] => by simp [joinN]
  | x :: y :: r => by
    unfold joinN
    rw [joinN_nil (y :: r)]
    simp
theorem sum_lens (ys : List (List Nat)) : (ys.map List.length).sum = ys.flatten.length := by
  induction ys with
  | nil => rfl
  | cons y ys ih => rw [List.map_cons, List.sum_cons, ih, List.flatten_cons, List.length_append]
theorem join_nil_eq {h : IH} {n : Nat} {ys : List (List Nat)} (e : h[n]? = some (.lst (ys.map D.str))) (l : ys.flatten.length ≤ 10000000) : fJoin (.str []) [.ref n] h = .ok (.str ys.flatten) h := by
  unfold fJoin; dsimp only
  have e1 : (seqOf h (.ref n)).bind (allM D.str?) = some ys := by
    unfold seqOf
    dsimp only
    rw [e]
    exact allM_mkStrs ys
  rw [e1]
  dsimp only
  rw [sum_lens, List.length_nil, Nat.mul_zero, Nat.add_zero, joinN_nil, if_pos l]
theorem ixN_toNat {n : Nat} {i : Int} (h0 : 0 ≤ i) (h1 : i < n) : ixN n i = some i.toNat := by
  unfold ixN
  rw [if_pos h0, if_pos h1]
theorem dIx_str {s : List Nat} {i : Int} {c : Nat} (h0 : 0 ≤ i) (e : s[i.toNat]? = some c) (l : s.length ≤ 10000000) : dIx (.str s) (.int i) h = .ok (.str [c]) h := by
  have hi := (List.getElem?_eq_some_iff.mp e).1
  show getD' _ _ _ = _
  unfold getD'
  dsimp only
  rw [ixN_toNat h0 (by omega)]
  dsimp only [Option.bind]
  rw [e]
  dsimp only
  rw [if_pos l]
theorem dIx_seq {o : D} {xs : List D} {i : Int} {d : D} (hs : seqOf h o = some xs) (h0 : 0 ≤ i) (e : xs[i.toNat]? = some d) : dIx o (.int i) h = .ok d h := by
  have hi := (List.getElem?_eq_some_iff.mp e).1
  show getD' _ _ _ = _
  unfold getD'
  cases o with
  | str s => simp [seqOf] at hs
  | _ =>
    dsimp only
    rw [hs]
    dsimp only [Option.bind]
    rw [ixN_toNat h0 (by omega)]
    dsimp only [Option.bind]
    rw [e]
/-- an item of a list's cell -/
theorem dIx_ref {n : Nat} {xs : List D} {i : Int} {d : D} (hs : h[n]? = some (.lst xs)) (h0 : 0 ≤ i) (e : xs[i.toNat]? = some d) : dIx (.ref n) (.int i) h = .ok d h := dIx_seq (by unfold seqOf; dsimp only; rw [hs]) h0 e
theorem putD_ref {n : Nat} {xs : List D} {i : Int} {v : D} (hs : h[n]? = some (.lst xs)) (h0 : 0 ≤ i) (l : i < xs.length) : putD (.ref n) (.int i) v h = some (h.set n (.lst (xs.set i.toNat v))) := by
  unfold putD
  dsimp only
  rw [hs]
  dsimp only
  rw [ixN_toNat h0 l]
  rfl
theorem getL_ref {n : Nat} {xs : List D} {i : Int} {d : D} (hs : h[n]? = some (.lst xs)) (h0 : 0 ≤ i) (e : xs[i.toNat]? = some d) : getL (.ref n) (.int i) h = some d := by
  have hi := (List.getElem?_eq_some_iff.mp e).1
  unfold getL
  dsimp only
  unfold lstOf
  dsimp only
  rw [hs]
  dsimp only [Option.bind]
  rw [ixN_toNat h0 (by omega)]
  dsimp only [Option.bind]
  rw [e]
theorem sIx_int {n d : Nat} {i : Int} (h0 : 0 ≤ i) : HT.sIx n d (some i) = min i.toNat n := by
  show (if i < 0 then (i + (n : Int)).toNat else min i.toNat n) = _
  rw [if_neg (by omega)]
theorem cut_two {A : Type} (xs : List A) (a b : Nat) : (xs.drop (min a xs.length)).take (min b xs.length - min a xs.length) = (xs.drop a).take (b - a) := by
  apply List.ext_getElem?
  intro j
  rw [List.getElem?_take, List.getElem?_take, List.getElem?_drop, List.getElem?_drop]
  by_cases ha : a ≤ xs.length
  · rw [Nat.min_eq_left ha]
    by_cases hb : b ≤ xs.length
    · rw [Nat.min_eq_left hb]
    · rw [Nat.min_eq_right (by omega)]
      by_cases hj : j < xs.length - a
      · rw [if_pos hj, if_pos (by omega)]
      · rw [if_neg hj, List.getElem?_eq_none (by omega)]
        split <;> rfl
  · rw [List.getElem?_eq_none (i := a + j) (by omega), List.getElem?_eq_none (i := min a xs.length + j) (by rw [Nat.min_eq_right (show xs.length ≤ a by omega)]; omega)]
    split <;> split <;> rfl
theorem cutN_two {xs : List Nat} {i j : Int} (h0 : 0 ≤ i) (h1 : 0 ≤ j) : cutN xs (some i) (some j) = (xs.drop i.toNat).take (j.toNat - i.toNat) := by
  unfold cutN
  rw [sIx_int h0, sIx_int h1, cut_two]
theorem cutN_to {xs : List Nat} {j : Int} (h1 : 0 ≤ j) : cutN xs none (some j) = xs.take j.toNat := by
  unfold cutN
  rw [sIx_int h1, HT.sIx_none, List.drop_zero, Nat.sub_zero]
  apply List.ext_getElem?
  intro k
  rw [List.getElem?_take, List.getElem?_take]
  by_cases hk : k < j.toNat
  · rw [if_pos hk]
    by_cases hx : k < xs.length
    · rw [if_pos (by omega)]
    · rw [List.getElem?_eq_none (by omega)]
      split <;> rfl
  · rw [if_neg hk, if_neg (by omega)]
theorem cutN_from {xs : List Nat} {i : Int} (h1 : 0 ≤ i) : cutN xs (some i) none = xs.drop i.toNat := by
  unfold cutN
  rw [sIx_int h1, HT.sIx_none]
  have e := cut_two xs i.toNat xs.length
  rw [Nat.min_self] at e
  rw [e, List.take_of_length_le (by rw [List.length_drop]; exact Nat.le_refl _)]
theorem cutD_two {xs : List D} {i j : Int} (h0 : 0 ≤ i) (h1 : 0 ≤ j) : cutD xs (some i) (some j) = (xs.drop i.toNat).take (j.toNat - i.toNat) := by
  unfold cutD
  rw [sIx_int h0, sIx_int h1, cut_two]
theorem cutD_to {xs : List D} {j : Int} (h1 : 0 ≤ j) : cutD xs none (some j) = xs.take j.toNat := by
  unfold cutD
  rw [sIx_int h1, HT.sIx_none, List.drop_zero, Nat.sub_zero]
  apply List.ext_getElem?
  intro k
  rw [List.getElem?_take, List.getElem?_take]
  by_cases hk : k < j.toNat
  · rw [if_pos hk]
    by_cases hx : k < xs.length
    · rw [if_pos (by omega)]
    · rw [List.getElem?_eq_none (by omega)]
      split <;> rfl
  · rw [if_neg hk, if_neg (by omega)]
theorem cutD_from {xs : List D} {i : Int} (h1 : 0 ≤ i) : cutD xs (some i) none = xs.drop i.toNat := by
  unfold cutD
  rw [sIx_int h1, HT.sIx_none]
  have e := cut_two xs i.toNat xs.length
  rw [Nat.min_self] at e
  rw [e, List.take_of_length_le (by rw [List.length_drop]; exact Nat.le_refl _)]
theorem bLen_str_if {s : List Nat} : bLen [.str s] h = if s.length ≤ 10000000 then .ok (.int (s.length : Nat)) h else .no := rfl
@[simp] theorem bLen_tup {l : List D} : bLen [.tup l] h = .ok (.int (l.length : Nat)) h := rfl
theorem bLen_ref {n : Nat} {xs : List D} (e : h[n]? = some (.lst xs)) : bLen [.ref n] h = .ok (.int (xs.length : Nat)) h := by
  unfold bLen
  dsimp only
  rw [e]
@[simp] theorem bAbs_int {i : Int} : bAbs [.int i] h = .ok (.int (if i < 0 then -i else i)) h := rfl
@[simp] theorem bMax2_int {i j : Int} : bMax2 [.int i, .int j] h = .ok (.int (if j > i then j else i)) h := rfl
@[simp] theorem bMin2_int {i j : Int} : bMin2 [.int i, .int j] h = .ok (.int (if j < i then j else i)) h := rfl
@[simp] theorem bInt1_int {i : Int} : bInt1 [.int i] h = .ok (.int i) h := rfl
@[simp] theorem bInt1_bl {b : Bool} : bInt1 [.bl b] h = .ok (.int (if b then 1 else 0)) h := rfl
@[simp] theorem dIAdd_int {i j : Int} : dIAdd (.int i) (.int j) h = .ok (.int (i + j)) h := rfl
theorem dIAdd_str_if {a b : List Nat} : dIAdd (.str a) (.str b) h = if a.length + b.length ≤ 10000000 then .ok (.str (a ++ b)) h else .no := rfl
@[simp] theorem dISub_int {i j : Int} : dISub (.int i) (.int j) h = .ok (.int (i - j)) h := rfl
theorem sliceD_str_if {s : List Nat} {l u : Option Int} : sliceD (.str s) l u h = if s.length ≤ 10000000 then .ok (.str (cutN s l u)) h else .no := rfl
@[simp] theorem sliceD_tup {s : List D} {l u : Option Int} : sliceD (.tup s) l u h = .ok (.tup (cutD s l u)) h := rfl
theorem is_str_str {s : List Nat} : isT "str" h (.str s) = some true := by
  show kitB "str" "str" = some true
  decide +kernel
theorem set_same {n : Nat} {c : Cell} (e : h[n]? = some c) : h.set n c = h := by
  apply List.ext_getElem?
  intro j
  by_cases hj : n = j
  · subst hj
    rw [List.getElem?_set_self (List.getElem?_eq_some_iff.mp e).1, e]
  · rw [List.getElem?_set_ne hj]
theorem get_set {n : Nat} {c c' : Cell} (e : h[n]? = some c) : (h.set n c')[n]? = some c' := List.getElem?_set_self (List.getElem?_eq_some_iff.mp e).1
theorem get_set_ne {n j : Nat} {c : Cell} (ne : n ≠ j) : (h.set n c)[j]? = h[j]? := List.getElem?_set_ne ne
@[simp] theorem loL_ints {n : Nat} (ns : List Int) : D.loL n (ns.map D.int) = true := by
  induction ns with
  | nil => simp [D.loL]
  | cons x xs ih => simp [D.loL, D.lo, ih]
@[simp] theorem loL_strs {n : Nat} (ns : List (List Nat)) : D.loL n (ns.map D.str) = true := by
  induction ns with
  | nil => simp [D.loL]
  | cons x xs ih => simp [D.loL, D.lo, ih]
/-! locked at once -/
open Classical in
/-- a new list that is locked at once -/
noncomputable def fzD (h h1 : IH) (xs : List D) : R D := fzR h (newL h1 xs)
theorem fz_newL {xs : List D} : fzR h (newL h' xs) = fzD h h' xs := rfl
theorem fz_bind {r : R A} {k : A → IH → R D} : fzR h (r.bind k) = r.bind fun a h1 => fzR h (k a h1) := by cases r <;> rfl
theorem fz_ite {p : Prop} [Decidable p] {r1 r2 : R D} : fzR h (if p then r1 else r2) = if p then fzR h r1 else fzR h r2 := by split <;> rfl
@[simp] theorem fz_no : fzR h .no = .no := rfl
@[simp] theorem fz_ex {c : Str} {d : XF} : fzR h (.ex c d h') = .ex c d h' := rfl
@[simp] theorem fz_non : fzR h (.ok .non h') = .ok .non h' := rfl
@[simp] theorem fz_bl {b : Bool} : fzR h (.ok (.bl b) h') = .ok (.bl b) h' := rfl
@[simp] theorem fz_int {b : Int} : fzR h (.ok (.int b) h') = .ok (.int b) h' := rfl
@[simp] theorem fz_str {b : List Nat} : fzR h (.ok (.str b) h') = .ok (.str b) h' := rfl
@[simp] theorem fz_tup {b : List D} : fzR h (.ok (.tup b) h') = .ok (.tup b) h' := rfl
@[simp] theorem fz_fl {b : List D} : fzR h (.ok (.fl b) h') = .ok (.fl b) h' := rfl
@[simp] theorem fz_fd {ks : List DKey} {b : List D} : fzR h (.ok (.fd ks b) h') = .ok (.fd ks b) h' := rfl
theorem fzR_at {n : Nat} {xs : List D} (e : h'[n]? = some (.lst xs)) (hn : h.length ≤ n) (lo : D.loL h.length xs = true) (ok : okB h.length h h') : fzR h (.ok (.ref n) h') = .ok (.fl xs) (h'.take h.length) := by
  unfold fzR
  dsimp only
  rw [e]
  dsimp only
  rw [if_pos ⟨hn, lo, ok⟩]
theorem fzD_same {xs : List D} (lo : D.loL h.length xs = true) : fzD h h xs = .ok (.fl xs) h := by
  unfold fzD newL
  rw [fzR_at (xs := xs) (by simp) (Nat.le_refl _) lo okB_self]
  simp
theorem fzD_pen {xs : List D} {z c c' : Cell} {g : IH} (lo : ∀ k, D.loL k xs = true) (lc : ∀ k, Cell.lo k c' = true) : fzD (z :: c :: g) (z :: c' :: g) xs = .ok (.fl xs) (z :: c' :: g) := by
  unfold fzD newL
  rw [fzR_at (n := (z :: c' :: g).length) (xs := xs) (by simp) (by simp) (lo _) (by simp [lc])]
  simp
/-- with old cells changed: nothing new is told of -/
theorem fzD_len {xs : List D} (hl : h'.length = h.length) (lo : D.loL h.length xs = true) (ok : okB h.length h (h' ++ [.lst xs])) : fzD h h' xs = .ok (.fl xs) h' := by
  unfold fzD newL
  rw [fzR_at (xs := xs) (by simp) (by omega) lo ok]
  simp [← hl]
theorem ap_mFz0 : mFz m env h = fzR h (m env h) := rfl
@[simp] theorem ap_mFz_lst : mFz (mLst ta) env h = (ta env h).bind fun xs h1 => if xs.length ≤ 10000000 then fzD h h1 xs else .no := by
  rw [ap_mFz0, ap_mLst, fz_bind]
  congr 1
  funext xs h1
  rw [fz_ite]
  rfl
@[simp] theorem ap_mFz_op : mFz (mOp f a b) env h = (a env h).bind fun x h1 => (b env h1).bind fun y h2 => fzR h (f x y h2) := by
  rw [ap_mFz0, ap_mOp, fz_bind]
  congr 1
  funext x h1
  rw [fz_bind]
@[simp] theorem ap_mFz_slice {l u : MO} : mFz (mSlice m l u) env h = (m env h).bind fun x h1 => (l env h1).bind fun l h2 => (u env h2).bind fun u h3 => fzR h (sliceD x l u h3) := by
  rw [ap_mFz0, ap_mSlice, fz_bind]
  congr 1
  funext x h1
  rw [fz_bind]
  congr 1
  funext x h1
  rw [fz_bind]
@[simp] theorem ap_mFz_B {fb : List D → IH → R D} : mFz (mB fb ta) env h = (ta env h).bind fun xs h1 => fzR h (fb xs h1) := by rw [ap_mFz0, ap_mB, fz_bind]
@[simp] theorem ap_mFz_call {n : Nat} {fm : MF} : mFz (mCall n fm ta) env h = (ta env h).bind fun ds h1 => fzR h (callC n fm ds h1) := by rw [ap_mFz0, ap_mCall, fz_bind]
@[simp] theorem ap_msRaise {x : Str} : msRaise x env h = .ex x none env h := rfl
@[simp] theorem ap_msFz_fl {i : Nat} {xs : List D} {b : MS} (e : env[i]? = some (some (.fl xs))) : msFz i b env h = b env h := by unfold msFz; rw [e]
theorem ap_msFz {i n : Nat} {xs : List D} {b : MS} (e : env[i]? = some (some (.ref n))) (e2 : h[n]? = some (.lst xs)) : msFz i b env h = b (env.set i (some (.fl xs))) (h.set n (.frz xs)) := by unfold msFz; rw [e]; dsimp only; rw [e2]
theorem dAdd_fl {a b : List D} : dAdd (.fl a) (.fl b) h = if a.length + b.length ≤ 10000000 then newL h (a ++ b) else .no := rfl
theorem dAdd_tup {a b : List D} : dAdd (.tup a) (.tup b) h = if a.length + b.length ≤ 10000000 then .ok (.tup (a ++ b)) h else .no := rfl
theorem sliceD_fl {l : List D} {lo hi : Option Int} : sliceD (.fl l) lo hi h = newL h (cutD l lo hi) := rfl
theorem bListX_str {s : List Nat} : bListX [.str s] h = if s.length ≤ 10000000 then newL h (sgD s) else .no := rfl
theorem bListX_fl {s : List D} : bListX [.fl s] h = newL h s := rfl
theorem bListX_tup {s : List D} : bListX [.tup s] h = newL h s := rfl
@[simp] theorem bTupleX_fl {s : List D} : bTupleX [.fl s] h = .ok (.tup s) h := rfl
@[simp] theorem bTupleX_tup {s : List D} : bTupleX [.tup s] h = .ok (.tup s) h := rfl
@[simp] theorem bLen_fl {l : List D} : bLen [.fl l] h = .ok (.int (l.length : Nat)) h := rfl
@[simp] theorem bSum_fl {ns : List Int} : bSum [.fl (ns.map D.int)] h = .ok (.int ns.sum) h := by
  show (match (some (ns.map D.int)).bind (allM D.int?) with | some ns => R.ok (D.int ns.sum) h | none => .no) = _
  simp
@[simp] theorem bAll_fl {ns : List Bool} : bAll [.fl (ns.map D.bl)] h = .ok (.bl (ns.all id)) h := by
  show (match (some (ns.map D.bl)).bind (allM D.bl?) with | some bs => R.ok (D.bl (bs.all id)) h | none => .no) = _
  simp
@[simp] theorem bAny_fl {ns : List Bool} : bAny [.fl (ns.map D.bl)] h = .ok (.bl (ns.any id)) h := by
  show (match (some (ns.map D.bl)).bind (allM D.bl?) with | some bs => R.ok (D.bl (bs.any id)) h | none => .no) = _
  simp
theorem bSorted_fl {ns : List Int} : bSorted [.fl (ns.map D.int)] h = newL h ((isrt ns).map D.int) := by
  show (match (some (ns.map D.int)).bind (allM D.int?) with | some ns => R.ok (D.ref h.length) (h ++ [Cell.lst ((isrt ns).map D.int)]) | none => .no) = _
  simp [newL]
@[simp] theorem isT_fl {T : String} {b : List D} : isT T h (.fl b) = kitB "list" T := rfl
@[simp] theorem isT_fd {T : String} {ks : List DKey} {b : List D} : isT T h (.fd ks b) = kitB "dict" T := rfl
@[simp] theorem tyD_str {T : String} {s : List Nat} : tyD T h (.str s) = (T == "str") := rfl
@[simp] theorem tyD_fl {T : String} {s : List D} : tyD T h (.fl s) = (T == "list") := rfl
@[simp] theorem loL_nil {n : Nat} : D.loL n [] = true := rfl
@[simp] theorem loL_cons {n : Nat} {d : D} {ds : List D} : D.loL n (d :: ds) = (D.lo n d && D.loL n ds) := rfl
@[simp] theorem lo_int {n : Nat} {i : Int} : D.lo n (.int i) = true := rfl
@[simp] theorem lo_bl {n : Nat} {i : Bool} : D.lo n (.bl i) = true := rfl
@[simp] theorem lo_non {n : Nat} : D.lo n .non = true := rfl
@[simp] theorem lo_str {n : Nat} {i : List Nat} : D.lo n (.str i) = true := rfl
@[simp] theorem lo_tup {n : Nat} {i : List D} : D.lo n (.tup i) = D.loL n i := rfl
@[simp] theorem lo_fl {n : Nat} {i : List D} : D.lo n (.fl i) = D.loL n i := rfl
@[simp] theorem lo_fd {n : Nat} {ks : List DKey} {i : List D} : D.lo n (.fd ks i) = D.loL n i := rfl
@[simp] theorem lo_ref {n i : Nat} : D.lo n (.ref i) = decide (i < n) := rfl
@[simp] theorem clo_lst {n : Nat} {i : List D} : Cell.lo n (.lst i) = D.loL n i := rfl
theorem loL_of {n : Nat} : ∀ {ds : List D}, (∀ d ∈ ds, D.lo n d = true) → D.loL n ds = true
  | [], _ => rfl
  | d :: ds, h => by simp [h d List.mem_cons_self, loL_of fun x hx => h x (List.mem_cons_of_mem _ hx)]
theorem loL_mem {n : Nat} : ∀ {ds : List D}, D.loL n ds = true → ∀ d ∈ ds, D.lo n d = true
  | d :: ds, h, x, hx => by
    simp at h
    rcases List.mem_cons.mp hx with rfl | hx
    · exact h.1
    · exact loL_mem h.2 x hx
@[simp] theorem loL_map {T : Type} {n : Nat} {f : T → D} {l : List T} : D.loL n (l.map f) = l.all fun x => D.lo n (f x) := by
  induction l with
  | nil => rfl
  | cons x l ih => simp [ih]
@[simp] theorem loL_app {n : Nat} {a b : List D} : D.loL n (a ++ b) = (D.loL n a && D.loL n b) := by
  induction a with
  | nil => simp
  | cons x l ih => simp [ih, Bool.and_assoc]
/-! numbers from nought -/
def nD (x : Nat) : D := .int (x : Nat)
theorem nD_eq (x : Nat) : nD x = .int (x : Nat) := rfl
@[simp] theorem lo_nD {n x : Nat} : D.lo n (nD x) = true := rfl
theorem nD_inj {a b : Nat} : nD a = nD b ↔ a = b := ⟨fun z => by injection z with z; omega, fun z => by rw [z]⟩
theorem nD_map (l : List Nat) : l.map nD = (l.map fun (x : Nat) => (x : Int)).map D.int := by rw [List.map_map]; rfl
theorem nats_of {m : Nat} : ∀ {ys : List D}, (∀ y ∈ ys, ∃ x, y = nD x ∧ x < m) → ∃ row : List Nat, ys = row.map nD ∧ ∀ x ∈ row, x < m
  | [], _ => ⟨[], rfl, by simp⟩
  | y :: ys, hp => by
    obtain ⟨x, rfl, hx⟩ := hp y List.mem_cons_self
    obtain ⟨row, rfl, hr⟩ := nats_of fun z hz => hp z (List.mem_cons_of_mem _ hz)
    exact ⟨x :: row, rfl, by simpa using ⟨hx, hr⟩⟩
theorem append_at {n : Nat} {xs : List D} {y : D} (e : h[n]? = some (.lst xs)) (l : xs.length < 10000000) : fAppend (.ref n) [y] h = .ok .non (h.set n (.lst (xs ++ [y]))) := by
  unfold fAppend
  dsimp only
  rw [e]
  dsimp only
  rw [if_pos l]
theorem tyD_ref {n : Nat} {xs : List D} (e : h[n]? = some (.lst xs)) : tyD "list" h (.ref n) = true := by
  unfold tyD
  dsimp only
  rw [e]
  rfl
theorem lstOf_ref {n : Nat} {xs : List D} (e : h[n]? = some (.lst xs)) : lstOf h (.ref n) = some xs := by
  unfold lstOf
  dsimp only
  rw [e]
theorem seqOf_ref {n : Nat} {xs : List D} (e : h[n]? = some (.lst xs)) : seqOf h (.ref n) = some xs := by
  unfold seqOf
  dsimp only
  rw [e]
@[simp] theorem seqOf_fl {l : List D} : seqOf h (.fl l) = some l := rfl
@[simp] theorem seqOf_tup {l : List D} : seqOf h (.tup l) = some l := rfl
@[simp] theorem lstOf_fl {l : List D} : lstOf h (.fl l) = some l := rfl
theorem allM_pyInts {k : Nat} (ns : List Int) : allM (D.py h (k + 1)) (ns.map D.int) = some (ns.map PyData.int) := by
  induction ns with
  | nil => rfl
  | cons z zs ih =>
    rw [List.map_cons, List.map_cons]
    unfold allM
    rw [ih]
    rfl
theorem dIn_ints {neg : Bool} {a : Int} {y : D} {ns : List Int} (e : seqOf h y = some (ns.map D.int)) : dIn neg (.int a) y h = .ok (.bl (if neg then !decide (a ∈ ns) else decide (a ∈ ns))) h := by
  have ea : (ns.map PyData.int).any (fun z => PyData.eqv z (.int a)) = decide (a ∈ ns) := by
    clear e
    induction ns with
    | nil => rfl
    | cons n ns ih =>
      have hb : (n == a) = decide (a = n) := by
        by_cases hz : a = n
        · subst hz; simp
        · rw [decide_eq_false hz]; exact beq_eq_false_iff_ne.mpr fun z => hz z.symm
      simp only [List.map_cons, List.any_cons, ih, PyData.eqv, List.mem_cons, Bool.decide_or, hb]
  unfold dIn
  split
  · rename_i h1 h2; cases h2
  · rw [show D.py h 50 (.int a) = some (.int a) from rfl, e]
    show (match some (PyData.int a), allM (D.py h (48 + 1)) (ns.map D.int) with | some a, some bs => R.ok (D.bl _) h | _, _ => .no) = _
    rw [allM_pyInts]
    dsimp only
    rw [ea]
theorem dIn_nats {neg : Bool} {a : Nat} {y : D} {ns : List Nat} (e : seqOf h y = some (ns.map nD)) : dIn neg (.int (a : Nat)) y h = .ok (.bl (if neg then !decide (a ∈ ns) else decide (a ∈ ns))) h := by
  rw [dIn_ints (ns := ns.map fun (x : Nat) => (x : Int)) (by rw [e, nD_map])]
  have : decide (((a : Nat) : Int) ∈ ns.map fun (x : Nat) => (x : Int)) = decide (a ∈ ns) := by
    refine decide_eq_decide.mpr ⟨fun hm => ?_, fun hm => List.mem_map.mpr ⟨a, hm, rfl⟩⟩
    obtain ⟨x, hx, e2⟩ := List.mem_map.mp hm
    have : x = a := by omega
    rw [← this]
    exact hx
  rw [this]
theorem dIx_nat {o : D} {xs : List D} {n : Nat} {d : D} (hs : seqOf h o = some xs) (e : xs[n]? = some d) : dIx o (.int (n : Nat)) h = .ok d h := dIx_seq hs (by omega) (by simpa using e)
theorem idxOf_cast (ns : List Nat) (y : Nat) : (ns.map fun (x : Nat) => (x : Int)).idxOf (y : Int) = ns.idxOf y := by
  induction ns with
  | nil => rfl
  | cons n ns ih =>
    rw [List.map_cons, List.idxOf_cons, List.idxOf_cons, ih]
    have : (((n : Nat) : Int) == (y : Int)) = (n == y) := by
      rw [Bool.eq_iff_iff, beq_iff_eq, beq_iff_eq]
      omega
    rw [this]
theorem fIndexL_nats {ns : List Nat} {y : Nat} (hy : y ∈ ns) : fIndexL (.fl (ns.map nD)) [.int (y : Nat)] h = .ok (nD (ns.idxOf y)) h := by
  unfold fIndexL
  dsimp only
  have e : (lstOf h (.fl (ns.map nD))).bind (allM D.int?) = some (ns.map fun (x : Nat) => (x : Int)) := by
    rw [nD_map]
    exact allM_mkInts _
  rw [e]
  dsimp only
  rw [if_pos (List.mem_map.mpr ⟨y, hy, rfl⟩), idxOf_cast]
  rfl
theorem iRange1_of {j : Int} {k : Nat} (e : ta env h = .ok [.int j] h') (hj : j = (k : Nat)) (l : k ≤ 10000000) : iRange1 ta env h = .ok (.st (intsFrom 0 k)) h' := by
  subst hj
  rw [ap_iRange1, e]
  rw [bind_ok]
  dsimp only
  rw [if_pos ⟨by omega, by omega⟩, Int.toNat_natCast]
theorem iRange2_of {i j : Int} {k : Nat} (e : ta env h = .ok [.int i, .int j] h') (hj : j = i + (k : Nat)) (l0 : -10000000 ≤ i) (l : j ≤ 10000000) : iRange2 ta env h = .ok (.st (intsFrom i k)) h' := by
  subst hj
  rw [ap_iRange2, e]
  rw [bind_ok]
  dsimp only
  rw [if_pos ⟨by omega, by omega, by omega, by omega⟩, show (i + (k : Nat) - i).toNat = k by omega]
/-! what a loop's turn leaves -/
def Nx (P : EV → IH → Prop) (Rs : RS → Prop) : RS → Prop
  | .nx e h => P e h
  | .ct e h => P e h
  | .bk e h => Rs (.nx e h)
  | .rt d h => Rs (.rt d h)
  | .ex c d e h => Rs (.ex c d e h)
  | .no => Rs .no
section
variable {P : EV → IH → Prop} {Rs : RS → Prop}
@[simp] theorem Nx_nx : Nx P Rs (.nx env h) = P env h := rfl
@[simp] theorem Nx_ct : Nx P Rs (.ct env h) = P env h := rfl
@[simp] theorem Nx_bk : Nx P Rs (.bk env h) = Rs (.nx env h) := rfl
@[simp] theorem Nx_rt : Nx P Rs (.rt d h) = Rs (.rt d h) := rfl
@[simp] theorem Nx_ex {c : Str} {x : XF} : Nx P Rs (.ex c x env h) = Rs (.ex c x env h) := rfl
end
/-- a for over what stands still, by an invariant -/
theorem for_inv {ds : List D} {gg : MG} (P : Nat → EV → IH → Prop) (Rs : RS → Prop) (h0 : P 0 env h)
    (step : ∀ i d env h, ds[i]? = some d → P i env h → ∃ e1, gg d env = some e1 ∧ Nx (P (i + 1)) Rs (s e1 h)) (fin : ∀ env h, P ds.length env h → Rs (.nx env h)) : Rs (forM (.st ds) gg s ((Src.st ds).many h' + 1) 0 env h) := by
  refine forM_inv (h := h) P Rs (fun i d env h hd hp => ?_) fin h0
  obtain ⟨e1, g1, st⟩ := step i d env h hd hp
  refine ⟨e1, g1, ?_⟩
  revert st
  cases s e1 h <;> exact fun z => z
/-- a for that runs to its end -/
theorem for_nx {ds : List D} {gg : MG} (P : Nat → EV → IH → Prop) (h0 : P 0 env h)
    (step : ∀ i d env h, ds[i]? = some d → P i env h → ∃ e1 e2 h2, gg d env = some e1 ∧ s e1 h = .nx e2 h2 ∧ P (i + 1) e2 h2) : ∃ e2 h2, forM (.st ds) gg s ((Src.st ds).many h + 1) 0 env h = .nx e2 h2 ∧ P ds.length e2 h2 :=
  for_inv P (fun r => ∃ e2 h2, r = .nx e2 h2 ∧ P ds.length e2 h2) h0 (fun i d env h hd hp => by
    obtain ⟨e1, e2, h2, g1, g2, g3⟩ := step i d env h hd hp
    exact ⟨e1, g1, by rw [g2]; exact g3⟩) fun env h hp => ⟨env, h, rfl, hp⟩
/-- a for that runs to its end, or returns -/
theorem for_rt {ds : List D} {gg : MG} (P : Nat → EV → IH → Prop) (Q : D → IH → Prop) (h0 : P 0 env h)
    (step : ∀ i d env h, ds[i]? = some d → P i env h → ∃ e1, gg d env = some e1 ∧ ((∃ e2 h2, s e1 h = .nx e2 h2 ∧ P (i + 1) e2 h2) ∨ ∃ x h2, s e1 h = .rt x h2 ∧ Q x h2)) :
    (∃ e2 h2, forM (.st ds) gg s ((Src.st ds).many h + 1) 0 env h = .nx e2 h2 ∧ P ds.length e2 h2) ∨ ∃ x h2, forM (.st ds) gg s ((Src.st ds).many h + 1) 0 env h = .rt x h2 ∧ Q x h2 :=
  for_inv P (fun r => (∃ e2 h2, r = .nx e2 h2 ∧ P ds.length e2 h2) ∨ ∃ x h2, r = .rt x h2 ∧ Q x h2) h0 (fun i d env h hd hp => by
    obtain ⟨e1, g1, ⟨e2, h2, g2, g3⟩ | ⟨x, h2, g2, g3⟩⟩ := step i d env h hd hp
    · exact ⟨e1, g1, by rw [g2]; exact g3⟩
    · exact ⟨e1, g1, by rw [g2]; exact .inr ⟨x, h2, rfl, g3⟩⟩) fun env h hp => .inl ⟨env, h, rfl, hp⟩
theorem while_nx {c : MT} (P : Nat → EV → IH → Prop) (m : Nat) (env : EV) (h : IH) (h0 : P m env h)
    (step : ∀ m env h, P m env h → (∃ e2 h2, c env h = .ok true h ∧ s env h = .nx e2 h2 ∧ ∃ m', m' < m ∧ P m' e2 h2) ∨ c env h = .ok false h) : ∃ m e2 h2, msWhile c s env h = .nx e2 h2 ∧ P m e2 h2 ∧ c e2 h2 = .ok false h2 := by
  refine msWhile_inv P (fun r => ∃ m e2 h2, r = .nx e2 h2 ∧ P m e2 h2 ∧ c e2 h2 = .ok false h2) (fun m env h p => ?_) m env h h0
  rcases step m env h p with ⟨e2, h2, g1, g2, g3⟩ | g1
  · rw [g1]; dsimp only; rw [g2]
    exact g3
  · rw [g1]
    exact ⟨m, env, h, rfl, p, g1⟩
theorem while_inv {c : MT} (P : Nat → EV → IH → Prop) (Rs : RS → Prop) (m : Nat) (env : EV) (h : IH) (h0 : P m env h)
    (step : ∀ m env h, P m env h → ∃ b, c env h = .ok b h ∧ (if b = true then Nx (fun e2 h2 => ∃ m', m' < m ∧ P m' e2 h2) Rs (s env h) else Rs (.nx env h))) : Rs (msWhile c s env h) := by
  refine msWhile_inv P Rs (fun m env h p => ?_) m env h h0
  obtain ⟨b, e, st⟩ := step m env h p
  rw [e]
  cases b with
  | false => simpa using st
  | true =>
    simp only [if_true] at st
    dsimp only
    revert st
    cases s env h <;> exact fun z => z
/-- a comprehension that is locked at once: of what is reckoned of each -/
theorem lcF_map {it : MI} {gg : MG} {ws : List Nat} {ds : List D} (F : D → D) (hi : it env h = .ok (.st ds) h) (hl : ds.length ≤ 9000000) (lo : ∀ d ∈ ds, D.lo h.length (F d) = true)
    (step : ∀ d ∈ ds, ∃ e1, gg d (wipeE env ws) = some e1 ∧ ∀ x, m e1 (h ++ [x]) = .ok (F d) (h ++ [x])) : mFz (mLc it gg mYes m ws) env h = .ok (.fl (ds.map F)) h := by
  rw [ap_mFz0, ap_mLc, hi]
  show fzR h (lcM _ _ _ _ _ _ _ _ _) = _
  rw [lcM_map F hl step, fzR_at get_last (Nat.le_refl _) (loL_of fun x hx => by obtain ⟨d, hd, rfl⟩ := List.mem_map.mp hx; exact lo d hd) okB_self]
  simp
theorem lcF_filter {it : MI} {gg : MG} {ws : List Nat} {ds : List D} (F : D → D) (p : D → Bool) (hi : it env h = .ok (.st ds) h) (hl : ds.length ≤ 9000000) (lo : ∀ d ∈ ds, p d = true → D.lo h.length (F d) = true)
    (step : ∀ d ∈ ds, ∃ e1, gg d (wipeE env ws) = some e1 ∧ (∀ x, t e1 (h ++ [x]) = .ok (p d) (h ++ [x])) ∧ ∀ x, p d = true → m e1 (h ++ [x]) = .ok (F d) (h ++ [x])) : mFz (mLc it gg t m ws) env h = .ok (.fl ((ds.filter p).map F)) h := by
  rw [ap_mFz0, ap_mLc, hi]
  show fzR h (lcM _ _ _ _ _ _ _ _ _) = _
  rw [lcM_filter F p hl step, fzR_at get_last (Nat.le_refl _) (loL_of fun x hx => by
    obtain ⟨d, hd, rfl⟩ := List.mem_map.mp hx
    exact lo d (List.mem_filter.mp hd).1 (List.mem_filter.mp hd).2) okB_self]
  simp
/-- .. whose steps draw: Pn b c says that the pen's cell c can draw b times -/
theorem lcF_pen {it : MI} {gg : MG} {ws : List Nat} {ds : List D} {z c0 : Cell} {g : IH} {Pn : Nat → Cell → Prop} {b K : Nat} (lop : ∀ b c k, Pn b c → Cell.lo k c = true) (Po : Nat → D → Prop) (hi : it env (z :: c0 :: g) = .ok (.st ds) (z :: c0 :: g)) (hl : ds.length ≤ 9000000)
    (hp : Pn (b + K * ds.length) c0) (lo : ∀ i y k, Po i y → D.lo k y = true)
    (step : ∀ i d, ds[i]? = some d → ∃ e1, gg d (wipeE env ws) = some e1 ∧ ∀ b c g, Pn (b + K) c → ∃ y c', m e1 (z :: c :: g) = .ok y (z :: c' :: g) ∧ Pn b c' ∧ Po i y) :
    ∃ ys c', mFz (mLc it gg mYes m ws) env (z :: c0 :: g) = .ok (.fl ys) (z :: c' :: g) ∧ ys.length = ds.length ∧ (∀ i y, ys[i]? = some y → Po i y) ∧ Pn b c' := by
  have main : ∃ ys c', lcM (.st ds) gg mYes m (z :: c0 :: g).length ((Src.st ds).many (z :: c0 :: g) + 1) 0 (wipeE env ws) ((z :: c0 :: g) ++ [Cell.lst []]) = .ok (.ref (z :: c0 :: g).length) (z :: c' :: (g ++ [Cell.lst ys])) ∧ ys.length = ds.length ∧ (∀ i y, ys[i]? = some y → Po i y) ∧ Pn b c' := by
    refine lcM_inv (P := fun i h' => ∃ ys c', h' = z :: c' :: (g ++ [Cell.lst ys]) ∧ ys.length = i ∧ (∀ j y, ys[j]? = some y → Po j y) ∧ Pn (b + K * (ds.length - i)) c') (Rs := fun r => ∃ ys c', r = .ok (.ref (z :: c0 :: g).length) (z :: c' :: (g ++ [Cell.lst ys])) ∧ ys.length = ds.length ∧ (∀ i y, ys[i]? = some y → Po i y) ∧ Pn b c') ?_ ?_ ?_
    · rintro i d h' hd ⟨ys, c', rfl, l1, p1, n1⟩
      have hi' := (List.getElem?_eq_some_iff.mp hd).1
      obtain ⟨e1, g1, st⟩ := step i d hd
      have e0 : ds.length - i = (ds.length - (i + 1)) + 1 := by omega
      rw [e0, Nat.mul_succ, ← Nat.add_assoc] at n1
      obtain ⟨y, c2, e2, n2, p2⟩ := st _ c' (g ++ [Cell.lst ys]) n1
      refine ⟨e1, g1, ?_⟩
      show ∃ y h3 acc, m e1 _ = .ok y h3 ∧ _
      refine ⟨y, _, ys, e2, by simp, by omega, ys ++ [y], c2, by simp, by simp [l1], fun j z hz => ?_, n2⟩
      by_cases hj : j < ys.length
      · rw [List.getElem?_append_left hj] at hz
        exact p1 j z hz
      · have hj2 : j = ys.length := by
          have := (List.getElem?_eq_some_iff.mp hz).1
          simp at this
          omega
        subst hj2
        rw [List.getElem?_append_right (Nat.le_refl _), Nat.sub_self] at hz
        simp at hz
        subst hz
        rw [l1]
        exact p2
    · rintro h' ⟨ys, c', rfl, l1, p1, n1⟩
      rw [Nat.sub_self, Nat.mul_zero, Nat.add_zero] at n1
      exact ⟨ys, c', rfl, l1, p1, n1⟩
    · exact ⟨[], c0, by simp, rfl, by simp, by simpa using hp⟩
  obtain ⟨ys, c', e, l1, p1, n1⟩ := main
  refine ⟨ys, c', ?_, l1, p1, n1⟩
  rw [ap_mFz0, ap_mLc, hi]
  show fzR _ (lcM _ _ _ _ _ _ _ _ _) = _
  rw [e, fzR_at (xs := ys) (by simp) (Nat.le_refl _) (loL_of fun x hx => by
    obtain ⟨j, hj⟩ := List.mem_iff_getElem?.mp hx
    exact lo j x _ (p1 j x hj)) (by simp [lop b c' _ n1])]
  simp
/-! with the lengths as premises: for simp (disch := ..) -/
theorem dAdd_str {a b : List Nat} (l : a.length + b.length ≤ 10000000) : dAdd (.str a) (.str b) h = .ok (.str (a ++ b)) h := by rw [dAdd_str_if, if_pos l]
theorem dIAdd_str {a b : List Nat} (l : a.length + b.length ≤ 10000000) : dIAdd (.str a) (.str b) h = .ok (.str (a ++ b)) h := by rw [dIAdd_str_if, if_pos l]
theorem bLen_str {s : List Nat} (l : s.length ≤ 10000000) : bLen [.str s] h = .ok (.int (s.length : Nat)) h := by rw [bLen_str_if, if_pos l]
theorem sliceD_str {s : List Nat} {lo hi : Option Int} (l : s.length ≤ 10000000) : sliceD (.str s) lo hi h = .ok (.str (cutN s lo hi)) h := by rw [sliceD_str_if, if_pos l]
theorem iSeq_str {env : EV} {m : ME} {s : List Nat} (e : m env h = .ok (.str s) h') (l : s.length ≤ 10000000) : iSeq m env h = .ok (.st (s.map fun c => .str [c])) h' := by
  rw [ap_iSeq, e]
  rw [bind_ok]
  dsimp only
  rw [if_pos l]
end
theorem get_app {h l : IH} {k : Nat} : (h ++ l)[h.length + k]? = l[k]? := by
  rw [List.getElem?_append_right (by omega)]
  congr 1
  omega
theorem get_app0 {h l : IH} : (h ++ l)[h.length]? = l[0]? := by
  rw [List.getElem?_append_right (by omega)]
  congr 1
  omega
theorem set_app {h l : IH} {k : Nat} {c : Cell} : (h ++ l).set (h.length + k) c = h ++ l.set k c := by
  rw [List.set_append, if_neg (by omega)]
  congr 2
  omega
theorem set_app0 {h l : IH} {c : Cell} : (h ++ l).set h.length c = h ++ l.set 0 c := by
  rw [List.set_append, if_neg (by omega)]
  congr 2
  omega
theorem get_old {h l : IH} {j : Nat} {c : Cell} (e : h[j]? = some c) : (h ++ l)[j]? = some c := by
  rw [List.getElem?_append_left (List.getElem?_eq_some_iff.mp e).1]
  exact e
@[simp] theorem dIs_bl {neg : Bool} {a b : Bool} {h : IH} : dIsN neg (.bl a) (.bl b) h = .ok (.bl (if neg then !decide (a = b) else decide (a = b))) h := rfl
@[simp] theorem dIs_non {neg : Bool} {h : IH} : dIsN neg .non .non h = .ok (.bl (!neg)) h := rfl
@[simp] theorem isT_non {T : String} {h : IH} : isT T h .non = kitB "NoneType" T := rfl
@[simp] theorem isT_bl {T : String} {b : Bool} {h : IH} : isT T h (.bl b) = kitB "bool" T := rfl
@[simp] theorem isT_int {T : String} {b : Int} {h : IH} : isT T h (.int b) = kitB "int" T := rfl
@[simp] theorem isT_str {T : String} {b : List Nat} {h : IH} : isT T h (.str b) = kitB "str" T := rfl
@[simp] theorem isT_tup {T : String} {b : List D} {h : IH} : isT T h (.tup b) = kitB "tuple" T := rfl
theorem isT_lst {T : String} {n : Nat} {xs : List D} {h : IH} (e : h[n]? = some (.lst xs)) : isT T h (.ref n) = kitB "list" T := by
  unfold isT
  dsimp only
  rw [e]
theorem isT_dk {T : String} {n : Nat} {xs : List (DKey × D)} {h : IH} (e : h[n]? = some (.dk xs)) : isT T h (.ref n) = kitB "dict" T := by
  unfold isT
  dsimp only
  rw [e]
@[simp] theorem kit_NoneType_bool : kitB "NoneType" "bool" = some false := by decide +kernel
@[simp] theorem kit_NoneType_int : kitB "NoneType" "int" = some false := by decide +kernel
@[simp] theorem kit_NoneType_str : kitB "NoneType" "str" = some false := by decide +kernel
@[simp] theorem kit_NoneType_tuple : kitB "NoneType" "tuple" = some false := by decide +kernel
@[simp] theorem kit_NoneType_list : kitB "NoneType" "list" = some false := by decide +kernel
@[simp] theorem kit_NoneType_dict : kitB "NoneType" "dict" = some false := by decide +kernel
@[simp] theorem kit_bool_bool : kitB "bool" "bool" = some true := by decide +kernel
@[simp] theorem kit_bool_int : kitB "bool" "int" = some true := by decide +kernel
@[simp] theorem kit_bool_str : kitB "bool" "str" = some false := by decide +kernel
@[simp] theorem kit_bool_tuple : kitB "bool" "tuple" = some false := by decide +kernel
@[simp] theorem kit_bool_list : kitB "bool" "list" = some false := by decide +kernel
@[simp] theorem kit_bool_dict : kitB "bool" "dict" = some false := by decide +kernel
@[simp] theorem kit_int_bool : kitB "int" "bool" = some false := by decide +kernel
@[simp] theorem kit_int_int : kitB "int" "int" = some true := by decide +kernel
@[simp] theorem kit_int_str : kitB "int" "str" = some false := by decide +kernel
@[simp] theorem kit_int_tuple : kitB "int" "tuple" = some false := by decide +kernel
@[simp] theorem kit_int_list : kitB "int" "list" = some false := by decide +kernel
@[simp] theorem kit_int_dict : kitB "int" "dict" = some false := by decide +kernel
@[simp] theorem kit_str_bool : kitB "str" "bool" = some false := by decide +kernel
@[simp] theorem kit_str_int : kitB "str" "int" = some false := by decide +kernel
@[simp] theorem kit_str_str : kitB "str" "str" = some true := by decide +kernel
@[simp] theorem kit_str_tuple : kitB "str" "tuple" = some false := by decide +kernel
@[simp] theorem kit_str_list : kitB "str" "list" = some false := by decide +kernel
@[simp] theorem kit_str_dict : kitB "str" "dict" = some false := by decide +kernel
@[simp] theorem kit_tuple_bool : kitB "tuple" "bool" = some false := by decide +kernel
@[simp] theorem kit_tuple_int : kitB "tuple" "int" = some false := by decide +kernel
@[simp] theorem kit_tuple_str : kitB "tuple" "str" = some false := by decide +kernel
@[simp] theorem kit_tuple_tuple : kitB "tuple" "tuple" = some true := by decide +kernel
@[simp] theorem kit_tuple_list : kitB "tuple" "list" = some false := by decide +kernel
@[simp] theorem kit_tuple_dict : kitB "tuple" "dict" = some false := by decide +kernel
@[simp] theorem kit_list_bool : kitB "list" "bool" = some false := by decide +kernel
@[simp] theorem kit_list_int : kitB "list" "int" = some false := by decide +kernel
@[simp] theorem kit_list_str : kitB "list" "str" = some false := by decide +kernel
@[simp] theorem kit_list_tuple : kitB "list" "tuple" = some false := by decide +kernel
@[simp] theorem kit_list_list : kitB "list" "list" = some true := by decide +kernel
@[simp] theorem kit_list_dict : kitB "list" "dict" = some false := by decide +kernel
@[simp] theorem kit_dict_bool : kitB "dict" "bool" = some false := by decide +kernel
@[simp] theorem kit_dict_int : kitB "dict" "int" = some false := by decide +kernel
@[simp] theorem kit_dict_str : kitB "dict" "str" = some false := by decide +kernel
@[simp] theorem kit_dict_tuple : kitB "dict" "tuple" = some false := by decide +kernel
@[simp] theorem kit_dict_list : kitB "dict" "list" = some false := by decide +kernel
@[simp] theorem kit_dict_dict : kitB "dict" "dict" = some true := by decide +kernel
/-! == of data without truths -/
def D.nb : Nat → D → Bool
  | 0, _ => false
  | k + 1, d => match d with
    | .non => true
    | .int _ => true
    | .str _ => true
    | .tup l => l.all (D.nb k)
    | .fl l => l.all (D.nb k)
    | _ => false
theorem nb_py {h : IH} : ∀ {k : Nat} {d : D}, d.nb k = true → ∃ p, D.py h k d = some p := by
  intro k
  induction k with
  | zero => intro d e; simp [D.nb] at e
  | succ k ih =>
    have all : ∀ l : List D, l.all (D.nb k) = true → ∃ ps, allM (D.py h k) l = some ps := by
      intro l
      induction l with
      | nil => exact fun _ => ⟨[], rfl⟩
      | cons d l il =>
        intro e
        simp only [List.all_cons, Bool.and_eq_true] at e
        obtain ⟨p, hp⟩ := ih e.1
        obtain ⟨ps, hps⟩ := il e.2
        exact ⟨p :: ps, by unfold allM; rw [hp, hps]⟩
    intro d e
    cases d with
    | non => exact ⟨_, rfl⟩
    | int i => exact ⟨_, rfl⟩
    | str s => exact ⟨_, rfl⟩
    | tup l =>
      obtain ⟨ps, hps⟩ := all l (by simpa [D.nb] using e)
      exact ⟨.tuple ps, by simp [D.py, hps]⟩
    | fl l =>
      obtain ⟨ps, hps⟩ := all l (by simpa [D.nb] using e)
      exact ⟨.list ps, by simp [D.py, hps]⟩
    | _ => simp [D.nb] at e
theorem nb_eqv {h : IH} : ∀ {k : Nat} {x y : D} {p q : PyData}, x.nb k = true → y.nb k = true → D.py h k x = some p → D.py h k y = some q → (PyData.eqv p q = true ↔ x = y) := by
  intro k
  induction k with
  | zero => intro x y p q e; simp [D.nb] at e
  | succ k ih =>
    have all : ∀ (l m : List D) (ps qs : List PyData), l.all (D.nb k) = true → m.all (D.nb k) = true → allM (D.py h k) l = some ps → allM (D.py h k) m = some qs → (PyData.eqvAll ps qs = true ↔ l = m) := by
      intro l
      induction l with
      | nil =>
        intro m ps qs _ _ e1 e2
        simp only [allM, Option.some.injEq] at e1
        subst e1
        cases m with
        | nil => simp only [allM, Option.some.injEq] at e2; subst e2; simp [PyData.eqvAll]
        | cons d m => obtain ⟨a, as, _, _, rfl⟩ := allM_cons e2; simp [PyData.eqvAll]
      | cons d l il =>
        intro m ps qs a1 a2 e1 e2
        obtain ⟨p, ps', b1, b2, rfl⟩ := allM_cons e1
        simp only [List.all_cons, Bool.and_eq_true] at a1
        cases m with
        | nil => simp only [allM, Option.some.injEq] at e2; subst e2; simp [PyData.eqvAll]
        | cons d' m =>
          obtain ⟨q, qs', c1, c2, rfl⟩ := allM_cons e2
          simp only [List.all_cons, Bool.and_eq_true] at a2
          simp [PyData.eqvAll, ih a1.1 a2.1 b1 c1, il m ps' qs' a1.2 a2.2 b2 c2]
    intro x y p q nx ny ex ey
    cases x with
    | non => cases y with
      | non => simp [D.py] at ex ey; subst ex ey; simp [PyData.eqv]
      | int j => simp [D.py] at ex ey; subst ex ey; simp [PyData.eqv]
      | str t => simp [D.py] at ex ey; subst ex ey; simp [PyData.eqv]
      | tup m => simp only [D.py, Option.map_eq_some_iff] at ex ey; obtain ⟨qs, _, rfl⟩ := ey; simp at ex; subst ex; simp [PyData.eqv]
      | fl m => simp only [D.py, Option.map_eq_some_iff] at ex ey; obtain ⟨qs, _, rfl⟩ := ey; simp at ex; subst ex; simp [PyData.eqv]
      | _ => simp [D.nb] at ny
    | int i => cases y with
      | non => simp [D.py] at ex ey; subst ex ey; simp [PyData.eqv]
      | int j => simp [D.py] at ex ey; subst ex ey; simp [PyData.eqv]
      | str t => simp [D.py] at ex ey; subst ex ey; simp [PyData.eqv]
      | tup m => simp only [D.py, Option.map_eq_some_iff] at ex ey; obtain ⟨qs, _, rfl⟩ := ey; simp at ex; subst ex; simp [PyData.eqv]
      | fl m => simp only [D.py, Option.map_eq_some_iff] at ex ey; obtain ⟨qs, _, rfl⟩ := ey; simp at ex; subst ex; simp [PyData.eqv]
      | _ => simp [D.nb] at ny
    | str s => cases y with
      | non => simp [D.py] at ex ey; subst ex ey; simp [PyData.eqv]
      | int j => simp [D.py] at ex ey; subst ex ey; simp [PyData.eqv]
      | str t =>
        simp [D.py] at ex ey; subst ex ey
        rw [show PyData.eqv (.str (strV s)) (.str (strV t)) = (strV s == strV t) by simp [PyData.eqv], strV_eq]
        simp
      | tup m => simp only [D.py, Option.map_eq_some_iff] at ex ey; obtain ⟨qs, _, rfl⟩ := ey; simp at ex; subst ex; simp [PyData.eqv]
      | fl m => simp only [D.py, Option.map_eq_some_iff] at ex ey; obtain ⟨qs, _, rfl⟩ := ey; simp at ex; subst ex; simp [PyData.eqv]
      | _ => simp [D.nb] at ny
    | tup l =>
      simp only [D.py, Option.map_eq_some_iff] at ex
      obtain ⟨ps, e1, rfl⟩ := ex
      cases y with
      | non => simp [D.py] at ey; subst ey; simp [PyData.eqv]
      | int j => simp [D.py] at ey; subst ey; simp [PyData.eqv]
      | str t => simp [D.py] at ey; subst ey; simp [PyData.eqv]
      | tup m =>
        simp only [D.py, Option.map_eq_some_iff] at ey; obtain ⟨qs, e2, rfl⟩ := ey
        have := all l m ps qs (by simpa [D.nb] using nx) (by simpa [D.nb] using ny) e1 e2
        simp [PyData.eqv, this]
      | fl m => simp only [D.py, Option.map_eq_some_iff] at ey; obtain ⟨qs, _, rfl⟩ := ey; simp [PyData.eqv]
      | _ => simp [D.nb] at ny
    | fl l =>
      simp only [D.py, Option.map_eq_some_iff] at ex
      obtain ⟨ps, e1, rfl⟩ := ex
      cases y with
      | non => simp [D.py] at ey; subst ey; simp [PyData.eqv]
      | int j => simp [D.py] at ey; subst ey; simp [PyData.eqv]
      | str t => simp [D.py] at ey; subst ey; simp [PyData.eqv]
      | fl m =>
        simp only [D.py, Option.map_eq_some_iff] at ey; obtain ⟨qs, e2, rfl⟩ := ey
        have := all l m ps qs (by simpa [D.nb] using nx) (by simpa [D.nb] using ny) e1 e2
        simp [PyData.eqv, this]
      | tup m => simp only [D.py, Option.map_eq_some_iff] at ey; obtain ⟨qs, _, rfl⟩ := ey; simp [PyData.eqv]
      | _ => simp [D.nb] at ny
    | _ => simp [D.nb] at nx
open Classical in
theorem dEq_nb {neg : Bool} {h : IH} {x y : D} (nx : x.nb 50 = true) (ny : y.nb 50 = true) : dEq neg x y h = .ok (.bl (if neg then !decide (x = y) else decide (x = y))) h := by
  obtain ⟨p, hp⟩ := nb_py (h := h) nx
  obtain ⟨q, hq⟩ := nb_py (h := h) ny
  unfold dEq
  rw [hp, hq]
  dsimp only
  have : PyData.eqv p q = decide (x = y) := by
    rw [Bool.eq_iff_iff, nb_eqv nx ny hp hq]
    simp
  rw [this]
/-- a comprehension that is locked at once: each item by what is known of it -/
theorem lcF_ex {env : EV} {h : IH} {m : ME} {it : MI} {gg : MG} {ws : List Nat} {ds : List D} (Po : Nat → D → Prop) (hi : it env h = .ok (.st ds) h) (hl : ds.length ≤ 9000000)
    (step : ∀ i d, ds[i]? = some d → ∃ e1 y, gg d (wipeE env ws) = some e1 ∧ (∀ x, m e1 (h ++ [x]) = .ok y (h ++ [x])) ∧ D.lo h.length y = true ∧ Po i y) : ∃ ys, mFz (mLc it gg mYes m ws) env h = .ok (.fl ys) h ∧ ys.length = ds.length ∧ ∀ i y, ys[i]? = some y → Po i y := by
  let F : D → D := fun d => match gg d (wipeE env ws) with
    | some e1 => match m e1 (h ++ [Cell.lst []]) with
      | .ok y _ => y
      | _ => .non
    | none => .non
  have eF : ∀ i d, ds[i]? = some d → ∃ e1, gg d (wipeE env ws) = some e1 ∧ (∀ x, m e1 (h ++ [x]) = .ok (F d) (h ++ [x])) ∧ D.lo h.length (F d) = true ∧ Po i (F d) := fun i d hd => by
    obtain ⟨e1, y, g1, g2, g3, g4⟩ := step i d hd
    have : F d = y := by
      show (match gg d (wipeE env ws) with
        | some e1 => match m e1 (h ++ [Cell.lst []]) with
          | .ok y _ => y
          | _ => D.non
        | none => D.non) = y
      rw [g1]
      dsimp only
      rw [g2]
    rw [this]
    exact ⟨e1, g1, g2, g3, g4⟩
  refine ⟨ds.map F, lcF_map F hi hl (fun d hd => ?_) (fun d hd => ?_), by simp, fun i y hy => ?_⟩
  · obtain ⟨i, hi⟩ := List.mem_iff_getElem?.mp hd
    obtain ⟨_, _, _, g3, _⟩ := eF i d hi
    exact g3
  · obtain ⟨i, hi⟩ := List.mem_iff_getElem?.mp hd
    obtain ⟨e1, g1, g2, _⟩ := eF i d hi
    exact ⟨e1, g1, g2⟩
  · rw [List.getElem?_map] at hy
    cases q : ds[i]? with
    | none => rw [q] at hy; cases hy
    | some d =>
      rw [q] at hy
      cases hy
      obtain ⟨_, _, _, _, g4⟩ := eF i d q
      exact g4
/-- items of a list, each by what is known of it -/
theorem list_of {A B : Type} {f : A → B} {Po : Nat → A → Prop} : ∀ {ys : List B}, (∀ i y, ys[i]? = some y → ∃ a, y = f a ∧ Po i a) → ∃ as : List A, ys = as.map f ∧ ∀ i a, as[i]? = some a → Po i a
  | [], _ => ⟨[], rfl, by simp⟩
  | y :: ys, h => by
    obtain ⟨a, rfl, pa⟩ := h 0 y rfl
    obtain ⟨as, rfl, ps⟩ := list_of (Po := fun i => Po (i + 1)) (ys := ys) fun i z hz => h (i + 1) z (by simpa using hz)
    exact ⟨a :: as, rfl, fun i b hb => by
      cases i with
      | zero => simp at hb; subst hb; exact pa
      | succ i => exact ps i b (by simpa using hb)⟩
/-- of a number's item -/
def natP (p : Nat → Bool) : D → Bool
  | .int k => p k.toNat
  | _ => false
def natF (f : Nat → D) : D → D
  | .int k => f k.toNat
  | d => d
@[simp] theorem natP_int {p : Nat → Bool} {x : Nat} : natP p (.int (x : Nat)) = p x := rfl
@[simp] theorem natF_int {f : Nat → D} {x : Nat} : natF f (.int (x : Nat)) = f x := rfl
@[simp] theorem natP_nD {p : Nat → Bool} {x : Nat} : natP p (nD x) = p x := rfl
@[simp] theorem natF_nD {f : Nat → D} {x : Nat} : natF f (nD x) = f x := rfl
theorem natP_filter (ss : List Nat) (p : Nat → Bool) : (ss.map nD).filter (natP p) = (ss.filter p).map nD := by
  rw [List.filter_map]
  rfl
theorem natF_map (ss : List Nat) (f : Nat → D) : (ss.map nD).map (natF f) = ss.map f := by
  rw [List.map_map]
  rfl
/-- of a sign's item -/
def sgP (p : Nat → Bool) : D → Bool
  | .str [k] => p k
  | _ => false
def sgF (f : Nat → D) : D → D
  | .str [k] => f k
  | d => d
@[simp] theorem sgP_str {p : Nat → Bool} {x : Nat} : sgP p (.str [x]) = p x := rfl
@[simp] theorem sgF_str {f : Nat → D} {x : Nat} : sgF f (.str [x]) = f x := rfl
theorem sgP_filter (ss : List Nat) (p : Nat → Bool) : (sgD ss).filter (sgP p) = sgD (ss.filter p) := by
  unfold sgD
  rw [List.filter_map]
  rfl
theorem sgF_map (ss : List Nat) (f : Nat → D) : (sgD ss).map (sgF f) = ss.map f := by
  unfold sgD
  rw [List.map_map]
  rfl
theorem intsFrom_nD (n : Nat) : intsFrom 0 n = (List.range n).map nD := by simp [intsFrom, nD]
end NR

set_option Elab.async false
set_option linter.all false
set_option maxRecDepth 100000
set_option maxHeartbeats 4000000
namespace NR
open PySem PySem.Spec PyProof.Rows L2
/-! ### a pen's cell -/
def PQ (cs : List Int) (a g : Int) : Cell := .lst [.fl (cs.map D.int), .int a, .int g]
/-- b draws can still be made -/
def Pn (b : Nat) (c : Cell) : Prop := ∃ (cs : List Int) (a g : Int), c = PQ cs a g ∧ cs.length ≤ 63 ∧ 0 ≤ a ∧ a + b ≤ 1000000000000 ∧ 0 ≤ g
theorem Pn.mono {b b' : Nat} {c : Cell} (h : Pn b c) (l : b' ≤ b) : Pn b' c := by
  obtain ⟨cs, a, g, h1, h2, h3, h4, h5⟩ := h
  exact ⟨cs, a, g, h1, h2, h3, by omega, h5⟩
theorem Pn.lo {b : Nat} {c : Cell} (h : Pn b c) (k : Nat) : Cell.lo k c = true := by
  obtain ⟨cs, a, g, rfl, _⟩ := h
  simp [PQ]
theorem Pn_lo : ∀ (b : Nat) (c : Cell) (k : Nat), Pn b c → Cell.lo k c = true := fun _ _ k h => h.lo k
theorem draw_call {b : Nat} {z c : Cell} {g : IH} {m : Int} (h : Pn (b + 1) c) (h1 : 1 ≤ m) (h2 : m ≤ 1000000) :
    ∃ (t : Nat) (c' : Cell), callC 2 m__law_take [.ref 1, .int m] (z :: c :: g) = .ok (.int (t : Nat)) (z :: c' :: g) ∧ (t : Int) < m ∧ Pn b c' := by
  obtain ⟨cs, a, gr, rfl, cl, a0, a1, g0⟩ := h
  have hm1 : (0 : Int) < m := by omega
  have hm2 : m < 18446744073709551616 := by omega
  have i0 : ∀ x y : Int, dIx (.ref 1) (.int 0) (z :: PQ cs x y :: g) = .ok (.fl (cs.map D.int)) (z :: PQ cs x y :: g) := fun x y => dIx_ref (n := 1) rfl (by omega) rfl
  have i1 : ∀ x y : Int, dIx (.ref 1) (.int 1) (z :: PQ cs x y :: g) = .ok (.int x) (z :: PQ cs x y :: g) := fun x y => dIx_ref (n := 1) rfl (by omega) rfl
  have i2 : ∀ x y : Int, dIx (.ref 1) (.int 2) (z :: PQ cs x y :: g) = .ok (.int y) (z :: PQ cs x y :: g) := fun x y => dIx_ref (n := 1) rfl (by omega) rfl
  have q1 : ∀ x y v : Int, putD (.ref 1) (.int 1) (.int v) (z :: PQ cs x y :: g) = some (z :: PQ cs v y :: g) := fun x y v => putD_ref (n := 1) (xs := [.fl (cs.map D.int), .int x, .int y]) rfl (by omega) (by simp)
  have q2 : ∀ x y v : Int, putD (.ref 1) (.int 2) (.int v) (z :: PQ cs x y :: g) = some (z :: PQ cs x v :: g) := fun x y v => putD_ref (n := 1) (xs := [.fl (cs.map D.int), .int x, .int y]) rfl (by omega) (by simp)
  have fin : ∀ (t x y : Int), m__law_take [.ref 1, .int m] (z :: PQ cs a gr :: g) = .ok (.int t) (z :: PQ cs x y :: g) → 0 ≤ t → t < m → 0 ≤ x → x ≤ a + 1 → 0 ≤ y → _ := fun t x y e t0 t1 x0 x1 y0 =>
    (⟨t.toNat, PQ cs x y, callC_len rfl (by rw [e, Int.toNat_of_nonneg t0]) (by simp), by omega, cs, x, y, rfl, cl, x0, by omega, y0⟩ : ∃ (t : Nat) (c' : Cell), callC 2 m__law_take [.ref 1, .int m] (z :: PQ cs a gr :: g) = .ok (.int (t : Nat)) (z :: c' :: g) ∧ (t : Int) < m ∧ Pn b c')
  by_cases hg : 0 < gr
  · refine fin (gr % m) a (gr / m) ?_ (Int.emod_nonneg _ (by omega)) (Int.emod_lt_of_pos _ hm1) a0 (by omega) (Int.ediv_nonneg g0 (by omega))
    unfold m__law_take
    simp [i2, q2, hg, cMod, cDiv, hm1, hm2, dI]
  · have hg0 : gr = 0 := by omega
    subst hg0
    -- the number
    have last : ∀ (y : Int), ∃ N : Int, 0 ≤ N ∧ ∀ s5 : Option D, ∃ s6 : Option D, ∀ h : IH, (msCons (msSet 6 (mOp dMod (mOp dPow (mOp dAdd (mOp dAdd (mOp dMod (mVar 4) (mC (.int 2147483587))) (mOp dMul (mC (.int 40709)) (mVar 3))) (mC (.int 31))) (mC (.int 3))) (mC (.int 2147483647))))
      (msCons (msSet 6 (mOp dMod (mOp dAdd (mOp dAdd (mOp dMul (mVar 6) (mVar 6)) (mOp dMul (mC (.int 48271)) (mVar 6))) (mVar 3)) (mC (.int 2147483629))))
      (msRet (mOp dMod (mOp dDiv (mVar 6) (mC (.int 64))) (mVar 1))))) [some (.ref 1), some (.int m), none, some (.int a), some (.int y), s5, none] h = .rt (.int (N % m)) h := by
      intro y
      generalize hY : y % 2147483587 = Y
      have y0 : 0 ≤ Y := by rw [← hY]; exact Int.emod_nonneg _ (by omega)
      have y1 : Y < 2147483587 := by rw [← hY]; exact Int.emod_lt_of_pos _ (by omega)
      have w1 : (Y + 40709 * a + 31).natAbs < 18446744073709551616 := by omega
      generalize hN : (Y + 40709 * a + 31) ^ 3 % 2147483647 = N
      have n0 : 0 ≤ N := by rw [← hN]; exact Int.emod_nonneg _ (by omega)
      have n1 : N < 2147483647 := by rw [← hN]; exact Int.emod_lt_of_pos _ (by omega)
      have c1 : cMul N N = true := by simp [cMul]; omega
      have c2 : cMul 48271 N = true := by simp [cMul]
      have c3 : cMul 40709 a = true := by simp [cMul]
      refine ⟨(N * N + 48271 * N + a) % 2147483629 / 64, Int.ediv_nonneg (Int.emod_nonneg _ (by omega)) (by omega), fun s5 => ⟨none, fun h => ?_⟩⟩
      simp [cMod, cPow, cDiv, hY, c1, c2, c3, w1, hN, hm1, hm2]
    by_cases c0 : cs = []
    · subst c0
      obtain ⟨N, n0, e⟩ := last 5
      obtain ⟨s6, e⟩ := e none
      refine fin (N % m) (a + 1) 0 ?_ (Int.emod_nonneg _ (by omega)) (Int.emod_lt_of_pos _ hm1) (by omega) (by omega) (by omega)
      have a0' : ¬ a < 0 := by omega
      unfold m__law_take
      generalize (msCons (msSet 6 (mOp dMod (mOp dPow (mOp dAdd (mOp dAdd (mOp dMod (mVar 4) (mC (.int 2147483587))) (mOp dMul (mC (.int 40709)) (mVar 3))) (mC (.int 31))) (mC (.int 3))) (mC (.int 2147483647))))
      (msCons (msSet 6 (mOp dMod (mOp dAdd (mOp dAdd (mOp dMul (mVar 6) (mVar 6)) (mOp dMul (mC (.int 48271)) (mVar 6))) (mVar 3)) (mC (.int 2147483629))))
      (msRet (mOp dMod (mOp dDiv (mVar 6) (mC (.int 64))) (mVar 1))))) = F at e
      simp at i0 i1 i2 q1 q2
      simp [i0, i1, i2, q1, q2, e, a0']
    · have lp : 0 < cs.length := List.length_pos_iff.mpr c0
      have lp' : (0 : Int) < (cs.length : Nat) := by omega
      have r0 : 0 ≤ a % (cs.length : Nat) := Int.emod_nonneg _ (by omega)
      have r1 : a % (cs.length : Nat) < (cs.length : Nat) := Int.emod_lt_of_pos _ lp'
      generalize hr : a % (cs.length : Nat) = r at r0 r1
      have hi : r.toNat < cs.length := by omega
      have gx : ∀ h : IH, dIx (.fl (cs.map D.int)) (.int r) h = .ok (.int cs[r.toNat]) h := fun h => dIx_seq rfl r0 (by rw [List.getElem?_map, List.getElem?_eq_getElem hi]; rfl)
      generalize cs[r.toNat] = y at gx
      have cm : cMod a (cs.length : Nat) = true := by simp [cMod]; omega
      have c2' : cMul 2 (if y < 0 then -y else y) = true := by simp [cMul]
      by_cases c2 : a < cs.length
      · by_cases c3 : 1000000000000000000 ≤ (if y < 0 then -y else y)
        · have G0 : 0 ≤ 2 * (if y < 0 then -y else y) + (if y < 0 then 1 else 0) := by split <;> omega
          refine fin ((2 * (if y < 0 then -y else y) + (if y < 0 then 1 else 0)) % m) (a + 1) ((2 * (if y < 0 then -y else y) + (if y < 0 then 1 else 0)) / m) ?_ (Int.emod_nonneg _ (by omega)) (Int.emod_lt_of_pos _ hm1) (by omega) (by omega) (Int.ediv_nonneg G0 (by omega))
          unfold m__law_take
          simp [i0, i1, i2, q1, q2, lp, cm, hr, gx, c2, c3, cPow, c2', cMod, cDiv, hm1, hm2]
        · obtain ⟨N, n0, e⟩ := last y
          obtain ⟨s6, e⟩ := e none
          refine fin (N % m) (a + 1) 0 ?_ (Int.emod_nonneg _ (by omega)) (Int.emod_lt_of_pos _ hm1) (by omega) (by omega) (by omega)
          unfold m__law_take
          generalize (msCons (msSet 6 (mOp dMod (mOp dPow (mOp dAdd (mOp dAdd (mOp dMod (mVar 4) (mC (.int 2147483587))) (mOp dMul (mC (.int 40709)) (mVar 3))) (mC (.int 31))) (mC (.int 3))) (mC (.int 2147483647))))
          (msCons (msSet 6 (mOp dMod (mOp dAdd (mOp dAdd (mOp dMul (mVar 6) (mVar 6)) (mOp dMul (mC (.int 48271)) (mVar 6))) (mVar 3)) (mC (.int 2147483629))))
          (msRet (mOp dMod (mOp dDiv (mVar 6) (mC (.int 64))) (mVar 1))))) = F at e
          simp [i0, i1, i2, q1, q2, lp, cm, hr, gx, c2, c3, cPow, e]
      · obtain ⟨N, n0, e⟩ := last y
        obtain ⟨s6, e⟩ := e none
        refine fin (N % m) (a + 1) 0 ?_ (Int.emod_nonneg _ (by omega)) (Int.emod_lt_of_pos _ hm1) (by omega) (by omega) (by omega)
        unfold m__law_take
        generalize (msCons (msSet 6 (mOp dMod (mOp dPow (mOp dAdd (mOp dAdd (mOp dMod (mVar 4) (mC (.int 2147483587))) (mOp dMul (mC (.int 40709)) (mVar 3))) (mC (.int 31))) (mC (.int 3))) (mC (.int 2147483647))))
        (msCons (msSet 6 (mOp dMod (mOp dAdd (mOp dAdd (mOp dMul (mVar 6) (mVar 6)) (mOp dMul (mC (.int 48271)) (mVar 6))) (mVar 3)) (mC (.int 2147483629))))
        (msRet (mOp dMod (mOp dDiv (mVar 6) (mC (.int 64))) (mVar 1))))) = F at e
        simp [i0, i1, i2, q1, q2, lp, cm, hr, gx, c2, e]
theorem source_eq (ns : List Int) (hl : ns.length ≤ 63) : ∃ c, callC 1 m__law_pen [.ref 0] [.frz (ns.map D.int)] = .ok (.ref 1) [.frz (ns.map D.int), c] ∧ Pn 999999999999 c := by
  have e0 : cutD (ns.map D.int) none (some 63) = ns.map D.int := by
    rw [cutD_to (by omega), List.take_of_length_le (by simp; omega)]
  have e1 : sliceD (.ref 0) none (some 63) [.frz (ns.map D.int)] = newL [.frz (ns.map D.int)] (ns.map D.int) := by
    unfold sliceD
    simp [lstOf, e0, newL]
  have e2 : fzD [.frz (ns.map D.int)] [.frz (ns.map D.int)] (ns.map D.int) = .ok (.fl (ns.map D.int)) [.frz (ns.map D.int)] := fzD_same (by simp)
  refine ⟨PQ ns 0 0, callC_new rfl ?_ (by simp), ns, 0, 0, rfl, hl, by omega, by omega, by omega⟩
  unfold m__law_pen
  simp [e1, fz_newL, e2, newL_bindS, PQ]
end NR

set_option Elab.async false
set_option linter.all false
set_option maxRecDepth 100000
set_option maxHeartbeats 4000000
namespace NR
open PySem PySem.Spec PyProof.Rows L2
def allSigns : List Nat := [32, 33, 34, 35, 36, 38, 39, 40, 41, 42, 43, 44, 45, 46, 47, 48, 49, 50, 51, 52, 53, 54, 55, 56, 57, 58, 59, 60, 61, 62, 63, 64, 65, 66, 67, 68, 69, 70, 71, 72, 73, 74, 75, 76, 77, 78, 79, 80, 81, 82, 83, 84, 85, 86, 87, 88, 89, 90, 91, 92, 93, 94, 95, 96, 97, 98, 99, 100, 101, 102, 103, 104, 105, 106, 107, 108, 109, 110, 111, 112, 113, 114, 115, 116, 117, 118, 119, 120, 121, 122, 123, 124, 125, 126, 10]
theorem allSigns_nodup : allSigns.Nodup := by decide
theorem allSigns_len : allSigns.length = 95 := by decide
theorem signs_call (h : IH) : callC 0 m__law_signs [] h = .ok (.str allSigns) h := callC_same rfl (by unfold m__law_signs; simp [dAdd_str_if, allSigns])
/-- a tongue -/
structure Tgn (t : List Nat) : Prop where
  l1 : 1 ≤ t.length
  l2 : t.length ≤ 6
  nd : t.Nodup
  sub : ∀ c ∈ t, c ∈ allSigns
theorem erase_cut (l : List Nat) (i : Nat) : l.take i ++ l.drop (i + 1) = l.eraseIdx i := (List.eraseIdx_eq_take_drop_succ l i).symm
theorem nodup_erase {l : List Nat} (h : l.Nodup) (i : Nat) : (l.eraseIdx i).Nodup := h.sublist (List.eraseIdx_sublist l i)
theorem not_mem_erase {l : List Nat} (h : l.Nodup) {i c : Nat} (e : l[i]? = some c) : c ∉ l.eraseIdx i := by
  intro hm
  rw [List.mem_eraseIdx_iff_getElem?] at hm
  obtain ⟨j, hj, ej⟩ := hm
  obtain ⟨h1, e1⟩ := List.getElem?_eq_some_iff.mp e
  obtain ⟨h2, e2⟩ := List.getElem?_eq_some_iff.mp ej
  have hp := List.pairwise_iff_getElem.mp h
  rcases Nat.lt_or_gt_of_ne hj with l1 | l1
  · exact hp j i h2 h1 l1 (e2.trans e1.symm)
  · exact hp i j h1 h2 l1 (e1.trans e2.symm)
theorem some_call {b : Nat} {z c : Cell} {g : IH} {R : List Nat} {m : Nat} (nR : R.Nodup) (m1 : 1 ≤ m) (m2 : m ≤ R.length) (rl : R.length ≤ 1000) (hp : Pn (b + m + 1) c) :
    ∃ t c', callC 3 m__law_some [.ref 1, .str R, .int (m : Nat)] (z :: c :: g) = .ok (.str t) (z :: c' :: g) ∧ 1 ≤ t.length ∧ t.length ≤ m ∧ t.Nodup ∧ (∀ x ∈ t, x ∈ R) ∧ Pn b c' := by
  obtain ⟨t, c1, e1, t1, p1⟩ := draw_call (b := b + m) (z := z) (g := g) (m := (m : Nat)) hp (by omega) (by omega)
  have tm : t < m := by omega
  have main : ∃ f c' x y rs, forM (.st (intsFrom 0 (1 + (t : Int)).toNat)) (gSet 4) b__law_some_1 ((Src.st (intsFrom 0 (1 + (t : Int)).toNat)).many (z :: c1 :: g) + 1) 0 [some (.ref 1), some (.str R), some (.int (m : Nat)), some (.str []), none, none] (z :: c1 :: g) =
      .nx [some (.ref 1), some (.str rs), some (.int (m : Nat)), some (.str f), x, y] (z :: c' :: g) ∧ 1 ≤ f.length ∧ f.length ≤ m ∧ f.Nodup ∧ (∀ x ∈ f, x ∈ R) ∧ Pn b c' := by
    have lk : (intsFrom 0 (1 + (t : Int)).toNat).length = t + 1 := by simp [intsFrom]; omega
    refine for_inv (P := fun i env h => ∃ (f rs : List Nat) (c' : Cell) (x y : Option D), env = [some (.ref 1), some (.str rs), some (.int (m : Nat)), some (.str f), x, y] ∧ h = z :: c' :: g ∧ f.length = i ∧ rs.length + i = R.length ∧ f.Nodup ∧ rs.Nodup ∧ (∀ k ∈ f, k ∉ rs) ∧ (∀ k ∈ f, k ∈ R) ∧ (∀ k ∈ rs, k ∈ R) ∧ i ≤ m ∧ Pn (b + (m - i)) c')
      (Rs := fun r => ∃ f c' x y rs, r = .nx [some (.ref 1), some (.str rs), some (.int (m : Nat)), some (.str f), x, y] (z :: c' :: g) ∧ 1 ≤ f.length ∧ f.length ≤ m ∧ f.Nodup ∧ (∀ x ∈ f, x ∈ R) ∧ Pn b c')
      ⟨[], R, c1, none, none, rfl, rfl, rfl, by simp, by simp, nR, by simp, by simp, fun c hc => hc, by omega, p1⟩ ?_ ?_
    · rintro i d env h hd ⟨f, rs, c', x, y, rfl, rfl, lf, lr, nf, nr, dj, s1, s2, i6, p⟩
      have hi : i < t + 1 := by
        have := (List.getElem?_eq_some_iff.mp hd).1
        omega
      refine ⟨_, rfl, ?_⟩
      obtain ⟨u, c2, e2, u1, p2⟩ := draw_call (b := b + (m - (i + 1))) (z := z) (g := g) (m := rs.length) (p.mono (by omega)) (by omega) (by omega)
      have hu : u < rs.length := by omega
      have hc : rs[u]? = some rs[u] := List.getElem?_eq_getElem hu
      generalize rs[u] = k at hc
      have hkm : k ∈ rs := List.mem_of_getElem? hc
      have b1 : ∀ h, bLen [.str rs] h = .ok (.int (rs.length : Nat)) h := fun h => bLen_str (by omega)
      have b2 : ∀ h, dIx (.str rs) (.int (u : Nat)) h = .ok (.str [k]) h := fun h => dIx_str (by omega) (by simpa using hc) (by omega)
      have b3 : ∀ h, dAdd (.str f) (.str [k]) h = .ok (.str (f ++ [k])) h := fun h => dAdd_str (by simp; omega)
      have b4 : ∀ h, sliceD (.str rs) none (some (u : Nat)) h = .ok (.str (rs.take u)) h := fun h => by rw [sliceD_str (by omega), cutN_to (by omega)]; simp
      have b5 : ∀ h, sliceD (.str rs) (some ((u : Nat) + 1)) none h = .ok (.str (rs.drop (u + 1))) h := fun h => by rw [sliceD_str (by omega), cutN_from (by omega)]; congr 2
      have b6 : ∀ h, dAdd (.str (rs.take u)) (.str (rs.drop (u + 1))) h = .ok (.str (rs.eraseIdx u)) h := fun h => by
        rw [dAdd_str, erase_cut]
        rw [List.length_take, List.length_drop]
        omega
      unfold b__law_some_1
      simp only [ap_msCons, ap_msSet, ap_msAug, ap_mCall, ap_mCons, ap_mNil, ap_mVar, ap_mB, ap_mOp, ap_mFz_slice, ap_mFz_op, ap_mSlice, ap_moNone, ap_moSome, ap_mC, bind_ok, bindS_ok, then_nx, List.set_cons_zero, List.set_cons_succ, List.getElem?_cons_zero, List.getElem?_cons_succ, b1, e2, b2, b3, b4, b5, b6, dAdd_int, fz_str, Nx_nx]
      refine ⟨f ++ [k], rs.eraseIdx u, c2, _, _, rfl, rfl, by simp; omega, ?_, ?_, nodup_erase nr _, ?_, ?_, fun j hj => s2 j ((List.eraseIdx_sublist _ _).subset hj), by omega, p2⟩
      · rw [List.length_eraseIdx, if_pos (by omega)]
        omega
      · rw [List.nodup_append]
        exact ⟨nf, by simp, fun a ha j hj => by rw [List.mem_singleton] at hj; subst hj; exact fun z => dj a ha (z ▸ hkm)⟩
      · intro a ha
        rcases List.mem_append.mp ha with ha | ha
        · exact fun z => dj a ha ((List.eraseIdx_sublist _ _).subset z)
        · rw [List.mem_singleton] at ha
          subst ha
          exact not_mem_erase nr hc
      · intro a ha
        rcases List.mem_append.mp ha with ha | ha
        · exact s1 a ha
        · rw [List.mem_singleton] at ha
          subst ha
          exact s2 a hkm
    · rintro env h ⟨f, rs, c', x, y, rfl, rfl, lf, lr, nf, nr, dj, s1, s2, i6, p⟩
      rw [lk] at lf
      exact ⟨f, c', x, y, rs, rfl, by omega, by omega, nf, s1, p.mono (by omega)⟩
  obtain ⟨f, c', x, y, rs, ef, f1, f2, f3, f4, p'⟩ := main
  refine ⟨f, c', callC_pen0 rfl ?_, f1, f2, f3, f4, p'⟩
  unfold m__law_some
  simp [e1, show -10000000 ≤ 1 + (t : Int) ∧ 1 + (t : Int) ≤ 10000000 by omega, ef]
theorem tongue_some {b : Nat} {z c : Cell} {g : IH} (hp : Pn (b + 7) c) :
    ∃ t c', callC 3 m__law_some [.ref 1, .str allSigns, .int 6] (z :: c :: g) = .ok (.str t) (z :: c' :: g) ∧ Tgn t ∧ Pn b c' := by
  obtain ⟨t, c', e, h1, h2, h3, h4, p⟩ := some_call (b := b) (z := z) (c := c) (g := g) (R := allSigns) (m := 6) allSigns_nodup (by omega) (by decide) (by decide) hp
  exact ⟨t, c', e, ⟨h1, h2, h3, h4⟩, p⟩
end NR

set_option Elab.async false
set_option linter.all false
set_option maxRecDepth 100000
set_option maxHeartbeats 4000000
/-! What is equal: plain trees up to the truths' numbers. -/
namespace NR
open PySem PySem.Spec PyProof.Rows L2
mutual
def D.nm : D → D
  | .bl b => .int (if b then 1 else 0)
  | .tup l => .tup (D.nmL l)
  | .fl l => .fl (D.nmL l)
  | d => d
def D.nmL : List D → List D
  | [] => []
  | d :: l => D.nm d :: D.nmL l
end
theorem nmL_map : ∀ l : List D, D.nmL l = l.map D.nm
  | [] => rfl
  | d :: l => by simp [D.nmL, nmL_map l]
@[simp] theorem nm_non : D.nm .non = .non := rfl
@[simp] theorem nm_int {i : Int} : D.nm (.int i) = .int i := rfl
@[simp] theorem nm_str {i : List Nat} : D.nm (.str i) = .str i := rfl
@[simp] theorem nm_bl {b : Bool} : D.nm (.bl b) = .int (if b then 1 else 0) := rfl
@[simp] theorem nm_tup {l : List D} : D.nm (.tup l) = .tup (l.map D.nm) := by rw [← nmL_map]; rfl
@[simp] theorem nm_fl {l : List D} : D.nm (.fl l) = .fl (l.map D.nm) := by rw [← nmL_map]; rfl
/-- a plain tree -/
def D.pl : Nat → D → Bool
  | 0, _ => false
  | k + 1, d => match d with
    | .non => true
    | .bl _ => true
    | .int _ => true
    | .str _ => true
    | .tup l => l.all (D.pl k)
    | .fl l => l.all (D.pl k)
    | _ => false
theorem pl_mono : ∀ {k : Nat} {d : D}, d.pl k = true → d.pl (k + 1) = true := by
  intro k
  induction k with
  | zero => intro d e; simp [D.pl] at e
  | succ k ih =>
    intro d e
    cases d with
    | tup l =>
      simp only [D.pl, List.all_eq_true] at e ⊢
      exact fun x hx => ih (e x hx)
    | fl l =>
      simp only [D.pl, List.all_eq_true] at e ⊢
      exact fun x hx => ih (e x hx)
    | non => rfl
    | bl b => rfl
    | int i => rfl
    | str s => rfl
    | _ => simp [D.pl] at e
theorem pl_le {j k : Nat} (l : j ≤ k) {d : D} (h : d.pl j = true) : d.pl k = true := by
  induction l with
  | refl => exact h
  | step _ ih => exact pl_mono ih
theorem allM_all {A : Type} {f : D → Option A} : ∀ {l : List D}, (∀ d ∈ l, ∃ a, f d = some a) → ∃ as, allM f l = some as
  | [], _ => ⟨[], rfl⟩
  | d :: l, h => by
    obtain ⟨a, ea⟩ := h d List.mem_cons_self
    obtain ⟨as, eas⟩ := allM_all fun x hx => h x (List.mem_cons_of_mem _ hx)
    exact ⟨a :: as, by unfold allM; rw [ea, eas]⟩
theorem pl_py {h : IH} : ∀ {k : Nat} {d : D}, d.pl k = true → ∃ p, D.py h k d = some p := by
  intro k
  induction k with
  | zero => intro d e; simp [D.pl] at e
  | succ k ih =>
    intro d e
    cases d with
    | non => exact ⟨_, rfl⟩
    | bl b => exact ⟨_, rfl⟩
    | int i => exact ⟨_, rfl⟩
    | str s => exact ⟨_, rfl⟩
    | tup l =>
      simp only [D.pl, List.all_eq_true] at e
      obtain ⟨ps, hps⟩ := allM_all fun d hd => ih (e d hd)
      exact ⟨.tuple ps, by simp [D.py, hps]⟩
    | fl l =>
      simp only [D.pl, List.all_eq_true] at e
      obtain ⟨ps, hps⟩ := allM_all fun d hd => ih (e d hd)
      exact ⟨.list ps, by simp [D.py, hps]⟩
    | _ => simp [D.pl] at e
theorem pl_eqv {h : IH} : ∀ {k k' : Nat} {x y : D} {p q : PyData}, x.pl k = true → y.pl k' = true → D.py h k x = some p → D.py h k' y = some q → (PyData.eqv p q = true ↔ x.nm = y.nm) := by
  intro k
  induction k with
  | zero => intro k' x y p q e; simp [D.pl] at e
  | succ k ih =>
    intro k'
    cases k' with
    | zero => intro x y p q _ e; simp [D.pl] at e
    | succ k' =>
    have all : ∀ (l m : List D) (ps qs : List PyData), l.all (D.pl k) = true → m.all (D.pl k') = true → allM (D.py h k) l = some ps → allM (D.py h k') m = some qs → (PyData.eqvAll ps qs = true ↔ l.map D.nm = m.map D.nm) := by
      intro l
      induction l with
      | nil =>
        intro m ps qs _ _ e1 e2
        simp only [allM, Option.some.injEq] at e1
        subst e1
        cases m with
        | nil => simp only [allM, Option.some.injEq] at e2; subst e2; simp [PyData.eqvAll]
        | cons d m => obtain ⟨a, as, _, _, rfl⟩ := allM_cons e2; simp [PyData.eqvAll]
      | cons d l il =>
        intro m ps qs a1 a2 e1 e2
        obtain ⟨p, ps', b1, b2, rfl⟩ := allM_cons e1
        simp only [List.all_cons, Bool.and_eq_true] at a1
        cases m with
        | nil => simp only [allM, Option.some.injEq] at e2; subst e2; simp [PyData.eqvAll]
        | cons d' m =>
          obtain ⟨q, qs', c1, c2, rfl⟩ := allM_cons e2
          simp only [List.all_cons, Bool.and_eq_true] at a2
          simp [PyData.eqvAll, ih a1.1 a2.1 b1 c1, il m ps' qs' a1.2 a2.2 b2 c2]
    intro x y p q nx ny ex ey
    have bi : ∀ (b : Bool) (j : Int), ((if b then (1 : Int) else 0) == j) = decide ((if b then (1 : Int) else 0) = j) := fun b j => by cases b <;> rfl
    cases x with
    | non => cases y with
      | non => simp [D.py] at ex ey; subst ex ey; simp [PyData.eqv]
      | bl j => simp [D.py] at ex ey; subst ex ey; simp [PyData.eqv]
      | int j => simp [D.py] at ex ey; subst ex ey; simp [PyData.eqv]
      | str t => simp [D.py] at ex ey; subst ex ey; simp [PyData.eqv]
      | tup m => simp only [D.py, Option.map_eq_some_iff] at ex ey; obtain ⟨qs, _, rfl⟩ := ey; simp at ex; subst ex; simp [PyData.eqv]
      | fl m => simp only [D.py, Option.map_eq_some_iff] at ex ey; obtain ⟨qs, _, rfl⟩ := ey; simp at ex; subst ex; simp [PyData.eqv]
      | _ => simp [D.pl] at ny
    | bl i => cases y with
      | non => simp [D.py] at ex ey; subst ex ey; simp [PyData.eqv]
      | bl j => simp [D.py] at ex ey; subst ex ey; cases i <;> cases j <;> simp [PyData.eqv]
      | int j => simp [D.py] at ex ey; subst ex ey; simp [PyData.eqv]
      | str t => simp [D.py] at ex ey; subst ex ey; simp [PyData.eqv]
      | tup m => simp only [D.py, Option.map_eq_some_iff] at ex ey; obtain ⟨qs, _, rfl⟩ := ey; simp at ex; subst ex; simp [PyData.eqv]
      | fl m => simp only [D.py, Option.map_eq_some_iff] at ex ey; obtain ⟨qs, _, rfl⟩ := ey; simp at ex; subst ex; simp [PyData.eqv]
      | _ => simp [D.pl] at ny
    | int i => cases y with
      | non => simp [D.py] at ex ey; subst ex ey; simp [PyData.eqv]
      | bl j => simp [D.py] at ex ey; subst ex ey; simp [PyData.eqv]
      | int j => simp [D.py] at ex ey; subst ex ey; simp [PyData.eqv]
      | str t => simp [D.py] at ex ey; subst ex ey; simp [PyData.eqv]
      | tup m => simp only [D.py, Option.map_eq_some_iff] at ex ey; obtain ⟨qs, _, rfl⟩ := ey; simp at ex; subst ex; simp [PyData.eqv]
      | fl m => simp only [D.py, Option.map_eq_some_iff] at ex ey; obtain ⟨qs, _, rfl⟩ := ey; simp at ex; subst ex; simp [PyData.eqv]
      | _ => simp [D.pl] at ny
    | str s => cases y with
      | non => simp [D.py] at ex ey; subst ex ey; simp [PyData.eqv]
      | bl j => simp [D.py] at ex ey; subst ex ey; simp [PyData.eqv]
      | int j => simp [D.py] at ex ey; subst ex ey; simp [PyData.eqv]
      | str t =>
        simp [D.py] at ex ey; subst ex ey
        rw [show PyData.eqv (.str (strV s)) (.str (strV t)) = (strV s == strV t) by simp [PyData.eqv], strV_eq]
        simp
      | tup m => simp only [D.py, Option.map_eq_some_iff] at ex ey; obtain ⟨qs, _, rfl⟩ := ey; simp at ex; subst ex; simp [PyData.eqv]
      | fl m => simp only [D.py, Option.map_eq_some_iff] at ex ey; obtain ⟨qs, _, rfl⟩ := ey; simp at ex; subst ex; simp [PyData.eqv]
      | _ => simp [D.pl] at ny
    | tup l =>
      simp only [D.py, Option.map_eq_some_iff] at ex
      obtain ⟨ps, e1, rfl⟩ := ex
      cases y with
      | non => simp [D.py] at ey; subst ey; simp [PyData.eqv]
      | bl j => simp [D.py] at ey; subst ey; simp [PyData.eqv]
      | int j => simp [D.py] at ey; subst ey; simp [PyData.eqv]
      | str t => simp [D.py] at ey; subst ey; simp [PyData.eqv]
      | tup m =>
        simp only [D.py, Option.map_eq_some_iff] at ey; obtain ⟨qs, e2, rfl⟩ := ey
        have := all l m ps qs (by simpa [D.pl] using nx) (by simpa [D.pl] using ny) e1 e2
        simp [PyData.eqv, this]
      | fl m => simp only [D.py, Option.map_eq_some_iff] at ey; obtain ⟨qs, _, rfl⟩ := ey; simp [PyData.eqv]
      | _ => simp [D.pl] at ny
    | fl l =>
      simp only [D.py, Option.map_eq_some_iff] at ex
      obtain ⟨ps, e1, rfl⟩ := ex
      cases y with
      | non => simp [D.py] at ey; subst ey; simp [PyData.eqv]
      | bl j => simp [D.py] at ey; subst ey; simp [PyData.eqv]
      | int j => simp [D.py] at ey; subst ey; simp [PyData.eqv]
      | str t => simp [D.py] at ey; subst ey; simp [PyData.eqv]
      | fl m =>
        simp only [D.py, Option.map_eq_some_iff] at ey; obtain ⟨qs, e2, rfl⟩ := ey
        have := all l m ps qs (by simpa [D.pl] using nx) (by simpa [D.pl] using ny) e1 e2
        simp [PyData.eqv, this]
      | tup m => simp only [D.py, Option.map_eq_some_iff] at ey; obtain ⟨qs, _, rfl⟩ := ey; simp [PyData.eqv]
      | _ => simp [D.pl] at ny
    | _ => simp [D.pl] at nx
open Classical in
theorem dEq_pl {neg : Bool} {h : IH} {x y : D} (nx : x.pl 50 = true) (ny : y.pl 50 = true) : dEq neg x y h = .ok (.bl (if neg then !decide (x.nm = y.nm) else decide (x.nm = y.nm))) h := by
  obtain ⟨p, hp⟩ := pl_py (h := h) nx
  obtain ⟨q, hq⟩ := pl_py (h := h) ny
  unfold dEq
  rw [hp, hq]
  dsimp only
  have : PyData.eqv p q = decide (x.nm = y.nm) := by
    rw [Bool.eq_iff_iff, pl_eqv nx ny hp hq]
    simp
  rw [this]
/-- a list in the heap is told as its items -/
theorem py_ref {h : IH} {n : Nat} {xs : List D} (e : h[n]? = some (.lst xs)) {k : Nat} : D.py h k (.ref n) = D.py h k (.fl xs) := by
  cases k with
  | zero => rfl
  | succ k =>
    show (match h[n]? with | some (.lst xs) => _ | some (.frz xs) => _ | _ => _) = _
    rw [e]
    rfl
theorem dEq_ref {neg : Bool} {h : IH} {n : Nat} {xs : List D} {y : D} (e : h[n]? = some (.lst xs)) : dEq neg (.ref n) y h = dEq neg (.fl xs) y h := by
  unfold dEq
  rw [py_ref e]
theorem dEq_ref2 {neg : Bool} {h : IH} {n : Nat} {xs : List D} {x : D} (e : h[n]? = some (.lst xs)) : dEq neg x (.ref n) h = dEq neg x (.fl xs) h := by
  unfold dEq
  rw [py_ref e]
open Classical in
theorem dIn_pl {neg : Bool} {h : IH} {x y : D} {ys : List D} (e : seqOf h y = some ys) (nx : x.pl 50 = true) (ny : ∀ d ∈ ys, D.pl 49 d = true) : dIn neg x y h = .ok (.bl (if neg then !decide (x.nm ∈ ys.map D.nm) else decide (x.nm ∈ ys.map D.nm))) h := by
  obtain ⟨p, hp⟩ := pl_py (h := h) nx
  have main : ∀ {ys : List D}, (∀ d ∈ ys, D.pl 49 d = true) → ∃ qs, allM (D.py h 49) ys = some qs ∧ (qs.any fun z => PyData.eqv z p) = decide (x.nm ∈ ys.map D.nm) := by
    intro ys
    induction ys with
    | nil => exact fun _ => ⟨[], rfl, by simp⟩
    | cons d ys ih =>
      intro hy
      obtain ⟨qs, e1, e2⟩ := ih fun z hz => hy z (List.mem_cons_of_mem _ hz)
      obtain ⟨q, hq⟩ := pl_py (h := h) (hy d List.mem_cons_self)
      refine ⟨q :: qs, by unfold allM; rw [hq, e1], ?_⟩
      rw [List.any_cons, e2, Bool.eq_iff_iff]
      simp [pl_eqv (hy d List.mem_cons_self) nx hq hp]
      simp [eq_comm]
  obtain ⟨qs, e1, e2⟩ := main ny
  have e3 : (seqOf h y).bind (allM (D.py h 49)) = some qs := by rw [e]; exact e1
  have : dIn neg x y h = match D.py h 50 x, (seqOf h y).bind (allM (D.py h 49)) with
    | some a, some bs => .ok (.bl (if neg then !(bs.any fun z => PyData.eqv z a) else bs.any fun z => PyData.eqv z a)) h
    | _, _ => .no := by
    unfold dIn
    split
    · simp [seqOf] at e
    · rfl
  rw [this, hp, e3]
  dsimp only
  rw [e2]
theorem bTupleX_ref {h : IH} {n : Nat} {xs : List D} (e : h[n]? = some (.lst xs)) : bTupleX [.ref n] h = .ok (.tup xs) h := by
  show bTuple [.ref n] h = _
  unfold bTuple
  dsimp only
  rw [lstOf_ref e]
@[simp] theorem pl_non {k : Nat} : D.pl (k + 1) .non = true := rfl
@[simp] theorem pl_int {k : Nat} {i : Int} : D.pl (k + 1) (.int i) = true := rfl
@[simp] theorem pl_bl {k : Nat} {i : Bool} : D.pl (k + 1) (.bl i) = true := rfl
@[simp] theorem pl_str {k : Nat} {i : List Nat} : D.pl (k + 1) (.str i) = true := rfl
theorem pl_fl {k : Nat} {l : List D} : D.pl (k + 1) (.fl l) = l.all (D.pl k) := rfl
theorem pl_tup {k : Nat} {l : List D} : D.pl (k + 1) (.tup l) = l.all (D.pl k) := rfl
theorem pl_all {k : Nat} {l : List D} (h : ∀ d ∈ l, D.pl k d = true) : l.all (D.pl k) = true := List.all_eq_true.mpr h
theorem pl_ints {k : Nat} {l : List Int} : (l.map D.int).all (D.pl (k + 1)) = true := pl_all fun d hd => by
  obtain ⟨x, _, rfl⟩ := List.mem_map.mp hd
  rfl
theorem dEq_self {d : D} {h : IH} {neg : Bool} (p : d.pl 50 = true) : dEq neg d d h = .ok (.bl (!neg)) h := by
  rw [dEq_pl p p]
  cases neg <;> simp
@[simp] theorem ap_mFz_dict0 {env : EV} {h : IH} : mFz (mDict []) env h = .ok (.fd [] []) h := by
  have e : mDict [] env h = .ok (.ref h.length) (h ++ [.dk []]) := by
    simp [mDict, mPr, R.bind, keyPs, dkAt]
  rw [ap_mFz0, e]
  unfold fzR
  simp
/-! what is known of a value -/
def D.kn : D → Bool
  | .ref _ => false
  | .exc _ => false
  | _ => true
def D.isI : D → Bool
  | .int _ => true
  | _ => false
def D.kn2 : D → Bool
  | .tup l => l.all D.kn
  | d => d.kn
theorem isT_int_kn {d : D} {h : IH} (k : d.kn = true) : isT "int" h d = some (d.isI || (match d with | .bl _ => true | _ => false)) := by
  cases d with
  | ref n => cases k
  | exc n => cases k
  | _ => simp [D.isI]
theorem isT_bool_kn {d : D} {h : IH} (k : d.kn = true) : isT "bool" h d = some (match d with | .bl _ => true | _ => false) := by
  cases d with
  | ref n => cases k
  | exc n => cases k
  | _ => simp
theorem isT_tuple_kn {d : D} {h : IH} (k : d.kn = true) : isT "tuple" h d = some (match d with | .tup _ => true | _ => false) := by
  cases d with
  | ref n => cases k
  | exc n => cases k
  | _ => simp
theorem sIx_neg {n d k : Nat} (h0 : 1 ≤ k) (h1 : k ≤ n) : HT.sIx n d (some (-(k : Int))) = n - k := by
  show (if -(k : Int) < 0 then (-(k : Int) + (n : Int)).toNat else min (-(k : Int)).toNat n) = _
  rw [if_pos (by omega)]
  omega
theorem cutD_neg {xs : List D} {k : Nat} (h0 : 1 ≤ k) (h1 : k ≤ xs.length) : cutD xs none (some (-(k : Int))) = xs.take (xs.length - k) := by
  show (xs.drop (HT.sIx xs.length 0 none)).take (HT.sIx xs.length xs.length (some (-(k : Int))) - HT.sIx xs.length 0 none) = _
  rw [sIx_neg h0 h1]
  simp [HT.sIx]
theorem cutN_neg {xs : List Nat} {k : Nat} (h0 : 1 ≤ k) (h1 : k ≤ xs.length) : cutN xs none (some (-(k : Int))) = xs.take (xs.length - k) := by
  show (xs.drop (HT.sIx xs.length 0 none)).take (HT.sIx xs.length xs.length (some (-(k : Int))) - HT.sIx xs.length 0 none) = _
  rw [sIx_neg h0 h1]
  simp [HT.sIx]
end NR

set_option Elab.async false
set_option linter.all false
set_option maxRecDepth 100000
set_option maxHeartbeats 1000000
/-! A for over what stands still, by its items. -/
namespace NR
open PySem PySem.Spec PyProof.Rows L2
def forL (g : MG) (b : MS) : List D → EV → IH → RS
  | [], env, h => .nx env h
  | d :: ds, env, h => match g d env with
    | none => .no
    | some e1 => match b e1 h with
      | .nx e2 h2 => forL g b ds e2 h2
      | .ct e2 h2 => forL g b ds e2 h2
      | .bk e2 h2 => .nx e2 h2
      | r => r
/-- what follows a turn -/
def RS.on (k : EV → IH → RS) : RS → RS
  | .nx e h => k e h
  | .ct e h => k e h
  | .bk e h => .nx e h
  | r => r
section
variable {g : MG} {b : MS} {env e1 : EV} {h h' : IH} {d : D} {ds : List D} {k : EV → IH → RS}
@[simp] theorem on_nx : (RS.nx env h).on k = k env h := rfl
@[simp] theorem on_ct : (RS.ct env h).on k = k env h := rfl
@[simp] theorem on_bk : (RS.bk env h).on k = .nx env h := rfl
@[simp] theorem on_rt : (RS.rt d h).on k = .rt d h := rfl
@[simp] theorem on_ex {c : Str} {x : XF} : (RS.ex c x env h).on k = .ex c x env h := rfl
@[simp] theorem forL_nil : forL g b [] env h = .nx env h := rfl
theorem forL_cons (e : g d env = some e1) : forL g b (d :: ds) env h = (b e1 h).on (forL g b ds) := by
  show (match g d env with
    | none => _
    | some e1 => _) = _
  rw [e]
  dsimp only
  cases b e1 h <;> rfl
theorem forM_forL : forM (.st ds) g b ((Src.st ds).many h' + 1) 0 env h = forL g b ds env h := by
  have go : ∀ (m i : Nat) (env : EV) (h : IH), i + m = ds.length + 1 → i ≤ ds.length → forM (.st ds) g b m i env h = forL g b (ds.drop i) env h := by
    intro m
    induction m with
    | zero => 
      intro i env h e l
      omega
    | succ m ih =>
      intro i env h e l
      unfold forM
      rw [if_pos (show (Src.st ds).ok h = true from rfl)]
      show (match ds[i]? with
        | none => _
        | some d => _) = _
      cases hd : ds[i]? with
      | none =>
        rw [List.drop_eq_nil_of_le (List.getElem?_eq_none_iff.mp hd)]
        rfl
      | some d =>
        obtain ⟨hi, hx⟩ := List.getElem?_eq_some_iff.mp hd
        rw [List.drop_eq_getElem_cons hi, hx]
        dsimp only [forL]
        cases g d env with
        | none => rfl
        | some e1 =>
          dsimp only
          cases b e1 h <;> first | rfl | exact ih (i + 1) _ _ (by omega) (by omega)
  exact go _ 0 env h (by show 0 + (ds.length + 1) = _; omega) (Nat.zero_le _)
theorem forL_app {as bs : List D} {env : EV} {h : IH} {e2 : EV} {h2 : IH} (e : forL g b as env h = .nx e2 h2) (nb : ∀ (i : Nat) (d : D) (env : EV) (h : IH) (e1 : EV), as[i]? = some d → g d env = some e1 → ∀ e2 h2, b e1 h ≠ .bk e2 h2) : forL g b (as ++ bs) env h = forL g b bs e2 h2 := by
  induction as generalizing env h with
  | nil => cases e; rfl
  | cons d as ih =>
    cases hg : g d env with
    | none => simp [forL, hg] at e
    | some e1 =>
      rw [List.cons_append, forL_cons hg]
      rw [forL_cons hg] at e
      have nb0 := nb 0 d env h e1 rfl hg
      have nb' : ∀ (i : Nat) (d : D) (env : EV) (h : IH) (e1 : EV), as[i]? = some d → g d env = some e1 → ∀ e2 h2, b e1 h ≠ .bk e2 h2 := fun i d env h e1 q => nb (i + 1) d env h e1 (by simpa using q)
      revert e nb0
      cases b e1 h with
      | nx e3 h3 => intro e _; exact ih e nb'
      | ct e3 h3 => intro e _; exact ih e nb'
      | bk e3 h3 => intro _ nb0; exact absurd rfl (nb0 e3 h3)
      | rt _ _ => intro e; cases e
      | ex _ _ _ _ => intro e; cases e
      | no => intro e; cases e
end
/-! ### dicts whose keys are numbers from nought -/
def lookN {A : Type} (d : List (Nat × A)) (k : Nat) : Option A := (d.find? fun p => decide (p.1 = k)).map (·.2)
def dkN {A : Type} (f : A → D) (d : List (Nat × A)) : List (DKey × D) := d.map fun p => (Sum.inl (p.1 : Int), f p.2)
theorem valKD_dkN {A : Type} {f : A → D} (k : Nat) : ∀ (d : List (Nat × A)), valKD (dkN f d) (Sum.inl (k : Int)) = (lookN d k).map f
  | [] => rfl
  | p :: d => by
    have ih := valKD_dkN (f := f) k d
    unfold valKD lookN at *
    unfold dkN at *
    rw [List.map_cons, List.find?_cons, List.find?_cons]
    by_cases e : p.1 = k
    · have : (Sum.inl (p.1 : Int) : DKey) = Sum.inl (k : Int) := by rw [e]
      simp [e]
    · have : ¬ ((Sum.inl (p.1 : Int) : DKey) = Sum.inl (k : Int)) := fun z => e (by injection z with z; omega)
      simp only [decide_eq_false this, decide_eq_false e]
      exact ih
theorem putKD_dkN {A : Type} {f : A → D} {k : Nat} {a : A} {d : List (Nat × A)} (e : lookN d k = none) : putKD (dkN f d) (Sum.inl (k : Int)) (f a) = dkN f (d ++ [(k, a)]) := by
  have h : ((dkN f d).any fun p => decide (p.1 = (Sum.inl (k : Int) : DKey))) = false := by
    rw [List.any_eq_false]
    intro p hp
    obtain ⟨q, hq, rfl⟩ := List.mem_map.mp hp
    simp only [decide_eq_true_eq]
    intro z
    injection z with z
    have : q.1 = k := by omega
    unfold lookN at e
    rw [Option.map_eq_none_iff, List.find?_eq_none] at e
    exact e q hq (by simpa using this)
  unfold putKD
  rw [h, if_neg Bool.false_ne_true]
  simp [dkN]
theorem lookN_none {A : Type} {d : List (Nat × A)} {k : Nat} : lookN d k = none ↔ k ∉ d.map (·.1) := by
  unfold lookN
  rw [Option.map_eq_none_iff, List.find?_eq_none]
  simp only [decide_eq_true_eq, List.mem_map, not_exists, not_and]
theorem lookN_some {A : Type} {d : List (Nat × A)} {k : Nat} {a : A} (e : lookN d k = some a) : (k, a) ∈ d := by
  unfold lookN at e
  rw [Option.map_eq_some_iff] at e
  obtain ⟨p, h1, h2⟩ := e
  have h3 := List.mem_of_find?_eq_some h1
  have h4 := List.find?_some h1
  simp only [decide_eq_true_eq] at h4
  subst h2
  subst h4
  exact h3
theorem lookN_app {A : Type} {d e : List (Nat × A)} {k : Nat} : lookN (d ++ e) k = match lookN d k with | some a => some a | none => lookN e k := by
  unfold lookN
  rw [List.find?_append]
  cases d.find? fun p => decide (p.1 = k) <;> rfl
@[simp] theorem dkN_len {A : Type} {f : A → D} {d : List (Nat × A)} : (dkN f d).length = d.length := by simp [dkN]
theorem dDIn_dk {A : Type} {f : A → D} {h : IH} {n k : Nat} {neg : Bool} {d : List (Nat × A)} (e : h[n]? = some (.dk (dkN f d))) : dDIn neg (.int (k : Nat)) (.ref n) h = .ok (.bl (if neg then (lookN d k).isNone else (lookN d k).isSome)) h := by
  unfold dDIn dGet?
  simp only [e, keyD?, Option.map_some, valKD_dkN, Option.isSome_map]
  cases lookN d k <;> rfl
theorem dDGet_dk {A : Type} {f : A → D} {h : IH} {n k : Nat} {d : List (Nat × A)} {a : A} (e : h[n]? = some (.dk (dkN f d))) (l : lookN d k = some a) : dDGet (.ref n) (.int (k : Nat)) h = .ok (f a) h := by
  unfold dDGet dGet?
  simp only [e, keyD?, Option.map_some, valKD_dkN, l]
theorem putDD_dk {A : Type} {f : A → D} {h : IH} {n k : Nat} {d : List (Nat × A)} {a : A} (e : h[n]? = some (.dk (dkN f d))) (l : lookN d k = none) (hl : d.length < 10000000) : putDD (.ref n) (.int (k : Nat)) (f a) h = some (h.set n (.dk (dkN f (d ++ [(k, a)])))) := by
  unfold putDD
  simp only [e, keyD?, dkN_len, if_pos hl, putKD_dkN l]
@[simp] theorem ap_msSetD {mo mi me : ME} {env : EV} {h : IH} : msSetD mo mi me env h = (me env h).bindS env fun v h1 => (mo env h1).bindS env fun o h2 => (mi env h2).bindS env fun i h3 => match putDD o i v h3 with
  | some h4 => .nx env h4
  | none => .no := rfl
@[simp] theorem ap_mDGet1 {mo mi : ME} {env : EV} {h : IH} : mDGet1 mo mi env h = (mo env h).bind fun x h1 => if isDD h1 x = true then (mi env h1).bind fun y h2 => dDGet1 x y h2 else .no := rfl
@[simp] theorem ap_mDictT {env : EV} {h : IH} : mDictT env h = .ok (.ref h.length) (h ++ [.dt []]) := rfl
theorem ap_mDict1 {mk mv : ME} {env : EV} {h : IH} {k v : D} {kd : DKey} (e1 : mk env (h ++ [.dk []]) = .ok k (h ++ [.dk []])) (e2 : mv env (h ++ [.dk []]) = .ok v (h ++ [.dk []])) (e3 : keyD? k = some kd) : mDict [(mk, mv)] env h = .ok (.ref h.length) (h ++ [.dk [(kd, v)]]) := by
  unfold mDict mPr
  rw [e1]
  simp only [bind_ok]
  rw [e2]
  simp [mPr, keyPs, e3, dkAt, putKD]
@[simp] theorem ap_iRange3 {ta : MA} {env : EV} {h : IH} : iRange3 ta env h = (ta env h).bind fun xs h1 => match xs with
  | [.int i, .int j, .int c] => if c = -1 ∧ -10000000 ≤ i ∧ i ≤ 10000000 ∧ -10000000 ≤ j ∧ j ≤ 10000000 then .ok (.st (intsDown i (i - j).toNat)) h1 else .no
  | _ => .no := rfl
/-- signs beside the rooms of a row -/
def zD (t row : List Nat) : List D := List.zipWith (fun x y : D => D.tup [x, y]) (t.map fun c => .str [c]) (row.map nD)
@[simp] theorem zD_len {t row : List Nat} : (zD t row).length = min t.length row.length := by simp [zD]
theorem zip_get {t row : List Nat} {i : Nat} {d : D} (e : (zD t row)[i]? = some d) : ∃ c s, t[i]? = some c ∧ row[i]? = some s ∧ d = .tup [.str [c], .int (s : Nat)] := by
  unfold zD at e
  rw [List.getElem?_zipWith] at e
  simp only [List.getElem?_map] at e
  cases q1 : t[i]? with
  | none => rw [q1] at e; cases e
  | some c =>
    cases q2 : row[i]? with
    | none => rw [q1, q2] at e; cases e
    | some s => rw [q1, q2] at e; cases e; exact ⟨c, s, rfl, rfl, rfl⟩
def zP (p : Nat × Nat) : D := .tup [.str [p.1], nD p.2]
theorem zD_eq : ∀ {t row : List Nat}, zD t row = (t.zip row).map zP
  | [], _ => rfl
  | _ :: _, [] => rfl
  | c :: t, s :: row => by
    have := zD_eq (t := t) (row := row)
    unfold zD at *
    simp [this, zP]
theorem intsFrom_succ {lo : Int} {n : Nat} : intsFrom lo (n + 1) = .int lo :: intsFrom (lo + 1) n := by
  unfold intsFrom
  rw [List.range_succ_eq_map, List.map_cons, List.map_map]
  congr 1
  · simp
  · refine List.map_congr_left fun i _ => ?_
    show D.int _ = D.int _
    congr 1
    simp only [Nat.succ_eq_add_one, Int.natCast_add, Int.natCast_one]
    omega
@[simp] theorem ap_msBreak {env : EV} {h : IH} : msBreak env h = .bk env h := rfl
@[simp] theorem ap_msCont {env : EV} {h : IH} : msCont env h = .ct env h := rfl
@[simp] theorem ap_msRetN {env : EV} {h : IH} : msRetN env h = .rt .non h := rfl
end NR

set_option Elab.async false
set_option linter.all false
set_option maxRecDepth 100000
set_option maxHeartbeats 4000000
namespace NR
open PySem PySem.Spec PyProof.Rows L2
theorem intsFrom_get {lo : Int} {n i : Nat} {d : D} (h : (intsFrom lo n)[i]? = some d) : i < n ∧ d = .int (lo + (i : Nat)) := by
  rw [ints_get] at h
  split at h
  · rename_i hi
    cases h
    exact ⟨hi, rfl⟩
  · cases h
@[simp] theorem intsFrom_len {lo : Int} {n : Nat} : (intsFrom lo n).length = n := by simp [intsFrom]
/-- the slots of _law_rooms -/
theorem sgs_of {t : List Nat} : ∀ {ys : List D}, (∀ y ∈ ys, ∃ k, k ∈ t ∧ y = .str [k]) → ∃ s : List Nat, ys = sgD s ∧ ∀ k ∈ s, k ∈ t
  | [], _ => ⟨[], rfl, by simp⟩
  | y :: ys, h => by
    obtain ⟨k, hk, rfl⟩ := h y List.mem_cons_self
    obtain ⟨s, rfl, hs⟩ := sgs_of fun z hz => h z (List.mem_cons_of_mem _ hz)
    exact ⟨k :: s, rfl, by simpa using ⟨hk, hs⟩⟩
theorem join_sg {s : List Nat} {h : IH} (l : s.length ≤ 10000000) : fJoin (.str []) [.fl (sgD s)] h = .ok (.str s) h := by
  have e : sgD s = (s.map fun c => [c]).map D.str := by unfold sgD; rw [List.map_map]; rfl
  have f : (s.map fun c => [c]).flatten = s := by
    clear l e
    induction s with
    | nil => rfl
    | cons c s ih => simp [ih]
  unfold fJoin
  dsimp only
  rw [seqOf_fl, e]
  show (match allM D.str? ((s.map fun c => [c]).map D.str) with | some ys => _ | none => _) = _
  rw [allM_mkStrs]
  dsimp only
  rw [sum_lens, f, List.length_nil, Nat.mul_zero, Nat.add_zero, joinN_nil, f, if_pos l]
/-- .. whose steps draw: Pn b c says that the pen's cell c can draw b times -/
theorem lcF_penI {env : EV} {m : ME} {it : MI} {gg : MG} {ws : List Nat} {ds : List D} {z cc c0 : Cell} {g : IH} {Pn : Nat → Cell → Prop} {b K : Nat} (lop : ∀ b c k, Pn b c → Cell.lo k c = true) (Po : Nat → D → Prop) (hi : it env (z :: cc :: g) = .ok (.st ds) (z :: c0 :: g)) (hl : ds.length ≤ 9000000)
    (hp : Pn (b + K * ds.length) c0) (lo : ∀ i y k, Po i y → D.lo k y = true)
    (step : ∀ i d, ds[i]? = some d → ∃ e1, gg d (wipeE env ws) = some e1 ∧ ∀ b c g, Pn (b + K) c → ∃ y c', m e1 (z :: c :: g) = .ok y (z :: c' :: g) ∧ Pn b c' ∧ Po i y) :
    ∃ ys c', mFz (mLc it gg mYes m ws) env (z :: cc :: g) = .ok (.fl ys) (z :: c' :: g) ∧ ys.length = ds.length ∧ (∀ i y, ys[i]? = some y → Po i y) ∧ Pn b c' := by
  have main : ∃ ys c', lcM (.st ds) gg mYes m (z :: c0 :: g).length ((Src.st ds).many (z :: c0 :: g) + 1) 0 (wipeE env ws) ((z :: c0 :: g) ++ [Cell.lst []]) = .ok (.ref (z :: c0 :: g).length) (z :: c' :: (g ++ [Cell.lst ys])) ∧ ys.length = ds.length ∧ (∀ i y, ys[i]? = some y → Po i y) ∧ Pn b c' := by
    refine lcM_inv (P := fun i h' => ∃ ys c', h' = z :: c' :: (g ++ [Cell.lst ys]) ∧ ys.length = i ∧ (∀ j y, ys[j]? = some y → Po j y) ∧ Pn (b + K * (ds.length - i)) c') (Rs := fun r => ∃ ys c', r = .ok (.ref (z :: c0 :: g).length) (z :: c' :: (g ++ [Cell.lst ys])) ∧ ys.length = ds.length ∧ (∀ i y, ys[i]? = some y → Po i y) ∧ Pn b c') ?_ ?_ ?_
    · rintro i d h' hd ⟨ys, c', rfl, l1, p1, n1⟩
      have hi' := (List.getElem?_eq_some_iff.mp hd).1
      obtain ⟨e1, g1, st⟩ := step i d hd
      have e0 : ds.length - i = (ds.length - (i + 1)) + 1 := by omega
      rw [e0, Nat.mul_succ, ← Nat.add_assoc] at n1
      obtain ⟨y, c2, e2, n2, p2⟩ := st _ c' (g ++ [Cell.lst ys]) n1
      refine ⟨e1, g1, ?_⟩
      show ∃ y h3 acc, m e1 _ = .ok y h3 ∧ _
      refine ⟨y, _, ys, e2, by simp, by omega, ys ++ [y], c2, by simp, by simp [l1], fun j z hz => ?_, n2⟩
      by_cases hj : j < ys.length
      · rw [List.getElem?_append_left hj] at hz
        exact p1 j z hz
      · have hj2 : j = ys.length := by
          have := (List.getElem?_eq_some_iff.mp hz).1
          simp at this
          omega
        subst hj2
        rw [List.getElem?_append_right (Nat.le_refl _), Nat.sub_self] at hz
        simp at hz
        subst hz
        rw [l1]
        exact p2
    · rintro h' ⟨ys, c', rfl, l1, p1, n1⟩
      rw [Nat.sub_self, Nat.mul_zero, Nat.add_zero] at n1
      exact ⟨ys, c', rfl, l1, p1, n1⟩
    · exact ⟨[], c0, by simp, rfl, by simp, by simpa using hp⟩
  obtain ⟨ys, c', e, l1, p1, n1⟩ := main
  refine ⟨ys, c', ?_, l1, p1, n1⟩
  rw [ap_mFz0, ap_mLc, hi]
  show fzR _ (lcM _ _ _ _ _ _ _ _ _) = _
  rw [e, fzR_at (xs := ys) (by simp) (by simp) (loL_of fun x hx => by
    obtain ⟨j, hj⟩ := List.mem_iff_getElem?.mp hx
    exact lo j x _ (p1 j x hj)) (by simp [lop b c' _ n1])]
  simp
/-- a word that is drawn sign by sign, joined -/
theorem word_draw {env : EV} {it : MI} {k : Nat} {e : ME} {z cc c0 : Cell} {g : IH} {t : List Nat} {n b : Nat} (nl : n ≤ 100000) (hi : it env (z :: cc :: g) = .ok (.st (intsFrom 0 n)) (z :: c0 :: g)) (hp : Pn (b + n) c0)
    (step : ∀ d b c g, Pn (b + 1) c → ∃ s c', e ((wipeE env [k]).set k (some d)) (z :: c :: g) = .ok (.str [s]) (z :: c' :: g) ∧ Pn b c' ∧ s ∈ t) :
    ∃ s c', mFz (mLc it (gSet k) mYes e [k]) env (z :: cc :: g) = .ok (.fl (sgD s)) (z :: c' :: g) ∧ s.length = n ∧ (∀ x ∈ s, x ∈ t) ∧ Pn b c' ∧ ∀ h : IH, fJoin (.str []) [.fl (sgD s)] h = .ok (.str s) h := by
  obtain ⟨ys, c4, e4, yl, yp, p4⟩ := lcF_penI (Pn := Pn) (b := b) (K := 1) (z := z) (cc := cc) (c0 := c0) (g := g) (ds := intsFrom 0 n) (env := env) (it := it) (gg := gSet k) (ws := [k]) (m := e) Pn_lo
    (fun _ y => ∃ k, k ∈ t ∧ y = .str [k]) hi (by simp; omega) (hp.mono (by simp)) (by rintro _ y k ⟨x, _, rfl⟩; rfl) (fun j d _ => ⟨_, rfl, fun b c g hb => by
      obtain ⟨s, c', e1, e2, e3⟩ := step d b c g hb
      exact ⟨_, c', e1, e2, s, e3, rfl⟩⟩)
  obtain ⟨s, rfl, sb⟩ := sgs_of (t := t) fun y hy => by
    obtain ⟨j, hj⟩ := List.mem_iff_getElem?.mp hy
    exact yp j y hj
  have sl : s.length = n := by simpa [sgD] using yl
  exact ⟨s, c4, e4, sl, sb, p4, fun h => join_sg (by omega)⟩
end NR

set_option Elab.async false
set_option linter.all false
set_option maxRecDepth 100000
set_option maxHeartbeats 4000000
namespace NR
open PySem PySem.Spec PyProof.Rows L2
/-! steps of a body, one by one -/
section
variable {s1 s2 : MS} {env env2 : EV} {h h2 h' : IH} {r : R D} {d : D} {it : MI} {gg : MG} {b : MS} {ds : List D} {q : RS}
theorem stN (e : s1 env h = .nx env2 h2) (k : (s2 env2 h2).fin = r) : (msCons s1 s2 env h).fin = r := by rw [ap_msCons, e, then_nx]; exact k
theorem stS (e : s1 env h = .nx env2 h2) (k : s2 env2 h2 = q) : msCons s1 s2 env h = q := by rw [ap_msCons, e, then_nx]; exact k
theorem stX (e : s1 env h = .nx env2 h2) (k : ∃ h', (s2 env2 h2).fin = .ok d h') : ∃ h', (msCons s1 s2 env h).fin = .ok d h' := by rw [ap_msCons, e, then_nx]; exact k
theorem stR (e : s1 env h = .rt d h') : (msCons s1 s2 env h).fin = .ok d h' := by rw [ap_msCons, e, then_rt]; rfl
theorem stRS (e : s1 env h = .rt d h') : msCons s1 s2 env h = .rt d h' := by rw [ap_msCons, e, then_rt]
theorem for_st (e : it env h = .ok (.st ds) h2) : msFor it gg b env h = forL gg b ds env h2 := by rw [ap_msFor, e, bindS_ok, forM_forL]
end
theorem fzD_penG {xs : List D} {z c c' : Cell} {g r : IH} (lo : ∀ k, D.loL k xs = true) (lc : ∀ k, Cell.lo k c' = true) : fzD (z :: c :: g) (z :: c' :: (g ++ r)) xs = .ok (.fl xs) (z :: c' :: g) := by
  unfold fzD newL
  rw [fzR_at (n := (z :: c' :: (g ++ r)).length) (xs := xs) (by simp) (by simp) (lo _) (by simp [lc])]
  simp
/-- drawing steps that leave cells behind the comprehension's list -/
theorem lcF_penG {env : EV} {m : ME} {it : MI} {gg : MG} {ws : List Nat} {ds : List D} {z cc c0 : Cell} {g : IH} {Pn : Nat → Cell → Prop} {b K : Nat} (lop : ∀ b c k, Pn b c → Cell.lo k c = true) (Po : Nat → D → Prop) (hi : it env (z :: cc :: g) = .ok (.st ds) (z :: c0 :: g)) (hl : ds.length ≤ 9000000)
    (hp : Pn (b + K * ds.length) c0) (lo : ∀ i y k, Po i y → D.lo k y = true)
    (step : ∀ i d, ds[i]? = some d → ∃ e1, gg d (wipeE env ws) = some e1 ∧ ∀ b c g, Pn (b + K) c → ∃ y c' r, m e1 (z :: c :: g) = .ok y (z :: c' :: (g ++ r)) ∧ Pn b c' ∧ Po i y) :
    ∃ ys c', mFz (mLc it gg mYes m ws) env (z :: cc :: g) = .ok (.fl ys) (z :: c' :: g) ∧ ys.length = ds.length ∧ (∀ i y, ys[i]? = some y → Po i y) ∧ Pn b c' := by
  have main : ∃ ys c' r, lcM (.st ds) gg mYes m (z :: c0 :: g).length ((Src.st ds).many (z :: c0 :: g) + 1) 0 (wipeE env ws) ((z :: c0 :: g) ++ [Cell.lst []]) = .ok (.ref (z :: c0 :: g).length) (z :: c' :: (g ++ Cell.lst ys :: r)) ∧ ys.length = ds.length ∧ (∀ i y, ys[i]? = some y → Po i y) ∧ Pn b c' := by
    refine lcM_inv (P := fun i h' => ∃ ys c' r, h' = z :: c' :: (g ++ Cell.lst ys :: r) ∧ ys.length = i ∧ (∀ j y, ys[j]? = some y → Po j y) ∧ Pn (b + K * (ds.length - i)) c') (Rs := fun o => ∃ ys c' r, o = .ok (.ref (z :: c0 :: g).length) (z :: c' :: (g ++ Cell.lst ys :: r)) ∧ ys.length = ds.length ∧ (∀ i y, ys[i]? = some y → Po i y) ∧ Pn b c') ?_ ?_ ?_
    · rintro i d h' hd ⟨ys, c', r, rfl, l1, p1, n1⟩
      have hi' := (List.getElem?_eq_some_iff.mp hd).1
      obtain ⟨e1, g1, st⟩ := step i d hd
      have e0 : ds.length - i = (ds.length - (i + 1)) + 1 := by omega
      rw [e0, Nat.mul_succ, ← Nat.add_assoc] at n1
      obtain ⟨y, c2, r2, e2, n2, p2⟩ := st _ c' (g ++ Cell.lst ys :: r) n1
      refine ⟨e1, g1, ?_⟩
      show ∃ y h3 acc, m e1 _ = .ok y h3 ∧ _
      refine ⟨y, _, ys, e2, by simp, by omega, ys ++ [y], c2, r ++ r2, by simp, by simp [l1], fun j z hz => ?_, n2⟩
      by_cases hj : j < ys.length
      · rw [List.getElem?_append_left hj] at hz
        exact p1 j z hz
      · have hj2 : j = ys.length := by
          have := (List.getElem?_eq_some_iff.mp hz).1
          simp at this
          omega
        subst hj2
        rw [List.getElem?_append_right (Nat.le_refl _), Nat.sub_self] at hz
        simp at hz
        subst hz
        rw [l1]
        exact p2
    · rintro h' ⟨ys, c', r, rfl, l1, p1, n1⟩
      rw [Nat.sub_self, Nat.mul_zero, Nat.add_zero] at n1
      exact ⟨ys, c', r, rfl, l1, p1, n1⟩
    · exact ⟨[], c0, [], by simp, rfl, by simp, by simpa using hp⟩
  obtain ⟨ys, c', r, e, l1, p1, n1⟩ := main
  refine ⟨ys, c', ?_, l1, p1, n1⟩
  rw [ap_mFz0, ap_mLc, hi]
  show fzR _ (lcM _ _ _ _ _ _ _ _ _) = _
  rw [e, fzR_at (xs := ys) (by simp) (by simp) (loL_of fun x hx => by
    obtain ⟨j, hj⟩ := List.mem_iff_getElem?.mp hx
    exact lo j x _ (p1 j x hj)) (by simp [lop b c' _ n1])]
  simp
theorem bMax1T_tup {h : IH} {ns : List Int} (l : 0 < ns.length) : bMax1T [.tup (ns.map D.int)] h = .ok (.int (imax ns)) h := by
  show (match (some (ns.map D.int)).bind (allM D.int?) with | some ns => if 0 < ns.length then R.ok (D.int (imax ns)) h else .no | none => .no) = _
  simp [l]
theorem bMax1T_fl {h : IH} {ns : List Int} (l : 0 < ns.length) : bMax1T [.fl (ns.map D.int)] h = .ok (.int (imax ns)) h := by
  show (match (some (ns.map D.int)).bind (allM D.int?) with | some ns => if 0 < ns.length then R.ok (D.int (imax ns)) h else .no | none => .no) = _
  simp [l]
theorem bMin1T_fl {h : IH} {ns : List Int} (l : 0 < ns.length) : bMin1T [.fl (ns.map D.int)] h = .ok (.int (imin ns)) h := by
  show (match (some (ns.map D.int)).bind (allM D.int?) with | some ns => if 0 < ns.length then R.ok (D.int (imin ns)) h else .no | none => .no) = _
  simp [l]
@[simp] theorem ap_mIsT {Ts : List String} {m : ME} {env : EV} {h : IH} : mIsT Ts m env h = (m env h).bind fun x h1 => match isTs h1 x Ts with | some b => .ok (.bl b) h1 | none => .no := rfl
@[simp] theorem ap_mChain3 {f g f3 : D → D → IH → R D} {a b c d : ME} {env : EV} {h : IH} : mChain3 f g f3 a b c d env h = (a env h).bind fun x h1 => (b env h1).bind fun y h2 => (f x y h2).bind fun z h3 => match z with
  | .bl true => (c env h3).bind fun w h4 => (g y w h4).bind fun u h5 => match u with
    | .bl true => (d env h5).bind fun t h6 => f3 w t h6
    | .bl false => .ok (.bl false) h5
    | _ => .no
  | .bl false => .ok (.bl false) h3
  | _ => .no := rfl
@[simp] theorem ap_iRevR1 {ta : MA} {env : EV} {h : IH} : iRevR1 ta env h = (ta env h).bind fun xs h1 => match xs with
  | [.int j] => if -10000000 ≤ j ∧ j ≤ 10000000 then .ok (.st (intsDown (j - 1) j.toNat)) h1 else .no
  | _ => .no := rfl
/-! what is locked within -/
/-- nothing within is to be locked -/
def Fz (m : Nat) (d : D) : Prop := ∀ (b k : Nat) (h : IH), m ≤ k → dzD b k h d = some (d, h)
theorem Fz.mono {m n : Nat} {d : D} (f : Fz m d) (l : m ≤ n) : Fz n d := fun b k h q => f b k h (by omega)
theorem fz1 {m : Nat} {d : D} (l : 1 ≤ m) (e : ∀ b k h, dzD b (k + 1) h d = some (d, h)) : Fz m d := fun b k h q => by
  cases k with
  | zero => omega
  | succ k => exact e b k h
theorem Fz_int {i : Int} : Fz 1 (.int i) := fz1 (by omega) fun _ _ _ => by simp [dzD]
theorem Fz_nD {i : Nat} : Fz 1 (nD i) := Fz_int
theorem Fz_str {i : List Nat} : Fz 1 (.str i) := fz1 (by omega) fun _ _ _ => by simp [dzD]
theorem Fz_bl {i : Bool} : Fz 1 (.bl i) := fz1 (by omega) fun _ _ _ => by simp [dzD]
theorem Fz_non : Fz 1 .non := fz1 (by omega) fun _ _ _ => by simp [dzD]
theorem Fz_fl {l : List D} : Fz 1 (.fl l) := fz1 (by omega) fun _ _ _ => by simp [dzD]
theorem dzL_fz {m : Nat} {b : Nat} : ∀ {l : List D} {k : Nat} {h : IH}, (∀ d ∈ l, Fz m d) → m + l.length + 1 ≤ k → dzL b k h l = some (l, h)
  | [], 0, h, _, q => by omega
  | [], k + 1, h, _, q => by unfold dzL; rfl
  | d :: l, 0, h, f, q => by omega
  | d :: l, k + 1, h, f, q => by
    unfold dzL
    rw [List.length_cons] at q
    rw [f d List.mem_cons_self b k h (by omega)]
    dsimp only
    rw [dzL_fz (fun x hx => f x (List.mem_cons_of_mem _ hx)) (by omega)]
theorem Fz_tup {m : Nat} {l : List D} (f : ∀ d ∈ l, Fz m d) : Fz (m + l.length + 2) (.tup l) := fun b k h q => by
  cases k with
  | zero => omega
  | succ k =>
    unfold dzD
    rw [dzL_fz f (by omega)]
/-- a new list -/
theorem dzD_new {m b k n : Nat} {h : IH} {xs : List D} (bn : b ≤ n) (e : h[n]? = some (.lst xs)) (f : ∀ d ∈ xs, Fz m d) (q : m + xs.length + 2 ≤ k) : dzD b k h (.ref n) = some (.fl xs, h.set n (.frz xs)) := by
  cases k with
  | zero => omega
  | succ k =>
    unfold dzD
    rw [if_pos bn, e]
    dsimp only
    rw [dzL_fz f (by omega)]
theorem dzR_of {h h' h2 : IH} {d d' : D} (e : dzD h.length 1000 h' d = some (d', h2)) (lo : D.lo h.length d' = true) (ok : okB h.length h h2) : dzR h (.ok d h') = .ok d' (h2.take h.length) := by
  unfold dzR
  dsimp only
  rw [e]
  dsimp only
  rw [if_pos ⟨lo, ok⟩]
/-- a tuple whose first item is a new list -/
theorem dz_tup1 {m : Nat} {h : IH} {xs l : List D} (f : ∀ d ∈ xs, Fz m d) (g : ∀ d ∈ l, Fz m d) (q : m + xs.length + l.length ≤ 900) (lo1 : D.loL h.length xs = true) (lo2 : D.loL h.length l = true) :
    dzR h (.ok (.tup (.ref h.length :: l)) (h ++ [.lst xs])) = .ok (.tup (.fl xs :: l)) h := by
  rw [dzR_of (d' := .tup (.fl xs :: l)) (h2 := h ++ [.frz xs]) ?_ (by simp [lo1, lo2]) okB_self]
  · simp
  · unfold dzD
    have e : dzL h.length 999 (h ++ [.lst xs]) (.ref h.length :: l) = some (.fl xs :: l, h ++ [.frz xs]) := by
      unfold dzL
      rw [dzD_new (k := 998) (Nat.le_refl _) get_app0 f (by omega), set_app0]
      dsimp only
      rw [dzL_fz (k := 998) g (by omega)]
      rfl
    rw [e]
theorem ap_mDz {m : ME} {env : EV} {h : IH} : mDz m env h = dzR h (m env h) := rfl
theorem dz_bind {A : Type} {h : IH} {r : R A} {k : A → IH → R D} : dzR h (r.bind k) = r.bind fun a h1 => dzR h (k a h1) := by cases r <;> rfl
@[simp] theorem ap_mDz_call {n : Nat} {fm : MF} {ta : MA} {env : EV} {h : IH} : mDz (mCall n fm ta) env h = (ta env h).bind fun ds h1 => dzR h (callC n fm ds h1) := by rw [ap_mDz, ap_mCall, dz_bind]
@[simp] theorem dz_ex {h h' : IH} {c : Str} {d : XF} : dzR h (.ex c d h') = .ex c d h' := rfl
@[simp] theorem dIs_tup_non {neg : Bool} {l : List D} {h : IH} : dIsN neg (.tup l) .non h = .ok (.bl neg) h := rfl
@[simp] theorem dIs_fl_non {neg : Bool} {l : List D} {h : IH} : dIsN neg (.fl l) .non h = .ok (.bl neg) h := rfl
@[simp] theorem dIs_str_non {neg : Bool} {l : List Nat} {h : IH} : dIsN neg (.str l) .non h = .ok (.bl neg) h := rfl
@[simp] theorem dIs_int_non {neg : Bool} {l : Int} {h : IH} : dIsN neg (.int l) .non h = .ok (.bl neg) h := rfl
@[simp] theorem dIs_bl_non {neg : Bool} {l : Bool} {h : IH} : dIsN neg (.bl l) .non h = .ok (.bl neg) h := rfl
@[simp] theorem dIs_ref_non {neg : Bool} {l : Nat} {h : IH} : dIsN neg (.ref l) .non h = .ok (.bl neg) h := rfl
theorem dIx_last {h : IH} {o : D} {xs : List D} {d : D} (hs : seqOf h o = some xs) (e : xs[xs.length - 1]? = some d) : dIx o (.int (-1)) h = .ok d h := by
  have hi := (List.getElem?_eq_some_iff.mp e).1
  show getD' _ _ _ = _
  unfold getD'
  cases o with
  | str s => simp [seqOf] at hs
  | _ =>
    dsimp only
    rw [hs]
    have : ixN xs.length (-1) = some (xs.length - 1) := by
      unfold ixN
      rw [if_neg (by omega), if_pos (by omega)]
      congr 1
      omega
    dsimp only [Option.bind]
    rw [this]
    dsimp only [Option.bind]
    rw [e]
/-! sources that are read of the heap -/
theorem forM_src {src : Src} {ds : List D} {g : MG} {b : MS} (P : IH → Prop) (hs : ∀ h, P h → src.ok h = true ∧ ∀ i, src.get h i = ds[i]?) (keep : ∀ e1 h, P h → ∀ e2 h2, (b e1 h = .nx e2 h2 ∨ b e1 h = .ct e2 h2) → P h2) :
    ∀ (m i : Nat) (env : EV) (h : IH), P h → ds.length < m + i → i ≤ ds.length → forM src g b m i env h = forL g b (ds.drop i) env h
  | 0, i, env, h, _, l, l2 => by omega
  | m + 1, i, env, h, hp, l, l2 => by
    obtain ⟨o, ge⟩ := hs h hp
    unfold forM
    rw [if_pos o, ge i]
    cases hd : ds[i]? with
    | none =>
      have := List.getElem?_eq_none_iff.mp hd
      rw [List.drop_eq_nil_of_le this]
      rfl
    | some d =>
      have hi := (List.getElem?_eq_some_iff.mp hd).1
      have ed : ds[i] = d := (List.getElem?_eq_some_iff.mp hd).2
      rw [List.drop_eq_getElem_cons hi, ed]
      dsimp only
      cases hg : g d env with
      | none => unfold forL; rw [hg]
      | some e1 =>
        dsimp only
        rw [forL_cons hg]
        have kp := keep e1 h hp
        cases hb : b e1 h with
        | nx e2 h2 => exact forM_src P hs keep m (i + 1) e2 h2 (kp e2 h2 (.inl hb)) (by omega) hi
        | ct e2 h2 => exact forM_src P hs keep m (i + 1) e2 h2 (kp e2 h2 (.inr hb)) (by omega) hi
        | bk e2 h2 => rfl
        | rt d2 h2 => rfl
        | ex c d2 e2 h2 => rfl
        | no => rfl
/-- a for whose turns leave the heap as it is -/
theorem for_src {it : MI} {gg : MG} {b : MS} {env : EV} {h h2 : IH} {src : Src} {ds : List D} (e : it env h = .ok src h2) (o : src.ok h2 = true) (ge : ∀ i, src.get h2 i = ds[i]?) (mn : src.many h2 = ds.length) (keep : ∀ e1 e2 h3, (b e1 h2 = .nx e2 h3 ∨ b e1 h2 = .ct e2 h3) → h3 = h2) : msFor it gg b env h = forL gg b ds env h2 := by
  rw [ap_msFor, e, bindS_ok, mn, forM_src (fun h => h = h2) (fun h x => by subst x; exact ⟨o, ge⟩) (fun e1 h x e2 h3 hb => by subst x; exact keep e1 e2 h3 hb) _ 0 env h2 rfl (by omega) (by omega), List.drop_zero]
/-- a zip of lists as they stand -/
theorem iZip_q {ta : MA} {env : EV} {h h2 : IH} {a b : D} {l l' : List D} (e : ta env h = .ok [a, b] h2) (ea : qOf h2 a = some l) (eb : qOf h2 b = some l') : ∃ src, iZip ta env h = .ok src h2 ∧ src.ok h2 = true ∧ (∀ i, src.get h2 i = (List.zipWith (fun x y : D => D.tup [x, y]) l l')[i]?) ∧ src.many h2 = (List.zipWith (fun x y : D => D.tup [x, y]) l l').length := by
  have ez : zipQ a b (min l.length l'.length) h2 = some (List.zipWith (fun x y : D => D.tup [x, y]) l l') := by
    unfold zipQ
    rw [ea, eb]
    dsimp only
    rw [if_pos rfl]
  unfold iZip
  rw [e, bind_ok]
  dsimp only
  have dy : ∃ src, (R.ok (Src.dy (zipQ a b (min l.length l'.length))) h2 : R Src) = .ok src h2 ∧ src.ok h2 = true ∧ (∀ i, src.get h2 i = (List.zipWith (fun x y : D => D.tup [x, y]) l l')[i]?) ∧ src.many h2 = (List.zipWith (fun x y : D => D.tup [x, y]) l l').length :=
    ⟨_, rfl, by show (zipQ a b (min l.length l'.length) h2).isSome = true; rw [ez]; rfl, fun i => by show (zipQ a b (min l.length l'.length) h2).bind _ = _; rw [ez]; rfl, by show ((zipQ a b (min l.length l'.length) h2).getD []).length = _; rw [ez]; rfl⟩
  cases sa : stOf a with
  | none => dsimp only; rw [ea, eb]; exact dy
  | some m =>
    cases sb : stOf b with
    | none => dsimp only; rw [ea, eb]; exact dy
    | some m' =>
      have e1 : m = l := by
        cases a <;> simp [stOf] at sa <;> simp [qOf, stOf] at ea <;> rw [← sa, ← ea]
      have e2 : m' = l' := by
        cases b <;> simp [stOf] at sb <;> simp [qOf, stOf] at eb <;> rw [← sb, ← eb]
      subst e1 e2
      exact ⟨_, rfl, rfl, fun i => rfl, rfl⟩
theorem qOf_ref {h : IH} {n : Nat} {xs : List D} (e : h[n]? = some (.lst xs)) : qOf h (.ref n) = some xs := lstOf_ref e
@[simp] theorem qOf_fl {h : IH} {xs : List D} : qOf h (.fl xs) = some xs := rfl
@[simp] theorem qOf_tup {h : IH} {xs : List D} : qOf h (.tup xs) = some xs := rfl
end NR

set_option Elab.async false
set_option linter.all false
set_option maxRecDepth 100000
set_option maxHeartbeats 4000000
namespace NR
open PySem PySem.Spec PyProof.Rows L2
/-- a table -/
structure Tb where
  sig : List Nat
  goes : List (List Nat)
  kinds : List Int
def gT (r : List Nat) : D := .tup (r.map nD)
@[simp] theorem lo_gT {n : Nat} {r : List Nat} : D.lo n (gT r) = true := by simp [gT]
def Tb.enc (T : Tb) : D := .tup [.str T.sig, .tup (T.goes.map gT), .tup (T.kinds.map D.int)]
@[simp] theorem lo_Tb {n : Nat} {T : Tb} : D.lo n T.enc = true := by simp [Tb.enc]
structure Tb.Ok (T : Tb) : Prop where
  tg : Tgn T.sig
  g1 : 1 ≤ T.goes.length
  g2 : T.goes.length ≤ 32
  row : ∀ r ∈ T.goes, r.length = T.sig.length ∧ ∀ x ∈ r, x < T.goes.length
  kl : T.kinds.length = T.goes.length
  k0 : T.kinds[0]? = some (-1)
  kk : ∀ k ∈ T.kinds, -1 ≤ k ∧ k ≤ 5
/-- some word leads there -/
inductive Led (goes : List (List Nat)) : Nat → Prop
  | zero : Led goes 0
  | step {r s k : Nat} {row : List Nat} (h : Led goes r) (e : goes[r]? = some row) (e2 : row[k]? = some s) : Led goes s
theorem nodup_len : ∀ (N : Nat) (l : List Nat), l.Nodup → (∀ x ∈ l, x < N) → l.length ≤ N
  | 0, [], _, _ => by simp
  | 0, x :: l, _, h => absurd (h x List.mem_cons_self) (Nat.not_lt_zero x)
  | N + 1, l, nd, h => by
    have h1 := nodup_len N (l.erase N) (nd.erase N) fun x hx => by
      have := h x (List.mem_of_mem_erase hx)
      have ne : x ≠ N := fun z => by subst z; exact (nd.not_mem_erase) hx
      omega
    have h2 := List.length_erase (a := N) (l := l)
    split at h2 <;> omega
/-- the table of some rooms -/
def mkTb (t : List Nat) (goes : List (List Nat)) (kinds : List Int) (ms : List Nat) : Tb := ⟨t, ms.map fun x => (goes.getD x []).map fun y => ms.idxOf y, ms.map fun x => kinds.getD x 0⟩
theorem tb_make {t : List Nat} {goes : List (List Nat)} {kinds : List Int} {ms : List Nat} (tg : Tgn t) (nd : ms.Nodup) (m00 : ms[0]? = some 0)
    (row_of : ∀ x ∈ ms, ∃ row, goes[x]? = some row ∧ row.length = t.length ∧ ∀ y ∈ row, y ∈ ms) (kin_of : ∀ x ∈ ms, ∃ k, kinds[x]? = some k ∧ -1 ≤ k ∧ k ≤ 5) (k0 : kinds[0]? = some (-1)) (mL : ∀ x ∈ ms, Led goes x) :
    (ms.length ≤ 32 → (mkTb t goes kinds ms).Ok) ∧ (mkTb t goes kinds ms).goes.length = ms.length ∧ ∀ r < ms.length, Led (mkTb t goes kinds ms).goes r := by
  generalize hT : mkTb t goes kinds ms = T
  have gl2 : T.goes.length = ms.length := by rw [← hT]; simp [mkTb]
  have m1 : 1 ≤ ms.length := by have := (List.getElem?_eq_some_iff.mp m00).1; omega
  have row2 : ∀ (r : Nat) (row : List Nat), T.goes[r]? = some row → ∃ (x : Nat) (ro : List Nat), ms[r]? = some x ∧ goes[x]? = some ro ∧ row = ro.map (fun y => ms.idxOf y) := fun r row e => by
    rw [← hT] at e
    simp only [mkTb, List.getElem?_map, Option.map_eq_some_iff] at e
    obtain ⟨x, ex, rfl⟩ := e
    obtain ⟨ro, er, _⟩ := row_of x (List.mem_of_getElem? ex)
    exact ⟨x, ro, ex, er, by rw [List.getD_eq_getElem?_getD, er]; rfl⟩
  have ok : ms.length ≤ 32 → T.Ok := fun m32 => by
    refine ⟨by rw [← hT]; exact tg, by omega, by omega, fun r hr => ?_, by rw [← hT]; simp [mkTb], ?_, fun k hk => ?_⟩
    · obtain ⟨j, hj⟩ := List.mem_iff_getElem?.mp hr
      obtain ⟨x, ro, ex, er, rfl⟩ := row2 j r hj
      obtain ⟨ro', er', rl, rin⟩ := row_of x (List.mem_of_getElem? ex)
      rw [er] at er'
      cases er'
      refine ⟨by rw [List.length_map, rl, ← hT]; rfl, fun y hy => ?_⟩
      obtain ⟨y0, hy0, rfl⟩ := List.mem_map.mp hy
      rw [gl2]
      exact List.idxOf_lt_length_of_mem (rin y0 hy0)
    · rw [← hT]
      have : kinds[0]? = some (-1) := k0
      simp [mkTb, m00, this]
    · rw [← hT] at hk
      obtain ⟨x, hx, rfl⟩ := List.mem_map.mp hk
      obtain ⟨k, ek, k1, k2⟩ := kin_of x hx
      have : kinds.getD x 0 = k := by rw [List.getD_eq_getElem?_getD, ek]; rfl
      rw [this]
      exact ⟨k1, k2⟩
  have led : ∀ x, Led goes x → x ∈ ms ∧ Led T.goes (ms.idxOf x) := fun x hx => by
    induction hx with
    | zero =>
      refine ⟨List.mem_of_getElem? m00, ?_⟩
      have : ms.idxOf 0 = 0 := by
        cases ms with
        | nil => simp at m00
        | cons a l => simp at m00; subst m00; exact List.idxOf_cons_self
      rw [this]
      exact .zero
    | @step r s k row h e e2 ih =>
      obtain ⟨rm, rL⟩ := ih
      obtain ⟨ro, er, _, closed⟩ := row_of r rm
      rw [e] at er
      cases er
      have sm := closed s (List.mem_of_getElem? e2)
      refine ⟨sm, .step (k := k) (row := row.map fun y => ms.idxOf y) rL ?_ (by rw [List.getElem?_map, e2]; rfl)⟩
      have : ms[ms.idxOf r]? = some r := (idx_first rm).1
      rw [← hT]
      simp [mkTb, this, e]
  refine ⟨ok, gl2, fun r hr => ?_⟩
  have hx : ms[r]? = some ms[r] := List.getElem?_eq_getElem hr
  have := (led ms[r] (mL _ (List.getElem_mem hr))).2
  rwa [nd.idxOf_getElem r hr] at this
/-! ### the rooms that are met -/
/-- a row, locked or raw -/
def RdK (h : IH) (rd : D) (row : List Nat) : Prop := rd = .fl (row.map nD) ∨ rd = .tup (row.map nD) ∨ ∃ n, rd = .ref n ∧ h[n]? = some (.lst (row.map nD))
/-- rows as they are read -/
def Rds (h : IH) (gs : D) (goes : List (List Nat)) : Prop := ∀ (r : Nat) (row : List Nat), goes[r]? = some row → ∀ e : IH, ∃ rd, dIx gs (.int (r : Nat)) (h ++ e) = .ok rd (h ++ e) ∧ RdK h rd row
def Kds (h : IH) (ks : D) (kinds : List Int) : Prop := ∀ (r : Nat) (k : Int), kinds[r]? = some k → ∀ e : IH, dIx ks (.int (r : Nat)) (h ++ e) = .ok (.int k) (h ++ e)
def gF (r : List Nat) : D := .fl (r.map nD)
@[simp] theorem lo_gF {n : Nat} {r : List Nat} : D.lo n (gF r) = true := by simp [gF]
theorem seq_old {h e : IH} {n : Nat} {xs : List D} (q : h[n]? = some (.lst xs)) : seqOf (h ++ e) (.ref n) = some xs := seqOf_ref (get_old q)
theorem rds_ref {h : IH} {n : Nat} {goes : List (List Nat)} (q : h[n]? = some (.lst (goes.map gF))) : Rds h (.ref n) goes := fun r row er e =>
  ⟨gF row, dIx_nat (seq_old q) (by rw [List.getElem?_map, er]; rfl), .inl rfl⟩
theorem kds_ref {h : IH} {n : Nat} {kinds : List Int} (q : h[n]? = some (.lst (kinds.map D.int))) : Kds h (.ref n) kinds := fun r k er e => dIx_nat (seq_old q) (by rw [List.getElem?_map, er]; rfl)
def addNew : List Nat → List Nat → List Nat
  | met, [] => met
  | met, x :: row => addNew (if x ∈ met then met else met ++ [x]) row
theorem addNew_pre : ∀ {row met : List Nat}, ∃ w, addNew met row = met ++ w
  | [], met => ⟨[], by simp [addNew]⟩
  | x :: row, met => by
    unfold addNew
    obtain ⟨w, e⟩ := addNew_pre (row := row) (met := if x ∈ met then met else met ++ [x])
    rw [e]
    split
    · exact ⟨w, rfl⟩
    · exact ⟨x :: w, by simp⟩
theorem mem_addNew {y : Nat} : ∀ {row met : List Nat}, y ∈ addNew met row ↔ y ∈ met ∨ y ∈ row
  | [], met => by simp [addNew]
  | x :: row, met => by
    unfold addNew
    rw [mem_addNew]
    split
    · rename_i h
      simp
      constructor
      · rintro (h | h)
        · exact .inl h
        · exact .inr (.inr h)
      · rintro (h | rfl | h)
        · exact .inl h
        · exact .inl ‹_›
        · exact .inr h
    · simp [or_assoc]
theorem nodup_addNew : ∀ {row met : List Nat}, met.Nodup → (addNew met row).Nodup
  | [], met, h => h
  | x :: row, met, h => by
    unfold addNew
    refine nodup_addNew ?_
    split
    · exact h
    · rename_i hx
      rw [List.nodup_append]
      exact ⟨h, by simp, fun a ha b hb => by rw [List.mem_singleton] at hb; subst hb; exact fun z => hx (z ▸ ha)⟩
theorem met_one {h : IH} {a0 a1 a2 a3 a5 a7 a8 : Option D} {met : List Nat} {y : Nat} (l : met.length ≤ 1000) : b__law_cut_down_1 [a0, a1, a2, a3, some (.ref h.length), a5, some (nD y), a7, a8] (h ++ [.lst (met.map nD)]) = .nx [a0, a1, a2, a3, some (.ref h.length), a5, some (nD y), a7, a8] (h ++ [.lst ((if y ∈ met then met else met ++ [y]).map nD)]) := by
  have ein : dIn true (.int (y : Nat)) (.ref h.length) (h ++ [.lst (met.map nD)]) = .ok (.bl (!decide (y ∈ met))) (h ++ [.lst (met.map nD)]) := by
    rw [dIn_nats (ns := met) (seqOf_ref get_app0)]
    rfl
  have ty : tyD "list" (h ++ [.lst (met.map nD)]) (.ref h.length) = true := tyD_ref (xs := met.map nD) get_app0
  have ap : fAppend (.ref h.length) [.int (y : Nat)] (h ++ [.lst (met.map nD)]) = .ok .non (h ++ [.lst ((met ++ [y]).map nD)]) := by
    rw [append_at (xs := met.map nD) get_app0 (by rw [List.length_map]; omega), set_app0]
    simp [nD]
  unfold b__law_cut_down_1
  by_cases q : y ∈ met
  · simp [nD_eq, -List.map_append, ein, q]
  · rw [if_neg q]
    simp [nD_eq, -List.map_append, ein, q, ty, ap]
theorem RdK.src {h : IH} {rd : D} {row : List Nat} (k : RdK h rd row) : ∃ src : Src, (∀ (m : ME) (env : EV) (e : IH), m env (h ++ e) = .ok rd (h ++ e) → iSeq m env (h ++ e) = .ok src (h ++ e)) ∧ ∀ e : IH, src.ok (h ++ e) = true ∧ (∀ i, src.get (h ++ e) i = (row.map nD)[i]?) ∧ src.many (h ++ e) = (row.map nD).length := by
  rcases k with rfl | rfl | ⟨n, rfl, q⟩
  · exact ⟨.st (row.map nD), fun m env e x => by rw [ap_iSeq, x]; rfl, fun e => ⟨rfl, fun i => rfl, rfl⟩⟩
  · exact ⟨.st (row.map nD), fun m env e x => by rw [ap_iSeq, x]; rfl, fun e => ⟨rfl, fun i => rfl, rfl⟩⟩
  · have l : ∀ e : IH, lstOf (h ++ e) (.ref n) = some (row.map nD) := fun e => by
      unfold lstOf
      dsimp only
      rw [get_old q]
    refine ⟨.ls n, fun m env e x => ?_, fun e => ⟨?_, fun i => ?_, ?_⟩⟩
    · rw [ap_iSeq, x, bind_ok]
      dsimp only
      rw [l e]
      rfl
    · show (lstOf (h ++ e) (.ref n)).isSome = true
      rw [l e]
      rfl
    · show (lstOf (h ++ e) (.ref n)).bind _ = _
      rw [l e]
      rfl
    · show ((lstOf (h ++ e) (.ref n)).getD []).length = _
      rw [l e]
      rfl
/-- a comprehension over a source that stays -/
theorem lcF_mapR {env : EV} {h : IH} {m : ME} {it : MI} {gg : MG} {ws : List Nat} {src : Src} {ds : List D} (F : D → D) (hi : it env h = .ok src h) (so : ∀ x, src.ok (h ++ [x]) = true) (sg : ∀ x i, src.get (h ++ [x]) i = ds[i]?) (sm : src.many h = ds.length) (hl : ds.length ≤ 9000000) (lo : ∀ d ∈ ds, D.lo h.length (F d) = true)
    (step : ∀ d ∈ ds, ∃ e1, gg d (wipeE env ws) = some e1 ∧ ∀ x, m e1 (h ++ [x]) = .ok (F d) (h ++ [x])) : mFz (mLc it gg mYes m ws) env h = .ok (.fl (ds.map F)) h := by
  have main : ∀ k i, i + k = ds.length + 1 → i ≤ ds.length → lcM src gg mYes m h.length k i (wipeE env ws) (h ++ [Cell.lst ((ds.take i).map F)]) = .ok (.ref h.length) (h ++ [Cell.lst (ds.map F)]) := by
    intro k
    induction k with
    | zero =>
      intro i e l
      omega
    | succ k ih =>
      intro i e l
      unfold lcM
      rw [if_pos (so _), sg]
      cases hd : ds[i]? with
      | none =>
        have := List.getElem?_eq_none_iff.mp hd
        rw [List.take_of_length_le this]
      | some d =>
        have hi' := (List.getElem?_eq_some_iff.mp hd).1
        obtain ⟨e1, g1, st⟩ := step d (List.mem_of_getElem? hd)
        dsimp only
        rw [g1]
        dsimp only
        unfold mYes
        dsimp only
        rw [st]
        dsimp only
        rw [get_last]
        dsimp only
        rw [if_pos (by rw [List.length_map, List.length_take]; omega), set_app0]
        have : (ds.take i).map F ++ [F d] = (ds.take (i + 1)).map F := by
          rw [List.take_add_one, hd, List.map_append]
          rfl
        rw [this]
        exact ih (i + 1) (by omega) hi'
  rw [ap_mFz0, ap_mLc, hi]
  show fzR _ (lcM _ _ _ _ _ _ _ _ _) = _
  have := main (ds.length + 1) 0 (by omega) (Nat.zero_le _)
  rw [List.take_zero, List.map_nil] at this
  rw [sm, this, fzR_at (xs := ds.map F) get_last (by simp) (loL_of fun y hy => by
    obtain ⟨d, hd, rfl⟩ := List.mem_map.mp hy
    exact lo d hd) (by simp)]
  simp
/-- a row's walk: what is met -/
theorem met_row {h : IH} {a0 a1 a2 a3 a5 a7 a8 : Option D} {rd : D} {row met : List Nat} {it : MI} {x : Option D} (k : RdK h rd row) (l : met.length + row.length ≤ 1000) (hm : ∃ m : ME, it = iSeq m ∧ m [a0, a1, a2, a3, some (.ref h.length), a5, x, a7, a8] (h ++ [.lst (met.map nD)]) = .ok rd (h ++ [.lst (met.map nD)])) :
    ∃ x', msFor it (gSet 6) b__law_cut_down_1 [a0, a1, a2, a3, some (.ref h.length), a5, x, a7, a8] (h ++ [.lst (met.map nD)]) = .nx [a0, a1, a2, a3, some (.ref h.length), a5, x', a7, a8] (h ++ [.lst ((addNew met row).map nD)]) := by
  obtain ⟨m, rfl, em⟩ := hm
  obtain ⟨src, s1, s2⟩ := k.src
  have go : ∀ (n i : Nat) (met : List Nat) (x : Option D), row.length < n + i → i ≤ row.length → met.length + (row.length - i) ≤ 1000 → ∃ x', forM src (gSet 6) b__law_cut_down_1 n i [a0, a1, a2, a3, some (.ref h.length), a5, x, a7, a8] (h ++ [.lst (met.map nD)]) = .nx [a0, a1, a2, a3, some (.ref h.length), a5, x', a7, a8] (h ++ [.lst ((addNew met (row.drop i)).map nD)]) := by
    intro n
    induction n with
    | zero => intro i met x q l2; omega
    | succ n ih =>
      intro i met x q l2 l3
      obtain ⟨o, ge, _⟩ := s2 [Cell.lst (met.map nD)]
      unfold forM
      rw [if_pos o, ge i]
      cases hd : row[i]? with
      | none =>
        have := List.getElem?_eq_none_iff.mp hd
        rw [List.getElem?_map, hd, List.drop_of_length_le this]
        exact ⟨x, rfl⟩
      | some y =>
        have hi := (List.getElem?_eq_some_iff.mp hd).1
        have dc := List.drop_eq_getElem_cons hi
        rw [(List.getElem?_eq_some_iff.mp hd).2] at dc
        rw [List.getElem?_map, hd, dc]
        have e := met_one (h := h) (a0 := a0) (a1 := a1) (a2 := a2) (a3 := a3) (a5 := a5) (a7 := a7) (a8 := a8) (met := met) (y := y) (by omega)
        dsimp only [Option.map_some, gSet, List.set_cons_succ, List.set_cons_zero]
        rw [e]
        dsimp only
        have al : (if y ∈ met then met else met ++ [y]).length ≤ met.length + 1 := by
          split
          · omega
          · rw [List.length_append, List.length_singleton]; omega
        exact ih (i + 1) (if y ∈ met then met else met ++ [y]) (some (nD y)) (by omega) (by omega) (by omega)
  obtain ⟨x', e⟩ := go (row.length + 1) 0 met x (by omega) (by omega) (by omega)
  refine ⟨x', ?_⟩
  obtain ⟨_, _, mn⟩ := s2 [Cell.lst (met.map nD)]
  rw [ap_msFor, s1 m _ _ em, bindS_ok, mn, List.length_map, e, List.drop_zero]
theorem cut_down_call {h : IH} {t : List Nat} {gs ks : D} {goes : List (List Nat)} {kinds : List Int} {u : Nat} {N : Nat} (tg : Tgn t) (N1 : 1 ≤ N) (N64 : N ≤ 64) (gl : goes.length = N) (gg : ∀ r ∈ goes, r.length = t.length ∧ ∀ x ∈ r, x < N) (kl : kinds.length = N) (k0 : kinds[0]? = some (-1)) (kk : ∀ k ∈ kinds, -1 ≤ k ∧ k ≤ 5)
    (rg : Rds h gs goes) (rk : Kds h ks kinds) :
    ∃ (T : Tb), callC 4 m__law_cut_down [.str t, gs, ks, .int (u : Nat)] h = .ok T.enc h ∧ (T.goes.length ≤ 32 → T.Ok) ∧ T.sig = t ∧ T.goes.length ≤ N ∧ (∀ r < T.goes.length, Led T.goes r) := by
  have t6 := tg.l2
  have ga : ∀ r < N, ∃ row, goes[r]? = some row ∧ row.length = t.length ∧ ∀ x ∈ row, x < N := fun r hr => by
    have hl : r < goes.length := by omega
    exact ⟨goes[r], List.getElem?_eq_getElem hl, gg _ (List.getElem_mem hl)⟩
  -- the rooms that are met
  obtain ⟨_, _, _, e6, ⟨met, at_, to, rfl, rfl, ml, mn, mb, m0, ma, mc, mL⟩, e7⟩ := while_nx (c := t__law_cut_down_2) (s := b__law_cut_down_3) (fun k env hh => ∃ (met : List Nat) (at_ : Nat) (to : Option D), env = [some (.str t), some gs, some ks, some (.int (u : Nat)), some (.ref h.length), some (.int (at_ : Nat)), to, none, none] ∧ hh = h ++ [.lst (met.map nD)] ∧ met.length ≤ N ∧ met.Nodup ∧ (∀ x ∈ met, x < N) ∧ met[0]? = some 0 ∧ at_ + k = N + 1 ∧ (∀ j < at_, ∀ r row, met[j]? = some r → goes[r]? = some row → ∀ x ∈ row, x ∈ met) ∧ ∀ x ∈ met, Led goes x) (N + 1)
    [some (.str t), some gs, some ks, some (.int (u : Nat)), some (.ref h.length), some (.int 0), none, none, none] (h ++ [.lst [.int 0]])
    ⟨[0], 0, none, rfl, rfl, by simpa using N1, by simp, by simp; omega, rfl, by omega, by intro j hj; omega, by simp; exact .zero⟩ (by
      rintro k env hh ⟨met, at_, to, rfl, rfl, ml, mn, mb, m0, ma, mc, mL⟩
      have lc : bLen [.ref h.length] (h ++ [.lst (met.map nD)]) = .ok (.int (met.length : Nat)) (h ++ [.lst (met.map nD)]) := by
        rw [bLen_ref (xs := met.map nD) get_app0]; simp
      by_cases q : at_ < met.length
      · left
        have hr : met[at_]? = some met[at_] := List.getElem?_eq_getElem q
        generalize met[at_] = r at hr
        obtain ⟨row, er, rl, rb⟩ := ga r (mb r (List.mem_of_getElem? hr))
        obtain ⟨rd, x1, x2⟩ := rg r row er [.lst (met.map nD)]
        obtain ⟨w, ew⟩ := addNew_pre (row := row) (met := met)
        have g1 : dIx (.ref h.length) (.int (at_ : Nat)) (h ++ [.lst (met.map nD)]) = .ok (nD r) (h ++ [.lst (met.map nD)]) := dIx_nat (seqOf_ref (xs := met.map nD) get_app0) (by rw [List.getElem?_map, hr]; rfl)
        obtain ⟨to2, lp⟩ := met_row (h := h) (a0 := some (.str t)) (a1 := some gs) (a2 := some ks) (a3 := some (.int (u : Nat))) (a5 := some (.int (at_ : Nat))) (a7 := none) (a8 := none) (rd := rd) (row := row) (met := met) (x := to) (it := iSeq (mOp dIx (mVar 1) (mOp dIx (mVar 4) (mVar 5)))) x2 (by omega) ⟨_, rfl, by simp [g1]; exact x1⟩
        have nd2 := nodup_addNew (row := row) mn
        have mb2 : ∀ x ∈ addNew met row, x < N := fun x hx => by
          rcases mem_addNew.mp hx with hx | hx
          · exact mb x hx
          · exact rb x hx
        refine ⟨[some (.str t), some gs, some ks, some (.int (u : Nat)), some (.ref h.length), some (.int ((at_ + 1 : Nat) : Int)), to2, none, none], h ++ [.lst ((addNew met row).map nD)], by unfold t__law_cut_down_2; simp [lc, q], ?_, k - 1, by omega, addNew met row, at_ + 1, to2, rfl, rfl, nodup_len N _ nd2 mb2, nd2, mb2, by rw [ew, List.getElem?_append_left (by omega)]; exact m0, by omega, fun j hj r' row' e1' e2' y hy => ?_, fun y hy => ?_⟩
        · unfold b__law_cut_down_3
          refine stS (env2 := [some (.str t), some gs, some ks, some (.int (u : Nat)), some (.ref h.length), some (.int (at_ : Nat)), to2, none, none]) (h2 := h ++ [.lst ((addNew met row).map nD)]) ?_ (by simp)
          exact lp
        · rw [ew, List.getElem?_append_left (by omega)] at e1'
          rcases Nat.lt_or_eq_of_le (Nat.lt_succ_iff.mp hj) with hj | rfl
          · exact mem_addNew.mpr (.inl (mc j hj r' row' e1' e2' y hy))
          · rw [hr] at e1'
            cases e1'
            rw [er] at e2'
            cases e2'
            exact mem_addNew.mpr (.inr hy)
        · rcases mem_addNew.mp hy with hy | hy
          · exact mL y hy
          · obtain ⟨j2, hj2⟩ := List.mem_iff_getElem?.mp hy
            exact .step (mL r (List.mem_of_getElem? hr)) er hj2
      · right
        unfold t__law_cut_down_2
        simp [lc]
        omega)
  have at0 : met.length ≤ at_ := by
    revert e7
    unfold t__law_cut_down_2
    have lc : bLen [.ref h.length] (h ++ [.lst (met.map nD)]) = .ok (.int (met.length : Nat)) (h ++ [.lst (met.map nD)]) := by
      rw [bLen_ref (xs := met.map nD) get_app0]; simp
    simp [lc]
  -- turned about
  obtain ⟨rest, rfl⟩ : ∃ rest, met = 0 :: rest := by
    cases met with
    | nil => simp at m0
    | cons a l => simp at m0; exact ⟨l, by rw [m0]⟩
  generalize hk : u % (rest.length + 1) = k
  have kl2 : k ≤ rest.length := by have := Nat.mod_lt u (show 0 < rest.length + 1 by omega); omega
  generalize hms : 0 :: (rest.drop k ++ rest.take k) = ms
  have pm : ms.Perm (0 :: rest) := by
    rw [← hms]
    refine .cons 0 ?_
    have := List.perm_append_comm (l₁ := rest.drop k) (l₂ := rest.take k)
    rwa [List.take_append_drop] at this
  have mem : ∀ x, x ∈ ms ↔ x ∈ 0 :: rest := fun x => pm.mem_iff
  have nd : ms.Nodup := pm.nodup_iff.mpr mn
  have len : ms.length = rest.length + 1 := by rw [pm.length_eq, List.length_cons]
  have m00 : ms[0]? = some 0 := by rw [← hms]; rfl
  have closed : ∀ x ∈ ms, ∀ row, goes[x]? = some row → ∀ y ∈ row, y ∈ ms := fun x hx row er y hy => by
    obtain ⟨j, hj⟩ := List.mem_iff_getElem?.mp ((mem x).mp hx)
    have := (List.getElem?_eq_some_iff.mp hj).1
    exact (mem y).mpr (mc j (by omega) x row hj er y hy)
  have row_of : ∀ x ∈ ms, ∃ row, goes[x]? = some row ∧ row.length = t.length ∧ ∀ y ∈ row, y ∈ ms := fun x hx => by
    obtain ⟨row, er, rl, _⟩ := ga x (mb x ((mem x).mp hx))
    exact ⟨row, er, rl, closed x hx row er⟩
  have kin_of : ∀ x ∈ ms, ∃ k, kinds[x]? = some k ∧ -1 ≤ k ∧ k ≤ 5 := fun x hx => by
    have hl : x < kinds.length := by have := mb x ((mem x).mp hx); omega
    exact ⟨kinds[x], List.getElem?_eq_getElem hl, kk _ (List.getElem_mem hl)⟩
  have mk := tb_make (t := t) tg nd m00 row_of kin_of k0 fun x hx => mL x ((mem x).mp hx)
  generalize hT : mkTb t goes kinds ms = T at mk
  have gl2 : T.goes.length = ms.length := by rw [← hT]; simp [mkTb]
  have mlN : ms.length ≤ N := by rw [len]; exact ml
  -- the parts
  let H : IH := h ++ [.frz ((0 :: rest).map nD)]
  let E : Option D → Option D → Option D → Option D → EV := fun a b c d => [some (.str t), some gs, some ks, some (.int ((k : Nat) + 1)), some (.fl (ms.map nD)), some (.int (at_ : Nat)), a, b, c]
  have r5 : ∀ (x : Nat) (w : Cell), x ∈ ms → e__law_cut_down_5 [some (.str t), some gs, some ks, some (.int (1 + (k : Nat))), some (.fl (ms.map nD)), some (.int (at_ : Nat)), to, none, some (nD x)] (h ++ [.frz ((0 :: rest).map nD), w]) = .ok (gT ((goes.getD x []).map fun y => ms.idxOf y)) (h ++ [.frz ((0 :: rest).map nD), w]) := fun x w hx => by
    obtain ⟨row, er, rl, rin⟩ := row_of x hx
    obtain ⟨rd, x1, x2⟩ := rg x row er [.frz ((0 :: rest).map nD), w]
    obtain ⟨src, s1, s2⟩ := x2.src
    have it : iSeq (mOp dIx (mVar 1) (mVar 8)) [some (.str t), some gs, some ks, some (.int (1 + (k : Nat))), some (.fl (ms.map nD)), some (.int (at_ : Nat)), to, none, some (nD x)] (h ++ [.frz ((0 :: rest).map nD), w]) = .ok src (h ++ [.frz ((0 :: rest).map nD), w]) := s1 _ _ _ (by
      simp only [ap_mOp, ap_mVar, List.getElem?_cons_succ, List.getElem?_cons_zero, bind_ok]
      exact x1)
    have comp := lcF_mapR (ws := [6]) (gg := gSet 6) (m := e__law_cut_down_4) (ds := row.map nD) (fun d => match d with | .int v => nD (ms.idxOf v.toNat) | d => d) it (fun x => by rw [List.append_assoc]; exact (s2 _).1) (fun x i => by rw [List.append_assoc]; exact (s2 _).2.1 i) (s2 _).2.2 (by simp; omega) (fun d hd => by
      obtain ⟨y, _, rfl⟩ := List.mem_map.mp hd
      rfl) (fun d hd => by
      obtain ⟨y, hy, rfl⟩ := List.mem_map.mp hd
      refine ⟨_, rfl, fun x => ?_⟩
      have fi : ∀ h, fIndexL (.fl (ms.map nD)) [.int (y : Nat)] h = .ok (nD (ms.idxOf y)) h := fun h => fIndexL_nats (rin y hy)
      unfold e__law_cut_down_4 mOrE
      simp [wipeE, gSet, nD_eq, fi])
    unfold e__law_cut_down_5
    rw [show goes.getD x [] = row by rw [List.getD_eq_getElem?_getD, er]; rfl]
    generalize mFz (mLc (iSeq (mOp dIx (mVar 1) (mVar 8))) (gSet 6) mYes e__law_cut_down_4 [6]) = F at comp
    simp only [ap_mB, ap_mCons, ap_mNil, comp, bind_ok, bTupleX_fl]
    rw [List.map_map]
    unfold gT
    rw [List.map_map]
    rfl
  have r6 : ∀ (b : Option D) (x : Nat) (e : IH), x ∈ ms → e__law_cut_down_6 [some (.str t), some gs, some ks, some (.int (1 + (k : Nat))), some (.fl (ms.map nD)), some (.int (at_ : Nat)), to, b, some (nD x)] (h ++ e) = .ok (.int (kinds.getD x 0)) (h ++ e) := fun b x e hx => by
    obtain ⟨k, ek, _⟩ := kin_of x hx
    have := rk x k ek e
    unfold e__law_cut_down_6
    rw [show kinds.getD x 0 = k by rw [List.getD_eq_getElem?_getD, ek]; rfl]
    simp only [ap_mOp, ap_mVar, List.getElem?_cons_succ, List.getElem?_cons_zero, bind_ok]
    exact this
  have comp1 := lcF_map (it := iSeq (mVar 4)) (ws := [8]) (gg := gSet 8) (m := e__law_cut_down_5) (ds := ms.map nD) (h := h ++ [.frz ((0 :: rest).map nD)]) (env := [some (.str t), some gs, some ks, some (.int (1 + (k : Nat))), some (.fl (ms.map nD)), some (.int (at_ : Nat)), to, none, none])
    (fun d => match d with | .int v => gT ((goes.getD v.toNat []).map fun y => ms.idxOf y) | d => d) rfl (by simp; omega) (fun d hd => by
      obtain ⟨x, _, rfl⟩ := List.mem_map.mp hd
      simp [nD]) (fun d hd => by
      obtain ⟨x, hx, rfl⟩ := List.mem_map.mp hd
      refine ⟨_, rfl, fun w => ?_⟩
      have := r5 x w hx
      simpa [wipeE, nD] using this)
  have comp2 : mFz (mLc (iSeq (mVar 4)) (gSet 8) mYes e__law_cut_down_6 [8]) [some (.str t), some gs, some ks, some (.int (1 + (k : Nat))), some (.fl (ms.map nD)), some (.int (at_ : Nat)), to, some (.tup (T.goes.map gT)), none] (h ++ [.frz ((0 :: rest).map nD)]) = .ok (.fl (T.kinds.map D.int)) (h ++ [.frz ((0 :: rest).map nD)]) := by
    rw [lcF_map (ds := ms.map nD) (gg := gSet 8) (fun d => match d with | .int v => .int (kinds.getD v.toNat 0) | d => d) rfl (by simp; omega) (fun d hd => by
      obtain ⟨x, _, rfl⟩ := List.mem_map.mp hd
      rfl) (fun d hd => by
      obtain ⟨x, hx, rfl⟩ := List.mem_map.mp hd
      refine ⟨_, rfl, fun w => ?_⟩
      have := r6 (some (.tup (T.goes.map gT))) x ([.frz ((0 :: rest).map nD)] ++ [w]) hx
      simpa [wipeE, nD] using this)]
    rw [← hT]
    simp [mkTb, nD]
  have tD : (ms.map nD).map (fun d => match d with | .int v => gT ((goes.getD v.toNat []).map fun y => ms.idxOf y) | d => d) = T.goes.map gT := by
    rw [← hT]
    simp [mkTb, nD]
  rw [tD] at comp1
  have sig : T.sig = t := by rw [← hT]; rfl
  have goesLo : D.loL (h ++ [Cell.frz ((0 :: rest).map nD)]).length (T.goes.map gT) = true := by simp
  refine ⟨T, callC_pure rfl (g := [.frz ((0 :: rest).map nD)]) ?_ (by simp), fun l => mk.1 (by omega), sig, by omega, fun r hr => ?_⟩
  · unfold m__law_cut_down
    rw [ap_fnM]
    simp only [List.map_cons, List.map_nil, List.length_cons, List.length_nil, List.cons_append, List.nil_append, Nat.reduceAdd, Nat.reduceSub, List.replicate]
    refine stN (env2 := [some (.str t), some gs, some ks, some (.int (u : Nat)), some (.ref h.length), none, none, none, none]) (h2 := h ++ [.lst [.int 0]]) (by simp [newL]) ?_
    refine stN (env2 := [some (.str t), some gs, some ks, some (.int (u : Nat)), some (.ref h.length), some (.int 0), none, none, none]) (h2 := h ++ [.lst [.int 0]]) (by simp) ?_
    refine stN e6 ?_
    have lf : ∀ hh : IH, bLen [.fl ((0 :: rest).map nD)] hh = .ok (.int ((rest.length + 1 : Nat) : Int)) hh := fun hh => by simp
    have cm : cMod (u : Nat) ((rest.length + 1 : Nat) : Int) = true := by simp only [cMod, decide_eq_true_eq]; omega
    have um : ((u : Nat) : Int) % ((rest.length + 1 : Nat) : Int) = (k : Nat) := by rw [← hk]; simp
    refine stN (env2 := [some (.str t), some gs, some ks, some (.int (1 + (k : Nat))), some (.fl ((0 :: rest).map nD)), some (.int (at_ : Nat)), to, none, none]) (h2 := h ++ [.frz ((0 :: rest).map nD)]) ?_ ?_
    · rw [ap_msFz (n := h.length) (xs := (0 :: rest).map nD) rfl get_app0, set_app0]
      generalize (rest.length + 1 : Nat) = L at *
      generalize (0 :: rest).map nD = W at *
      simp [lf, cm, um]
    have c1 : cutD ((0 :: rest).map nD) (some (1 + (k : Nat))) none = (rest.drop k).map nD := by
      rw [cutD_from (by omega), show (1 + ((k : Nat) : Int)).toNat = k + 1 by omega, List.map_cons, List.drop_succ_cons, List.map_drop]
    have c2 : cutD ((0 :: rest).map nD) (some 1) (some (1 + (k : Nat))) = (rest.take k).map nD := by
      rw [cutD_two (by omega) (by omega), show (1 + ((k : Nat) : Int)).toNat - (1 : Int).toNat = k by omega, List.map_cons, show (1 : Int).toNat = 0 + 1 from rfl, List.drop_succ_cons, List.drop_zero, List.map_take]
    have w1 : (rest.drop k).length ≤ 64 := by rw [List.length_drop]; simp at ml; omega
    have w2 : (rest.take k).length ≤ 64 := by rw [List.length_take]; omega
    have ms2 : [D.int 0] ++ (rest.drop k).map nD ++ (rest.take k).map nD = ms.map nD := by
      rw [← hms]
      simp [nD]
    have s1 : ∀ hh : IH, sliceD (.fl ((0 :: rest).map nD)) (some (1 + (k : Nat))) none hh = newL hh ((rest.drop k).map nD) := fun hh => by rw [sliceD_fl, c1]
    have s2 : ∀ hh : IH, sliceD (.fl ((0 :: rest).map nD)) (some 1) (some (1 + (k : Nat))) hh = newL hh ((rest.take k).map nD) := fun hh => by rw [sliceD_fl, c2]
    have q1 : ∀ hh : IH, fzD hh hh [.int 0] = .ok (.fl [.int 0]) hh := fun hh => fzD_same (by simp)
    have q2 : ∀ (hh : IH) (l : List Nat), fzD hh hh (l.map nD) = .ok (.fl (l.map nD)) hh := fun hh l => fzD_same (by simp)
    have a1 : ∀ hh : IH, dAdd (.fl [.int 0]) (.fl ((rest.drop k).map nD)) hh = newL hh ([.int 0] ++ (rest.drop k).map nD) := fun hh => by rw [dAdd_fl, if_pos (by simp; omega)]
    have a2 : ∀ hh : IH, dAdd (.fl ([.int 0] ++ (rest.drop k).map nD)) (.fl ((rest.take k).map nD)) hh = newL hh (ms.map nD) := fun hh => by rw [dAdd_fl, if_pos (by simp; omega), ms2]
    have q3 : ∀ (hh : IH), fzD hh hh ([.int 0] ++ (rest.drop k).map nD) = .ok (.fl ([.int 0] ++ (rest.drop k).map nD)) hh := fun hh => fzD_same (by simp [-List.map_drop])
    refine stN (env2 := [some (.str t), some gs, some ks, some (.int (1 + (k : Nat))), some (.fl (ms.map nD)), some (.int (at_ : Nat)), to, none, none]) (h2 := h ++ [.frz ((0 :: rest).map nD)]) ?_ ?_
    · have q4 := q2 (h ++ [.frz ((0 :: rest).map nD)]) ms
      have q5 := q2 (h ++ [.frz ((0 :: rest).map nD)]) (rest.drop k)
      have q6 := q2 (h ++ [.frz ((0 :: rest).map nD)]) (rest.take k)
      generalize [D.int 0] ++ (rest.drop k).map nD = A1 at *
      generalize (rest.drop k).map nD = A2 at *
      generalize (rest.take k).map nD = A3 at *
      generalize (0 :: rest).map nD = W at *
      generalize ms.map nD = A4 at *
      simp [q1, s1, s2, fz_newL, q4, q5, q6, a1, a2, q3]
    refine stN (env2 := [some (.str t), some gs, some ks, some (.int (1 + (k : Nat))), some (.fl (ms.map nD)), some (.int (at_ : Nat)), to, some (.tup (T.goes.map gT)), none]) (h2 := h ++ [.frz ((0 :: rest).map nD)]) ?_ ?_
    · generalize mFz (mLc (iSeq (mVar 4)) (gSet 8) mYes e__law_cut_down_5 [8]) = F at comp1
      generalize (0 :: rest).map nD = W at *
      simp [comp1]
    · generalize mFz (mLc (iSeq (mVar 4)) (gSet 8) mYes e__law_cut_down_6 [8]) = F at comp2
      generalize hW : (0 :: rest).map nD = W at *
      simp [comp2, Tb.enc, sig]
      exact hW.symm
  · exact mk.2.2 r (by omega)
end NR

set_option Elab.async false
set_option linter.all false
set_option maxRecDepth 100000
set_option maxHeartbeats 4000000
namespace NR
open PySem PySem.Spec PyProof.Rows L2
/-! ### tables that are drawn -/
def tbE (t : List Nat) (most many road often : Nat) (n : Nat) (room row kind sg : Option D) : EV := [some (.ref 1), some (.str t), some (.int (most : Nat)), some (.int (many : Nat)), some (.int (road : Nat)), some (.int (often : Nat)), some (.ref n), some (.ref (n + 1)), room, row, kind, sg]
theorem table_turn {b : Nat} {z c : Cell} {g : IH} {t : List Nat} {most many road often : Nat} {goes : List (List Nat)} {kinds : List Int} {i : Nat} {x8 x9 x10 x11 : Option D} {e : IH} (tg : Tgn t) (m1 : 1 ≤ many) (m32 : many ≤ 32) (o2 : 1 ≤ often) (o4 : often ≤ 10) (gl : goes.length ≤ 100) (kl : kinds.length ≤ 100) (hp : Pn (b + 10) c) :
    ∃ (row : List Nat) (k : Int) (c' : Cell) (e' : IH) (y9 y10 y11 : Option D), b__law_table_2 (tbE t most many road often (g.length + 2) (some (.int (i : Nat))) x9 x10 x11) (z :: c :: (g ++ Cell.lst (goes.map gF) :: Cell.lst (kinds.map D.int) :: e)) =
      .nx (tbE t most many road often (g.length + 2) (some (.int (i : Nat))) y9 y10 y11) (z :: c' :: (g ++ Cell.lst ((goes ++ [row]).map gF) :: Cell.lst ((kinds ++ [k]).map D.int) :: e')) ∧ row.length = t.length ∧ (∀ x ∈ row, x < many) ∧ -1 ≤ k ∧ k ≤ 5 ∧ (i = 0 → k = -1) ∧ Pn b c' := by
  have t1 := tg.l1
  have t6 := tg.l2
  generalize hG : g ++ Cell.lst (goes.map gF) :: Cell.lst (kinds.map D.int) :: e = G
  have hGl : g.length + 2 + e.length = G.length := by rw [← hG]; simp; omega
  -- the row
  have row : ∃ (ys : List D) (c1 : Cell), (mLc (iSeq (mVar 1)) (gSet 11) mYes e__law_table_1 [11]) (tbE t most many road often (g.length + 2) (some (.int (i : Nat))) x9 x10 x11) (z :: c :: G) = .ok (.ref (z :: c :: G).length) (z :: c1 :: (G ++ [Cell.lst ys])) ∧ ys.length = t.length ∧ (∀ y ∈ ys, ∃ v : Nat, y = nD v ∧ v < many) ∧ Pn (b + 4) c1 := by
    rw [ap_mLc, iSeq_str (s := t) (h' := z :: c :: G) (by unfold tbE; simp) (by omega), bind_ok]
    refine lcM_inv (P := fun k h' => ∃ (ys : List D) (c' : Cell), h' = z :: c' :: (G ++ [Cell.lst ys]) ∧ ys.length = k ∧ (∀ y ∈ ys, ∃ v : Nat, y = nD v ∧ v < many) ∧ Pn (b + 4 + (t.length - k)) c') (Rs := fun o => ∃ (ys : List D) (c1 : Cell), o = .ok (.ref (z :: c :: G).length) (z :: c1 :: (G ++ [Cell.lst ys])) ∧ ys.length = t.length ∧ (∀ y ∈ ys, ∃ v : Nat, y = nD v ∧ v < many) ∧ Pn (b + 4) c1) ?_ ?_ ?_
    · rintro k d h' hd ⟨ys, c', rfl, yl, yv, pc⟩
      have hk := (List.getElem?_eq_some_iff.mp hd).1
      rw [List.length_map] at hk
      obtain ⟨v, c2, e2, v2, p2⟩ := draw_call (b := b + 4 + (t.length - (k + 1))) (z := z) (c := c') (g := G ++ [Cell.lst ys]) (m := (many : Nat)) (pc.mono (by omega)) (by omega) (by omega)
      refine ⟨_, rfl, ?_⟩
      show ∃ y h3 acc, e__law_table_1 _ _ = .ok y h3 ∧ _
      refine ⟨nD v, z :: c2 :: (G ++ [Cell.lst ys]), ys, ?_, by simp, by omega, ys ++ [nD v], c2, by simp, by simp [yl], fun y hy => ?_, p2⟩
      · unfold e__law_table_1 tbE
        simp [wipeE, e2, nD]
      · rcases List.mem_append.mp hy with hy | hy
        · exact yv y hy
        · simp at hy
          exact ⟨v, hy, by omega⟩
    · rintro h' ⟨ys, c', rfl, yl, yv, pc⟩
      rw [List.length_map] at yl pc
      exact ⟨ys, c', rfl, yl, yv, pc.mono (by omega)⟩
    · exact ⟨[], c, by simp, rfl, by simp, hp.mono (by omega)⟩
  obtain ⟨ys, c1, e1, yl, yv, p1⟩ := row
  obtain ⟨row, rfl, rb⟩ := nats_of (ys := ys) (m := many) yv
  rw [List.length_map] at yl
  -- a go to the next room
  have nxt : ∃ (row2 : List Nat) (c2 : Cell), (msIf (mTb (mOp (dEq false) (mVar 4) (mC (.int 0)))) (msSetI (mVar 9) (mCall 2 (m__law_take) (mCons (mVar 0) (mCons (mB bLen (mCons (mVar 9) (mNil))) (mNil)))) (mB bMin2 (mCons (mOp dAdd (mVar 8) (mC (.int 1))) (mCons (mOp dSub (mVar 3) (mC (.int 1))) (mNil))))) (msNil)) (tbE t most many road often (g.length + 2) (some (.int (i : Nat))) (some (.ref (z :: c :: G).length)) x10 x11) (z :: c1 :: (G ++ [Cell.lst (row.map nD)])) = .nx (tbE t most many road often (g.length + 2) (some (.int (i : Nat))) (some (.ref (z :: c :: G).length)) x10 x11) (z :: c2 :: (G ++ [Cell.lst (row2.map nD)])) ∧ row2.length = t.length ∧ (∀ x ∈ row2, x < many) ∧ Pn (b + 3) c2 := by
    by_cases q : road = 0
    · subst q
      obtain ⟨v, c2, e2, v2, p2⟩ := draw_call (b := b + 3) (z := z) (c := c1) (g := G ++ [Cell.lst (row.map nD)]) (m := ((row.map nD).length : Nat)) (p1.mono (by omega)) (by simp; omega) (by simp; omega)
      have v3 : v < row.length := by simpa using v2
      have bl : bLen [.ref (G.length + 1 + 1)] (z :: c1 :: (G ++ [Cell.lst (row.map nD)])) = .ok (.int ((row.map nD).length : Nat)) (z :: c1 :: (G ++ [Cell.lst (row.map nD)])) := bLen_ref (by simp)
      obtain ⟨w, ew, wl⟩ : ∃ w : Nat, (if (many : Int) - 1 < (i : Nat) + 1 then (many : Int) - 1 else (i : Nat) + 1) = (w : Nat) ∧ w < many := by
        by_cases q : (many : Int) - 1 < (i : Nat) + 1
        · exact ⟨many - 1, by rw [if_pos q]; omega, by omega⟩
        · exact ⟨i + 1, by rw [if_neg q]; omega, by omega⟩
      have pt : putD (.ref (G.length + 1 + 1)) (.int (v : Nat)) (.int (w : Nat)) (z :: c2 :: (G ++ [Cell.lst (row.map nD)])) = some (z :: c2 :: (G ++ [Cell.lst ((row.set v w).map nD)])) := by
        rw [putD_ref (xs := row.map nD) (by simp) (by omega) (by simp; omega)]
        simp [nD]
      refine ⟨row.set v w, c2, ?_, by simp [yl], fun x hx => ?_, p2⟩
      · unfold tbE
        generalize row.map nD = R at *
        simp [bl, e2, ew, pt]
      · rcases List.mem_or_eq_of_mem_set hx with hx | rfl
        · exact rb x hx
        · exact wl
    · have q' : ¬ (road : Int) = 0 := by omega
      exact ⟨row, c1, by unfold tbE; simp [q], yl, rb, p1.mono (by omega)⟩
  obtain ⟨row2, c2, e2, rl2, rb2, p2⟩ := nxt
  obtain ⟨v, c3, e3, v3, p3⟩ := draw_call (b := b + 2) (z := z) (c := c2) (g := G ++ [Cell.lst (row2.map nD)]) (m := 6) (p2.mono (by omega)) (by omega) (by omega)
  -- the kind
  have kin : ∃ (k : Int) (c4 : Cell), (msIf (mOr (mTb (mOp (dEq false) (mVar 8) (mC (.int 0)))) (mTb (mOp dGt (mCall 2 (m__law_take) (mCons (mVar 0) (mCons (mVar 5) (mNil)))) (mC (.int 0))))) (msSet 10 (mNeg (mC (.int 1)))) (msNil)) (tbE t most many road often (g.length + 2) (some (.int (i : Nat))) (some (.ref (z :: c :: G).length)) (some (.int (v : Nat))) x11) (z :: c3 :: (G ++ [Cell.lst (row2.map nD)])) = .nx (tbE t most many road often (g.length + 2) (some (.int (i : Nat))) (some (.ref (z :: c :: G).length)) (some (.int k)) x11) (z :: c4 :: (G ++ [Cell.lst (row2.map nD)])) ∧ -1 ≤ k ∧ k ≤ 5 ∧ (i = 0 → k = -1) ∧ Pn b c4 := by
    by_cases q : i = 0
    · subst q
      exact ⟨-1, c3, by unfold tbE; simp, by omega, by omega, fun _ => rfl, p3.mono (by omega)⟩
    · have q' : ¬ (i : Int) = 0 := by omega
      obtain ⟨w, c4, e4, w4, p4⟩ := draw_call (b := b) (z := z) (c := c3) (g := G ++ [Cell.lst (row2.map nD)]) (m := (often : Nat)) (p3.mono (by omega)) (by omega) (by omega)
      by_cases q2 : 0 < w
      · have q2' : (w : Int) > 0 := by omega
        exact ⟨-1, c4, by unfold tbE; simp [q, e4, q2], by omega, by omega, fun h => absurd h q, p4⟩
      · have q2' : ¬ (w : Int) > 0 := by omega
        exact ⟨(v : Nat), c4, by unfold tbE; simp [q, e4, q2], by omega, by omega, fun h => absurd h q, p4⟩
  obtain ⟨k, c4, e4, k1, k5, k0, p4⟩ := kin
  have G0 : G[g.length]? = some (.lst (goes.map gF)) := by rw [← hG]; simp
  have ap1 : fAppend (.ref (g.length + 2)) [.fl (row2.map nD)] (z :: c4 :: (G ++ [Cell.frz (row2.map nD)])) = .ok .non (z :: c4 :: (g ++ Cell.lst ((goes ++ [row2]).map gF) :: Cell.lst (kinds.map D.int) :: (e ++ [Cell.frz (row2.map nD)]))) := by
    rw [append_at (xs := goes.map gF) (by simp [← hG]) (by simp; omega), ← hG]
    simp [gF]
  have ap2 : fAppend (.ref (g.length + 2 + 1)) [.int k] (z :: c4 :: (g ++ Cell.lst ((goes ++ [row2]).map gF) :: Cell.lst (kinds.map D.int) :: (e ++ [Cell.frz (row2.map nD)]))) = .ok .non (z :: c4 :: (g ++ Cell.lst ((goes ++ [row2]).map gF) :: Cell.lst ((kinds ++ [k]).map D.int) :: (e ++ [Cell.frz (row2.map nD)]))) := by
    rw [append_at (xs := kinds.map D.int) (by rw [show g.length + 2 + 1 = (g.length + 1) + 1 + 1 by omega]; simp) (by simp; omega)]
    rw [show g.length + 2 + 1 = (g.length + 1) + 1 + 1 by omega]
    simp
  have ty1 : tyD "list" (z :: c4 :: (G ++ [Cell.frz (row2.map nD)])) (.ref (g.length + 2)) = true := tyD_ref (xs := goes.map gF) (by simp [← hG])
  have ty2 : tyD "list" (z :: c4 :: (g ++ Cell.lst ((goes ++ [row2]).map gF) :: Cell.lst (kinds.map D.int) :: (e ++ [Cell.frz (row2.map nD)]))) (.ref (g.length + 2 + 1)) = true := tyD_ref (xs := kinds.map D.int) (by rw [show g.length + 2 + 1 = (g.length + 1) + 1 + 1 by omega]; simp)
  refine ⟨row2, k, c4, e ++ [Cell.frz (row2.map nD)], some (.fl (row2.map nD)), some (.int k), x11, ?_, rl2, rb2, k1, k5, k0, p4⟩
  unfold b__law_table_2
  refine stS (env2 := tbE t most many road often (g.length + 2) (some (.int (i : Nat))) (some (.ref (z :: c :: G).length)) x10 x11) (h2 := z :: c1 :: (G ++ [Cell.lst (row.map nD)])) ?_ ?_
  · rw [ap_msSet, e1]
    rfl
  refine stS e2 ?_
  refine stS (env2 := tbE t most many road often (g.length + 2) (some (.int (i : Nat))) (some (.ref (z :: c :: G).length)) (some (.int (v : Nat))) x11) (h2 := z :: c3 :: (G ++ [Cell.lst (row2.map nD)])) (by unfold tbE; simp [e3]) ?_
  refine stS e4 ?_
  refine stS (env2 := tbE t most many road often (g.length + 2) (some (.int (i : Nat))) (some (.fl (row2.map nD))) (some (.int k)) x11) (h2 := z :: c4 :: (g ++ Cell.lst ((goes ++ [row2]).map gF) :: Cell.lst (kinds.map D.int) :: (e ++ [Cell.frz (row2.map nD)]))) ?_ ?_
  · rw [ap_msFz (n := (z :: c :: G).length) (xs := row2.map nD) rfl (by simp)]
    have hs : (z :: c4 :: (G ++ [Cell.lst (row2.map nD)])).set (z :: c :: G).length (.frz (row2.map nD)) = z :: c4 :: (G ++ [Cell.frz (row2.map nD)]) := by simp
    rw [hs]
    generalize row2.map nD = R at *
    unfold tbE
    simp [ty1, ap1]
  · generalize (goes ++ [row2]).map gF = A1 at *
    generalize kinds.map D.int = A2 at *
    generalize (kinds ++ [k]).map D.int = A3 at *
    unfold tbE
    simp [ty2, ap2]
theorem table_loop {z : Cell} {g : IH} {t : List Nat} {most many road often : Nat} (tg : Tgn t) (m1 : 1 ≤ many) (m32 : many ≤ 32) (o2 : 1 ≤ often) (o4 : often ≤ 10) : ∀ (m i b : Nat) (c : Cell) (goes : List (List Nat)) (kinds : List Int) (e : IH) (x8 x9 x10 x11 : Option D), i + m ≤ 100 → goes.length = i → kinds.length = i → (∀ r ∈ goes, r.length = t.length ∧ ∀ x ∈ r, x < many) → (∀ k ∈ kinds, -1 ≤ k ∧ k ≤ 5) → (0 < i → kinds[0]? = some (-1)) → Pn (b + 10 * m) c →
    ∃ (goes' : List (List Nat)) (kinds' : List Int) (c' : Cell) (e' : IH) (y8 y9 y10 y11 : Option D), forL (gSet 8) b__law_table_2 (intsFrom (i : Nat) m) (tbE t most many road often (g.length + 2) x8 x9 x10 x11) (z :: c :: (g ++ Cell.lst (goes.map gF) :: Cell.lst (kinds.map D.int) :: e)) =
      .nx (tbE t most many road often (g.length + 2) y8 y9 y10 y11) (z :: c' :: (g ++ Cell.lst (goes'.map gF) :: Cell.lst (kinds'.map D.int) :: e')) ∧ goes'.length = i + m ∧ kinds'.length = i + m ∧ (∀ r ∈ goes', r.length = t.length ∧ ∀ x ∈ r, x < many) ∧ (∀ k ∈ kinds', -1 ≤ k ∧ k ≤ 5) ∧ (0 < i + m → kinds'[0]? = some (-1)) ∧ Pn b c'
  | 0, i, b, c, goes, kinds, e, x8, x9, x10, x11, _, gl, kl, gg, kk, k0, hp => ⟨goes, kinds, c, e, x8, x9, x10, x11, rfl, gl, kl, gg, kk, k0, hp⟩
  | m + 1, i, b, c, goes, kinds, e, x8, x9, x10, x11, im, gl, kl, gg, kk, k0, hp => by
    obtain ⟨row, k, c1, e1, y9, y10, y11, et, rl, rb, k1, k5, kz, p1⟩ := table_turn (b := b + 10 * m) (z := z) (c := c) (g := g) (t := t) (most := most) (many := many) (road := road) (often := often) (goes := goes) (kinds := kinds) (i := i) (x8 := x8) (x9 := x9) (x10 := x10) (x11 := x11) (e := e) tg m1 m32 o2 o4 (by omega) (by omega) (hp.mono (by omega))
    obtain ⟨goes', kinds', c', e', z8, z9, z10, z11, el, q1, q2, q3, q4, q5, q6⟩ := table_loop (z := z) (g := g) (t := t) (most := most) (many := many) (road := road) (often := often) tg m1 m32 o2 o4 m (i + 1) b c1 (goes ++ [row]) (kinds ++ [k]) e1 (some (.int (i : Nat))) y9 y10 y11 (by omega) (by simp [gl]) (by simp [kl]) (fun r hr => by
      rcases List.mem_append.mp hr with hr | hr
      · exact gg r hr
      · rw [List.mem_singleton] at hr
        subst hr
        exact ⟨rl, rb⟩) (fun x hx => by
      rcases List.mem_append.mp hx with hx | hx
      · exact kk x hx
      · rw [List.mem_singleton] at hx
        subst hx
        exact ⟨k1, k5⟩) (fun _ => by
      by_cases q : i = 0
      · have : kinds = [] := List.eq_nil_of_length_eq_zero (by omega)
        subst this
        rw [kz q]
        rfl
      · rw [List.getElem?_append_left (by omega)]
        exact k0 (by omega)) p1
    refine ⟨goes', kinds', c', e', z8, z9, z10, z11, ?_, by omega, by omega, q3, q4, fun _ => q5 (by omega), q6⟩
    rw [intsFrom_succ, forL_cons (e1 := tbE t most many road often (g.length + 2) (some (.int (i : Nat))) x9 x10 x11) rfl, et, on_nx, show ((i : Int) + 1) = ((i + 1 : Nat) : Int) by omega]
    exact el
theorem table_call {b : Nat} {z c : Cell} {g : IH} {t : List Nat} {most : Nat} (tg : Tgn t) (h1 : 1 ≤ most) (h2 : most ≤ 32) (hp : Pn (b + 400) c) :
    ∃ (T : Tb) (c' : Cell), callC 3 m__law_table [.ref 1, .str t, .int (most : Nat)] (z :: c :: g) = .ok T.enc (z :: c' :: g) ∧ T.Ok ∧ T.sig = t ∧ T.goes.length ≤ most ∧ (∀ r < T.goes.length, Led T.goes r) ∧ Pn b c' := by
  obtain ⟨u, c1, e1, u1, p1⟩ := draw_call (b := b + 399) (z := z) (c := c) (g := g) (m := (most : Nat)) (hp.mono (by omega)) (by omega) (by omega)
  obtain ⟨road, c2, e2, u2, p2⟩ := draw_call (b := b + 398) (z := z) (c := c1) (g := g) (m := 3) (p1.mono (by omega)) (by omega) (by omega)
  obtain ⟨often, c3, e3, u3, p3⟩ := draw_call (b := b + 397) (z := z) (c := c2) (g := g) (m := 2) (p2.mono (by omega)) (by omega) (by omega)
  generalize hN : u + 1 = N
  have N1 : 1 ≤ N := by omega
  have N2 : N ≤ most := by omega
  obtain ⟨goes, kinds, c4, e4, y8, y9, y10, y11, el, gl, kl, gg, kk, k0, p4⟩ := table_loop (z := z) (g := g) (t := t) (most := most) (many := N) (road := road) (often := often + 2) tg N1 (by omega) (by omega) (by omega) N 0 (b + 1) c3 [] [] [] none none none none (by omega) rfl rfl (by simp) (by simp) (by omega) (p3.mono (by omega))
  rw [Nat.zero_add] at gl kl k0
  obtain ⟨v, c5, e5, u5, p5⟩ := draw_call (b := b) (z := z) (c := c4) (g := g ++ Cell.lst (goes.map gF) :: Cell.lst (kinds.map D.int) :: e4) (m := 32) p4 (by omega) (by omega)
  obtain ⟨T, ec, ok, sig, Tl, led⟩ := cut_down_call (h := z :: c5 :: (g ++ Cell.lst (goes.map gF) :: Cell.lst (kinds.map D.int) :: e4)) (t := t) (gs := .ref (g.length + 2)) (ks := .ref (g.length + 2 + 1)) (goes := goes) (kinds := kinds) (u := v) (N := N) tg N1 (by omega) gl gg kl (k0 (by omega)) kk
    (rds_ref (by simp)) (kds_ref (by rw [show g.length + 2 + 1 = (g.length + 1) + 1 + 1 by omega]; simp))
  refine ⟨T, c5, callC_pen (g' := Cell.lst (goes.map gF) :: Cell.lst (kinds.map D.int) :: e4) rfl ?_ (by simp) (fun k _ => p5.lo k), ok (by omega), sig, by omega, led, p5⟩
  unfold m__law_table
  rw [ap_fnM]
  simp only [List.map_cons, List.map_nil, List.length_cons, List.length_nil, List.cons_append, List.nil_append, Nat.reduceAdd, Nat.reduceSub, List.replicate]
  have cN : (1 : Int) + (u : Nat) = (N : Nat) := by omega
  have co : (2 : Int) + (often : Nat) = ((often + 2 : Nat) : Int) := by omega
  refine stN (env2 := [some (.ref 1), some (.str t), some (.int (most : Nat)), some (.int (N : Nat)), none, none, none, none, none, none, none, none]) (h2 := z :: c1 :: g) (by simp [e1, cN]) ?_
  refine stN (env2 := [some (.ref 1), some (.str t), some (.int (most : Nat)), some (.int (N : Nat)), some (.int (road : Nat)), none, none, none, none, none, none, none]) (h2 := z :: c2 :: g) (by simp [e2]) ?_
  refine stN (env2 := [some (.ref 1), some (.str t), some (.int (most : Nat)), some (.int (N : Nat)), some (.int (road : Nat)), some (.int ((often + 2 : Nat) : Int)), none, none, none, none, none, none]) (h2 := z :: c3 :: g) (by rw [← co]; simp [e3]) ?_
  refine stN (env2 := [some (.ref 1), some (.str t), some (.int (most : Nat)), some (.int (N : Nat)), some (.int (road : Nat)), some (.int ((often + 2 : Nat) : Int)), some (.ref (g.length + 2)), none, none, none, none, none]) (h2 := z :: c3 :: (g ++ [.lst []])) (by simp [newL]) ?_
  refine stN (env2 := tbE t most N road (often + 2) (g.length + 2) none none none none) (h2 := z :: c3 :: (g ++ [.lst [], .lst []])) (by simp [newL, tbE]) ?_
  refine stN (env2 := tbE t most N road (often + 2) (g.length + 2) y8 y9 y10 y11) (h2 := z :: c4 :: (g ++ Cell.lst (goes.map gF) :: Cell.lst (kinds.map D.int) :: e4)) ?_ ?_
  · rw [for_st (ds := intsFrom 0 N) (h2 := z :: c3 :: (g ++ [.lst [], .lst []])) (iRange1_of (j := (N : Nat)) (k := N) (by simp [tbE]) rfl (by omega))]
    exact el
  · unfold tbE
    simp [e5, ec]
/-! ### deeds, machines -/
inductive Deed where
  | stay | shut | opn (m : Nat) | trn (m : Nat)
def kStay : List Nat := [115, 116, 97, 121]
def kShut : List Nat := [115, 104, 117, 116]
def kOpen : List Nat := [111, 112, 101, 110]
def kTurn : List Nat := [116, 117, 114, 110]
def Deed.enc : Deed → D
  | .stay => .tup [.str kStay]
  | .shut => .tup [.str kShut]
  | .opn m => .tup [.str kOpen, .int (m : Nat)]
  | .trn m => .tup [.str kTurn, .int (m : Nat)]
@[simp] theorem lo_Deed {n : Nat} {d : Deed} : d.enc.lo n = true := by cases d <;> simp [Deed.enc]
def Deed.Ok (n : Nat) : Deed → Prop
  | .opn m => m < n
  | .trn m => m < n
  | _ => True
/-- a mode -/
structure Md where
  tb : Tb
  ds : List Deed
def Md.enc (m : Md) : D := .tup [.tup (m.tb.goes.map gT), .tup (m.tb.kinds.map D.int), .tup (m.ds.map Deed.enc)]
@[simp] theorem lo_Md {n : Nat} {m : Md} : m.enc.lo n = true := by simp [Md.enc]
structure Md.Ok (t : List Nat) (most n : Nat) (m : Md) : Prop where
  ok : m.tb.Ok
  sg : m.tb.sig = t
  le : m.tb.goes.length ≤ most
  led : ∀ r < m.tb.goes.length, Led m.tb.goes r
  kd : ∀ k ∈ m.tb.kinds, k < m.ds.length
  dl : m.ds.length ≤ 6
  dk : ∀ d ∈ m.ds, d.Ok n
structure Mc where
  sig : List Nat
  ms : List Md
def Mc.enc (M : Mc) : D := .tup [.str M.sig, .tup (M.ms.map Md.enc)]
@[simp] theorem lo_Mc {n : Nat} {M : Mc} : M.enc.lo n = true := by simp [Mc.enc]
structure Mc.Ok (most : Nat) (M : Mc) : Prop where
  tg : Tgn M.sig
  n1 : 1 ≤ M.ms.length
  n4 : M.ms.length ≤ 4
  md : ∀ m ∈ M.ms, m.Ok M.sig most M.ms.length
end NR

set_option Elab.async false
set_option linter.all false
set_option maxRecDepth 100000
set_option maxHeartbeats 4000000
namespace NR
open PySem PySem.Spec PyProof.Rows L2
/-- the signs that are not of the tongue -/
def restS (t : List Nat) : List Nat := allSigns.filter fun x => !decide (x ∈ t)
theorem rest89 {t : List Nat} (tg : Tgn t) : 89 ≤ (restS t).length := by
  have h1 : (allSigns.filter fun x => decide (x ∈ t)).length ≤ t.length := by
    have nd : (allSigns.filter fun x => decide (x ∈ t)).Nodup := allSigns_nodup.sublist List.filter_sublist
    have : ∀ (l m : List Nat), l.Nodup → (∀ x ∈ l, x ∈ m) → l.length ≤ m.length := by
      intro l
      induction l with
      | nil => intro m _ _; simp
      | cons a l ih =>
        intro m nd hs
        have ha := hs a List.mem_cons_self
        have := ih (m.erase a) (List.nodup_cons.mp nd).2 fun x hx => by
          have ne : x ≠ a := fun z => (List.nodup_cons.mp nd).1 (z ▸ hx)
          exact (List.mem_erase_of_ne ne).mpr (hs x (List.mem_cons_of_mem _ hx))
        have h2 := List.length_erase_of_mem ha
        have h3 := List.length_pos_of_mem ha
        simp
        omega
    exact this _ _ nd fun x hx => by simpa using (List.mem_filter.mp hx).2
  have h2 : (allSigns.filter fun x => decide (x ∈ t)).length + (allSigns.filter fun x => !decide (x ∈ t)).length = 95 := by
    rw [← List.countP_eq_length_filter, ← List.countP_eq_length_filter]
    have := List.length_eq_countP_add_countP (fun x => decide (x ∈ t)) (l := allSigns)
    rw [allSigns_len] at this
    simpa using this.symm
  have := tg.l2
  unfold restS
  omega
theorem rest95 {t : List Nat} : (restS t).length ≤ 95 := by rw [← allSigns_len]; exact List.length_filter_le _ _
theorem rest_no {t : List Nat} {k : Nat} (h : k ∈ restS t) : k ∉ t := by simpa using (List.mem_filter.mp h).2
def notIn (t : List Nat) : D → Bool
  | .str [x] => !decide (x ∈ t)
  | _ => false
theorem rest_er {t : List Nat} : ((sgD allSigns).filter (notIn t)).map id = sgD (restS t) := by
  rw [List.map_id]
  unfold sgD restS
  rw [List.filter_map]
  rfl
/-- signs of a text: cut, put in -/
theorem sl_to {s : List Nat} {u : Nat} (l : s.length ≤ 10000000) (h : IH) : sliceD (.str s) none (some (u : Nat)) h = .ok (.str (s.take u)) h := by rw [sliceD_str l, cutN_to (by omega)]; simp
theorem sl_from {s : List Nat} {u : Nat} (l : s.length ≤ 10000000) (h : IH) : sliceD (.str s) (some (u : Nat)) none h = .ok (.str (s.drop u)) h := by rw [sliceD_str l, cutN_from (by omega)]; simp
theorem sl_from1 {s : List Nat} {u : Nat} (l : s.length ≤ 10000000) (h : IH) : sliceD (.str s) (some ((u : Nat) + 1)) none h = .ok (.str (s.drop (u + 1))) h := by rw [sliceD_str l, cutN_from (by omega)]; congr 2
theorem ad_str {a b : List Nat} (l : a.length + b.length ≤ 10000000) (h : IH) : dAdd (.str a) (.str b) h = .ok (.str (a ++ b)) h := dAdd_str l
theorem ix_sg {s : List Nat} {v : Nat} (hv : v < s.length) (h : IH) : dIx (.fl (sgD s)) (.int (v : Nat)) h = .ok (.str [s[v]]) h := dIx_nat (xs := sgD s) rfl (by unfold sgD; rw [List.getElem?_map, List.getElem?_eq_getElem hv]; rfl)
theorem ix_sn {s : List Nat} {v : Nat} (hv : v < s.length) (l : s.length ≤ 10000000) (h : IH) : dIx (.str s) (.int (v : Nat)) h = .ok (.str [s[v]]) h := dIx_str (by omega) (by simp [hv]) l
/-- a text, or surely none -/
def Tx (n : Nat) (x : D) : Prop := (∃ s, x = .str s ∧ s.length ≤ n) ∨ ∀ h : IH, isT "str" h x = some false
def D.isW (t : List Nat) : D → Bool
  | .str s => s.all fun c => decide (c ∈ t)
  | _ => false
def D.sg : D → List Nat
  | .str s => s
  | _ => []
theorem isW_iff {t s : List Nat} : (D.str s).isW t = true ↔ ∀ c ∈ s, c ∈ t := by
  simp [D.isW]
theorem isW_no {t : List Nat} {x : D} {h : IH} (e : isT "str" h x = some false) : x.isW t = false := by
  cases x with
  | str s => simp at e
  | _ => rfl
theorem Tx.mono {n m : Nat} (h : n ≤ m) {x : D} (t : Tx n x) : Tx m x := by
  rcases t with ⟨s, rfl, l⟩ | t
  · exact .inl ⟨s, rfl, by omega⟩
  · exact .inr t
end NR

set_option Elab.async false
set_option linter.all false
set_option maxRecDepth 100000
set_option maxHeartbeats 4000000
namespace NR
open PySem PySem.Spec PyProof.Rows L2
/-! ### goes, kinds, pieces -/
def Tb.go (T : Tb) (r c : Nat) : Nat := (T.goes.getD r []).getD ((fnd c T.sig).getD 0) 0
def Tb.kind (T : Tb) (r : Nat) : Int := T.kinds.getD r (-1)
def Tb.n (T : Tb) : Nat := T.goes.length
theorem fnd_mem {c : Nat} {s : List Nat} (h : c ∈ s) : ∃ i, fnd c s = some i ∧ i < s.length := by
  cases e : fnd c s with
  | none => exact absurd h (fnd_none.mp e)
  | some i => exact ⟨i, rfl, (List.getElem?_eq_some_iff.mp (fnd_some.mp e).1).1⟩
theorem Tb.Ok.go {T : Tb} (ok : T.Ok) {r c : Nat} (hr : r < T.n) (hc : c ∈ T.sig) : ∃ row i, T.goes[r]? = some row ∧ fnd c T.sig = some i ∧ row[i]? = some (T.go r c) ∧ T.go r c < T.n := by
  have er : T.goes[r]? = some T.goes[r] := List.getElem?_eq_getElem hr
  obtain ⟨l, b⟩ := ok.row T.goes[r] (List.getElem_mem hr)
  obtain ⟨i, ei, hi⟩ := fnd_mem hc
  have hi2 : i < T.goes[r].length := by omega
  have e : T.go r c = T.goes[r][i] := by
    unfold Tb.go
    rw [ei, List.getD_eq_getElem?_getD (l := T.goes), er]
    simp [hi2]
  exact ⟨_, i, er, ei, by rw [e]; exact List.getElem?_eq_getElem hi2, by rw [e]; exact b _ (List.getElem_mem hi2)⟩
theorem Tb.Ok.kindAt {T : Tb} (ok : T.Ok) {r : Nat} (hr : r < T.n) : T.kinds[r]? = some (T.kind r) := by
  have : r < T.kinds.length := by rw [ok.kl]; exact hr
  unfold Tb.kind
  rw [List.getD_eq_getElem?_getD, List.getElem?_eq_getElem this]
  rfl
section
variable {T : Tb} {r c : Nat} {h : IH}
theorem ix_goes (ok : T.Ok) (hr : r < T.n) (hc : c ∈ T.sig) : ∃ (row : List Nat) (i : Nat), dIx (.tup (T.goes.map gT)) (.int (r : Nat)) h = .ok (.tup (row.map nD)) h ∧ fFind (.str T.sig) [.str [c]] h = .ok (.int (i : Nat)) h ∧ dIx (.tup (row.map nD)) (.int (i : Nat)) h = .ok (.int (T.go r c : Nat)) h := by
  obtain ⟨row, i, e1, e2, e3, _⟩ := ok.go hr hc
  exact ⟨row, i, dIx_nat (xs := T.goes.map gT) rfl (by rw [List.getElem?_map, e1]; rfl), by show R.ok (D.int (match fnd c T.sig with | some i => (i : Int) | none => -1)) h = _; rw [e2], dIx_nat (xs := row.map nD) rfl (by rw [List.getElem?_map, e3]; rfl)⟩
theorem ix_kind (ok : T.Ok) (hr : r < T.n) : dIx (.tup (T.kinds.map D.int)) (.int (r : Nat)) h = .ok (.int (T.kind r)) h := dIx_nat (xs := T.kinds.map D.int) rfl (by rw [List.getElem?_map, ok.kindAt hr]; rfl)
theorem tT0 : dIx T.enc (.int 0) h = .ok (.str T.sig) h := dIx_seq (xs := [.str T.sig, .tup (T.goes.map gT), .tup (T.kinds.map D.int)]) rfl (by omega) rfl
theorem tT1 : dIx T.enc (.int 1) h = .ok (.tup (T.goes.map gT)) h := dIx_seq (xs := [.str T.sig, .tup (T.goes.map gT), .tup (T.kinds.map D.int)]) rfl (by omega) rfl
theorem tT2 : dIx T.enc (.int 2) h = .ok (.tup (T.kinds.map D.int)) h := dIx_seq (xs := [.str T.sig, .tup (T.goes.map gT), .tup (T.kinds.map D.int)]) rfl (by omega) rfl
theorem ix_row {r : Nat} {row : List Nat} (e : T.goes[r]? = some row) : dIx (.tup (T.goes.map gT)) (.int (r : Nat)) h = .ok (gT row) h := dIx_nat (xs := T.goes.map gT) rfl (by simp [e])
theorem Tb.Ok.rowAt (ok : T.Ok) {r : Nat} (hr : r < T.n) : ∃ row, T.goes[r]? = some row ∧ row.length = T.sig.length ∧ ∀ x ∈ row, x < T.n :=
  ⟨_, List.getElem?_eq_getElem hr, ok.row _ (List.getElem_mem hr)⟩
end
end NR

set_option Elab.async false
set_option linter.all false
set_option maxRecDepth 100000
set_option maxHeartbeats 4000000
namespace NR
open PySem PySem.Spec PyProof.Rows L2
/-! ### two tables of one tongue -/
theorem doubled_turn {T : Tb} (ok : T.Ok) {b : Nat} {z c : Cell} {g : IH} {goes : List (List Nat)} {i : Nat} {x5 : Option D} (gl : goes.length ≤ 100) (hp : Pn (b + 6) c) :
    ∃ (row : List Nat) (c' : Cell), b__law_doubled_2 [some (.ref 1), some T.enc, some (.int (T.goes.length : Nat)), some (.ref (g.length + 2)), some (.int (i : Nat)), x5] (z :: c :: (g ++ [Cell.lst (goes.map gF)])) = .nx [some (.ref 1), some T.enc, some (.int (T.goes.length : Nat)), some (.ref (g.length + 2)), some (.int (i : Nat)), x5] (z :: c' :: (g ++ [Cell.lst ((goes ++ [row]).map gF)])) ∧ row.length = T.sig.length ∧ (∀ x ∈ row, x < 2 * T.goes.length) ∧ Pn b c' := by
  have t6 := ok.tg.l2
  have g1 := ok.g1
  have g2 := ok.g2
  obtain ⟨r0, er, rl, rb⟩ := ok.rowAt (r := i % T.goes.length) (Nat.mod_lt _ (by omega))
  have rb : ∀ x ∈ r0, x < T.goes.length := rb
  have md : ∀ h : IH, dMod (.int (i : Nat)) (.int (T.goes.length : Nat)) h = .ok (.int ((i % T.goes.length : Nat) : Int)) h := fun h => by
    have cm : cMod (i : Nat) (T.goes.length : Nat) = true := by simp only [cMod, decide_eq_true_eq]; omega
    simp [dI, cm]
  have ir : ∀ h : IH, dIx (.tup (T.goes.map gT)) (.int ((i : Int) % ((T.goes.length : Nat) : Int))) h = .ok (.tup (r0.map nD)) h := fun h => by
    have := ix_row (h := h) er
    rwa [Int.natCast_emod] at this
  obtain ⟨ys, c1, e1, yl, yv, p1⟩ := lcF_penI (Pn := Pn) (b := b) (K := 1) (z := z) (cc := c) (c0 := c) (g := g ++ [Cell.lst (goes.map gF)]) (ds := r0.map nD) (env := [some (.ref 1), some T.enc, some (.int (T.goes.length : Nat)), some (.ref (g.length + 2)), some (.int (i : Nat)), x5]) (it := iSeq (mOp dIx (mOp dIx (mVar 1) (mC (.int 1))) (mOp dMod (mVar 4) (mVar 2)))) (gg := gSet 5) (ws := [5]) (m := e__law_doubled_1) Pn_lo
    (fun _ y => ∃ v : Nat, y = nD v ∧ v < 2 * T.goes.length) (by simp [tT1, md, ir]) (by simp; omega) (hp.mono (by simp; omega)) (by rintro _ y k ⟨x, rfl, _⟩; rfl) (fun j d hd => ⟨_, rfl, fun b c g hb => by
      rw [List.getElem?_map, Option.map_eq_some_iff] at hd
      obtain ⟨y, hy, rfl⟩ := hd
      obtain ⟨v, c2, e2, v2, p2⟩ := draw_call (b := b) (z := z) (c := c) (g := g) (m := 2) hb (by omega) (by omega)
      have yb := rb y (List.mem_of_getElem? hy)
      refine ⟨nD (y + T.goes.length * v), c2, ?_, p2, _, rfl, ?_⟩
      · unfold e__law_doubled_1
        have : ((T.goes.length : Nat) : Int) * (v : Nat) = ((T.goes.length * v : Nat) : Int) := by simp
        have cm : cMul (T.goes.length : Nat) (v : Nat) = true := by
          simp only [cMul, decide_eq_true_eq]
          have : v = 0 ∨ v = 1 := by omega
          rcases this with rfl | rfl <;> simp <;> omega
        simp [wipeE, e2, nD, cm]
      · have : v = 0 ∨ v = 1 := by omega
        rcases this with rfl | rfl <;> omega⟩)
  obtain ⟨row, rfl, rb2⟩ := nats_of (ys := ys) (m := 2 * T.goes.length) (fun y hy => by
    obtain ⟨j, hj⟩ := List.mem_iff_getElem?.mp hy
    exact yv j y hj)
  rw [List.length_map, List.length_map] at yl
  have ty : tyD "list" (z :: c :: (g ++ [Cell.lst (goes.map gF)])) (.ref (g.length + 2)) = true := tyD_ref (xs := goes.map gF) (by simp)
  have ty1 : tyD "list" (z :: c1 :: (g ++ [Cell.lst (goes.map gF)])) (.ref (g.length + 2)) = true := tyD_ref (xs := goes.map gF) (by simp)
  have ap : fAppend (.ref (g.length + 2)) [.fl (row.map nD)] (z :: c1 :: (g ++ [Cell.lst (goes.map gF)])) = .ok .non (z :: c1 :: (g ++ [Cell.lst ((goes ++ [row]).map gF)])) := by
    rw [append_at (xs := goes.map gF) (by simp) (by simp; omega)]
    simp [gF]
  refine ⟨row, c1, ?_, by omega, rb2, p1⟩
  unfold b__law_doubled_2
  generalize mFz (mLc (iSeq (mOp dIx (mOp dIx (mVar 1) (mC (.int 1))) (mOp dMod (mVar 4) (mVar 2)))) (gSet 5) mYes e__law_doubled_1 [5]) = F at *
  generalize (goes ++ [row]).map gF = A1 at *
  generalize goes.map gF = A2 at *
  generalize row.map nD = A3 at *
  simp [e1, ty, ty1, ap]
theorem doubled_call {T : Tb} (ok : T.Ok) (l16 : T.goes.length ≤ 16) {b : Nat} {z c : Cell} {g : IH} (hp : Pn (b + 300) c) :
    ∃ (U : Tb) (c' : Cell), callC 2 m__law_doubled [.ref 1, T.enc] (z :: c :: g) = .ok U.enc (z :: c' :: g) ∧ U.Ok ∧ U.sig = T.sig ∧ U.goes.length ≤ 2 * T.goes.length ∧ (∀ r < U.goes.length, Led U.goes r) ∧ Pn b c' := by
  have g1 := ok.g1
  generalize hn : T.goes.length = n at *
  have loop : ∀ (m i : Nat) (c : Cell) (goes : List (List Nat)) (x4 x5 : Option D), i + m ≤ 100 → goes.length = i → (∀ r ∈ goes, r.length = T.sig.length ∧ ∀ x ∈ r, x < 2 * n) → Pn (b + 1 + 6 * m) c →
      ∃ (goes' : List (List Nat)) (c' : Cell) (y4 y5 : Option D), forL (gSet 4) b__law_doubled_2 (intsFrom (i : Nat) m) [some (.ref 1), some T.enc, some (.int (n : Nat)), some (.ref (g.length + 2)), x4, x5] (z :: c :: (g ++ [Cell.lst (goes.map gF)])) = .nx [some (.ref 1), some T.enc, some (.int (n : Nat)), some (.ref (g.length + 2)), y4, y5] (z :: c' :: (g ++ [Cell.lst (goes'.map gF)])) ∧ goes'.length = i + m ∧ (∀ r ∈ goes', r.length = T.sig.length ∧ ∀ x ∈ r, x < 2 * n) ∧ Pn (b + 1) c' := by
    intro m
    induction m with
    | zero => exact fun i c goes x4 x5 _ gl gg hp => ⟨goes, c, x4, x5, rfl, gl, gg, hp⟩
    | succ m ih =>
      intro i c goes x4 x5 im gl gg hp
      obtain ⟨row, c1, e1, rl, rb, p1⟩ := doubled_turn ok (b := b + 1 + 6 * m) (z := z) (c := c) (g := g) (goes := goes) (i := i) (x5 := x5) (by omega) (hp.mono (by omega))
      rw [hn] at e1 rb
      obtain ⟨goes', c', y4, y5, el, q1, q2, q3⟩ := ih (i + 1) c1 (goes ++ [row]) (some (.int (i : Nat))) x5 (by omega) (by simp [gl]) (fun r hr => by
        rcases List.mem_append.mp hr with hr | hr
        · exact gg r hr
        · rw [List.mem_singleton] at hr
          subst hr
          exact ⟨rl, rb⟩) p1
      refine ⟨goes', c', y4, y5, ?_, by omega, q2, q3⟩
      rw [intsFrom_succ, forL_cons (e1 := [some (.ref 1), some T.enc, some (.int (n : Nat)), some (.ref (g.length + 2)), some (.int (i : Nat)), x5]) rfl, e1, on_nx, show ((i : Int) + 1) = ((i + 1 : Nat) : Int) by omega]
      exact el
  obtain ⟨goes, c1, y4, y5, el, gl, gg, p1⟩ := loop (2 * n) 0 c [] none none (by omega) rfl (by simp) (hp.mono (by omega))
  rw [Nat.zero_add] at gl
  generalize hG : g ++ [Cell.lst (goes.map gF)] ++ [Cell.lst (T.kinds.map D.int), Cell.lst (T.kinds ++ T.kinds |>.map D.int)] = G
  obtain ⟨v, c2, e2, v2, p2⟩ := draw_call (b := b) (z := z) (c := c1) (g := G) (m := 32) p1 (by omega) (by omega)
  have kl := ok.kl
  obtain ⟨U, ec, uok, sig, Ul, led⟩ := cut_down_call (h := z :: c2 :: G) (t := T.sig) (gs := .ref (g.length + 2)) (ks := .ref (g.length + 4)) (goes := goes) (kinds := T.kinds ++ T.kinds) (u := v) (N := 2 * n) ok.tg (by omega) (by omega) gl gg (by rw [List.length_append]; omega) (by rw [List.getElem?_append_left (by omega)]; exact ok.k0) (fun k hk => by
      rcases List.mem_append.mp hk with hk | hk <;> exact ok.kk k hk)
    (rds_ref (by rw [← hG]; simp)) (kds_ref (by rw [← hG, show g.length + 4 = (g.length + 2) + 1 + 1 by omega]; simp))
  refine ⟨U, c2, callC_pen (g' := Cell.lst (goes.map gF) :: [Cell.lst (T.kinds.map D.int), Cell.lst (T.kinds ++ T.kinds |>.map D.int)]) rfl ?_ (by simp) (fun k _ => p2.lo k), uok (by omega), sig, Ul, led, p2⟩
  have bl : ∀ h : IH, bLen [.tup (T.goes.map gT)] h = .ok (.int (n : Nat)) h := fun h => by rw [bLen_tup, List.length_map, hn]
  have cm : cMul 2 (n : Nat) = true := by simp [cMul]
  unfold m__law_doubled
  rw [ap_fnM]
  simp only [List.map_cons, List.map_nil, List.length_cons, List.length_nil, List.cons_append, List.nil_append, Nat.reduceAdd, Nat.reduceSub, List.replicate]
  refine stN (env2 := [some (.ref 1), some T.enc, some (.int (n : Nat)), none, none, none]) (h2 := z :: c :: g) (by simp [tT1, hn]) ?_
  refine stN (env2 := [some (.ref 1), some T.enc, some (.int (n : Nat)), some (.ref (g.length + 2)), none, none]) (h2 := z :: c :: (g ++ [.lst []])) (by simp [newL]) ?_
  refine stN (env2 := [some (.ref 1), some T.enc, some (.int (n : Nat)), some (.ref (g.length + 2)), y4, y5]) (h2 := z :: c1 :: (g ++ [Cell.lst (goes.map gF)])) ?_ ?_
  · rw [for_st (ds := intsFrom 0 (2 * n)) (h2 := z :: c :: (g ++ [.lst []])) (iRange1_of (j := ((2 * n : Nat) : Int)) (k := 2 * n) (by simp [cm]) rfl (by omega))]
    exact el
  · have k1 : ∀ h : IH, bListX [.tup (T.kinds.map D.int)] h = .ok (.ref h.length) (h ++ [.lst (T.kinds.map D.int)]) := fun h => by
      rw [bListX_tup]
      rfl
    have k2 : ∀ h : IH, dMul (.ref h.length) (.int 2) (h ++ [.lst (T.kinds.map D.int)]) = .ok (.ref (h.length + 1)) (h ++ [.lst (T.kinds.map D.int)] ++ [.lst ((T.kinds ++ T.kinds).map D.int)]) := fun h => by
      unfold dMul
      dsimp only
      rw [get_app0]
      show (if _ then _ else _) = _
      rw [if_pos ⟨by omega, by omega, by simp; omega⟩]
      simp
    have e2' : callC 2 m__law_take [.ref 1, .int 32] (z :: c1 :: (g ++ [Cell.lst (goes.map gF)]) ++ [.lst (T.kinds.map D.int)] ++ [.lst ((T.kinds ++ T.kinds).map D.int)]) = .ok (.int (v : Nat)) (z :: c2 :: G) := by
      rw [← e2, ← hG]
      simp
    have k1' := k1 (z :: c1 :: (g ++ [Cell.lst (goes.map gF)]))
    have k2' := k2 (z :: c1 :: (g ++ [Cell.lst (goes.map gF)]))
    have ll : (z :: c1 :: (g ++ [Cell.lst (goes.map gF)])).length + 1 = g.length + 4 := by simp
    rw [ll] at k2'
    have hG2 : g ++ Cell.lst (goes.map gF) :: [Cell.lst (T.kinds.map D.int), Cell.lst ((T.kinds ++ T.kinds).map D.int)] = G := by rw [← hG]; simp
    rw [hG2]
    generalize z :: c1 :: (g ++ [Cell.lst (goes.map gF)]) = H1 at *
    generalize H1 ++ [.lst (T.kinds.map D.int)] = H2 at *
    generalize H2 ++ [.lst ((T.kinds ++ T.kinds).map D.int)] = H3 at *
    simp [tT0, tT2, k1', k2', e2', ec]
/-! a kind or a go put otherwise -/
def rowC (r : List Nat) : Cell := .lst (r.map nD)
def refsN (n k : Nat) : List D := (List.range k).map fun j => D.ref (n + 3 + j)
/-- rows and kinds as they are written -/
def bH (z c : Cell) (g : IH) (goes : List (List Nat)) (kinds : List Int) : IH := z :: c :: (g ++ Cell.lst (refsN g.length goes.length) :: (goes.map rowC ++ [Cell.lst (kinds.map D.int)]))
section
variable {z c : Cell} {g : IH} {goes : List (List Nat)} {kinds : List Int} {r : Nat} {row : List Nat}
theorem bH_goes : (bH z c g goes kinds)[g.length + 2]? = some (.lst (refsN g.length goes.length)) := by
  unfold bH
  simp
theorem bH_row (e : goes[r]? = some row) : (bH z c g goes kinds)[g.length + 3 + r]? = some (.lst (row.map nD)) := by
  have hr := (List.getElem?_eq_some_iff.mp e).1
  unfold bH
  rw [show g.length + 3 + r = (g.length + (r + 1)) + 1 + 1 by omega, List.getElem?_cons_succ, List.getElem?_cons_succ, List.getElem?_append_right (by omega), show g.length + (r + 1) - g.length = r + 1 by omega, List.getElem?_cons_succ, List.getElem?_append_left (by rw [List.length_map]; exact hr), List.getElem?_map, e]
  rfl
theorem bH_kinds : (bH z c g goes kinds)[g.length + 3 + goes.length]? = some (.lst (kinds.map D.int)) := by
  unfold bH
  rw [show g.length + 3 + goes.length = (g.length + (goes.length + 1)) + 1 + 1 by omega, List.getElem?_cons_succ, List.getElem?_cons_succ, List.getElem?_append_right (by omega), show g.length + (goes.length + 1) - g.length = goes.length + 1 by omega, List.getElem?_cons_succ, List.getElem?_append_right (by simp)]
  simp
theorem bH_put (hr : r < goes.length) : (bH z c g goes kinds).set (g.length + 3 + r) (.lst (row.map nD)) = bH z c g (goes.set r row) kinds := by
  unfold bH
  rw [show g.length + 3 + r = (g.length + (r + 1)) + 1 + 1 by omega, List.set_cons_succ, List.set_cons_succ, List.set_append_right _ _ (by omega), show g.length + (r + 1) - g.length = r + 1 by omega, List.set_cons_succ, List.set_append_left _ _ (by rw [List.length_map]; exact hr), List.length_set, List.map_set]
  rfl
theorem bH_putk {ks : List Int} : (bH z c g goes kinds).set (g.length + 3 + goes.length) (.lst (ks.map D.int)) = bH z c g goes ks := by
  unfold bH
  rw [show g.length + 3 + goes.length = (g.length + (goes.length + 1)) + 1 + 1 by omega, List.set_cons_succ, List.set_cons_succ, List.set_append_right _ _ (by omega), show g.length + (goes.length + 1) - g.length = goes.length + 1 by omega, List.set_cons_succ, List.set_append_right _ _ (by simp)]
  simp
theorem refsN_at {n k : Nat} (hr : r < k) : (refsN n k)[r]? = some (.ref (n + 3 + r)) := by
  unfold refsN
  rw [List.getElem?_map, List.getElem?_range hr]
  rfl
theorem bH_rds : Rds (bH z c g goes kinds) (.ref (g.length + 2)) goes := fun r row er e => by
  have hr := (List.getElem?_eq_some_iff.mp er).1
  exact ⟨.ref (g.length + 3 + r), dIx_nat (seq_old bH_goes) (refsN_at hr), .inr (.inr ⟨_, rfl, bH_row er⟩)⟩
end
theorem bent_call {T : Tb} (ok : T.Ok) {b : Nat} {z c : Cell} {g : IH} (hp : Pn (b + 10) c) :
    ∃ (U : Tb) (c' : Cell), callC 2 m__law_bent [.ref 1, T.enc] (z :: c :: g) = .ok U.enc (z :: c' :: g) ∧ U.Ok ∧ U.sig = T.sig ∧ U.goes.length ≤ T.goes.length ∧ (∀ r < U.goes.length, Led U.goes r) ∧ Pn b c' := by
  have g1 := ok.g1
  have g2 := ok.g2
  have kl := ok.kl
  have t1 := ok.tg.l1
  have t6 := ok.tg.l2
  -- rows and kinds
  have e0 : (mLc (iSeq (mOp dIx (mVar 1) (mC (.int 1)))) (gSet 5) mYes e__law_bent_1 [5]) [some (.ref 1), some T.enc, none, none, none, none] (z :: c :: g) = .ok (.ref (g.length + 2)) (z :: c :: (g ++ Cell.lst (refsN g.length T.goes.length) :: T.goes.map rowC)) := by
    rw [ap_mLc]
    have it : iSeq (mOp dIx (mVar 1) (mC (.int 1))) [some (.ref 1), some T.enc, none, none, none, none] (z :: c :: g) = .ok (.st (T.goes.map gT)) (z :: c :: g) := by simp [tT1]
    rw [it, bind_ok]
    refine lcM_inv (P := fun k h' => h' = z :: c :: (g ++ Cell.lst (refsN g.length k) :: (T.goes.take k).map rowC)) (Rs := fun o => o = .ok (.ref (g.length + 2)) (z :: c :: (g ++ Cell.lst (refsN g.length T.goes.length) :: T.goes.map rowC))) ?_ ?_ ?_
    · rintro k d h' hd rfl
      rw [List.getElem?_map, Option.map_eq_some_iff] at hd
      obtain ⟨row, er, rfl⟩ := hd
      have hk := (List.getElem?_eq_some_iff.mp er).1
      refine ⟨_, rfl, ?_⟩
      show ∃ y h3 acc, e__law_bent_1 _ _ = .ok y h3 ∧ _
      have lk : (z :: c :: (g ++ Cell.lst (refsN g.length k) :: (T.goes.take k).map rowC)).length = g.length + 3 + k := by simp; omega
      refine ⟨.ref (g.length + 3 + k), (z :: c :: (g ++ Cell.lst (refsN g.length k) :: (T.goes.take k).map rowC)) ++ [rowC row], refsN g.length k, ?_, by simp, by unfold refsN; simp; omega, ?_⟩
      · have bx : ∀ h : IH, bListX [gT row] h = .ok (.ref h.length) (h ++ [rowC row]) := fun h => by
          unfold gT
          rw [bListX_tup]
          rfl
        unfold e__law_bent_1
        rw [← lk]
        generalize (z :: c :: (g ++ Cell.lst (refsN g.length k) :: (T.goes.take k).map rowC)) = H at *
        simp [wipeE, bx]
      · have rk : refsN g.length k ++ [D.ref (g.length + 3 + k)] = refsN g.length (k + 1) := by
          unfold refsN
          rw [List.range_succ, List.map_append]
          rfl
        rw [rk, List.take_add_one, er]
        simp
    · rintro h' rfl
      rw [List.length_map, List.take_length]
      simp
    · simp [refsN]
  have e1 : bListX [.tup (T.kinds.map D.int)] (z :: c :: (g ++ Cell.lst (refsN g.length T.goes.length) :: T.goes.map rowC)) = .ok (.ref (g.length + 3 + T.goes.length)) (bH z c g T.goes T.kinds) := by
    rw [bListX_tup]
    show R.ok (D.ref (z :: c :: (g ++ Cell.lst (refsN g.length T.goes.length) :: T.goes.map rowC)).length) _ = _
    unfold bH
    simp
    omega
  obtain ⟨at_, c1, e2, a1, p1⟩ := draw_call (b := b + 9) (z := z) (c := c) (g := g ++ Cell.lst (refsN g.length T.goes.length) :: (T.goes.map rowC ++ [Cell.lst (T.kinds.map D.int)])) (m := (T.goes.length : Nat)) (hp.mono (by omega)) (by omega) (by omega)
  have e2 : callC 2 m__law_take [.ref 1, .int (T.goes.length : Nat)] (bH z c g T.goes T.kinds) = .ok (.int (at_ : Nat)) (bH z c1 g T.goes T.kinds) := e2
  have al : at_ < T.goes.length := by omega
  have dr : ∀ {b : Nat} {c : Cell} {G : List (List Nat)} {K : List Int} (m : Nat), 1 ≤ m → m ≤ 1000 → Pn (b + 1) c → ∃ (v : Nat) (c' : Cell), callC 2 m__law_take [.ref 1, .int (m : Nat)] (bH z c g G K) = .ok (.int (v : Nat)) (bH z c' g G K) ∧ v < m ∧ Pn b c' := fun {b c G K} m m1 m2 hp => by
    obtain ⟨v, c', e, v1, p⟩ := draw_call (b := b) (z := z) (c := c) (g := g ++ Cell.lst (refsN g.length G.length) :: (G.map rowC ++ [Cell.lst (K.map D.int)])) (m := (m : Nat)) hp (by omega) (by omega)
    exact ⟨v, c', e, by omega, p⟩
  let E : EV := [some (.ref 1), some T.enc, some (.ref (g.length + 2)), some (.ref (g.length + 3 + T.goes.length)), some (.int (at_ : Nat)), none]
  have mid : ∃ (G : List (List Nat)) (K : List Int) (c2 : Cell), (msIf (mAnd (mTb (mOp dGt (mVar 4) (mC (.int 0)))) (mTb (mOp dGt (mCall 2 (m__law_take) (mCons (mVar 0) (mCons (mC (.int 3)) (mNil)))) (mC (.int 0))))) (msSetI (mVar 3) (mVar 4) (mOp dSub (mCall 2 (m__law_take) (mCons (mVar 0) (mCons (mC (.int 7)) (mNil)))) (mC (.int 1)))) (msSetI (mOp dIx (mVar 2) (mVar 4)) (mCall 2 (m__law_take) (mCons (mVar 0) (mCons (mB bLen (mCons (mOp dIx (mVar 1) (mC (.int 0))) (mNil))) (mNil)))) (mCall 2 (m__law_take) (mCons (mVar 0) (mCons (mB bLen (mCons (mVar 2) (mNil))) (mNil)))))) E (bH z c1 g T.goes T.kinds) = .nx E (bH z c2 g G K) ∧ G.length = T.goes.length ∧ K.length = T.goes.length ∧ (∀ r ∈ G, r.length = T.sig.length ∧ ∀ x ∈ r, x < T.goes.length) ∧ K[0]? = some (-1) ∧ (∀ k ∈ K, -1 ≤ k ∧ k ≤ 5) ∧ Pn (b + 3) c2 := by
    -- a go
    have go : ∀ {c : Cell}, Pn (b + 5) c → ∃ (G : List (List Nat)) (c2 : Cell), (msSetI (mOp dIx (mVar 2) (mVar 4)) (mCall 2 (m__law_take) (mCons (mVar 0) (mCons (mB bLen (mCons (mOp dIx (mVar 1) (mC (.int 0))) (mNil))) (mNil)))) (mCall 2 (m__law_take) (mCons (mVar 0) (mCons (mB bLen (mCons (mVar 2) (mNil))) (mNil))))) E (bH z c g T.goes T.kinds) = .nx E (bH z c2 g G T.kinds) ∧ G.length = T.goes.length ∧ (∀ r ∈ G, r.length = T.sig.length ∧ ∀ x ∈ r, x < T.goes.length) ∧ Pn (b + 3) c2 := fun {c} hp => by
      obtain ⟨w, c2, e3, w1, p2⟩ := dr (b := b + 4) (c := c) (G := T.goes) (K := T.kinds) T.goes.length g1 (by omega) hp
      obtain ⟨v, c3, e4, v1, p3⟩ := dr (b := b + 3) (c := c2) (G := T.goes) (K := T.kinds) T.sig.length t1 (by omega) p2
      obtain ⟨row, er, rl, rb⟩ := ok.rowAt (r := at_) al
      have bl2 : ∀ h : IH, bLen [.str T.sig] h = .ok (.int (T.sig.length : Nat)) h := fun h => bLen_str (by omega)
      have bl1 : bLen [.ref (g.length + 2)] (bH z c g T.goes T.kinds) = .ok (.int (T.goes.length : Nat)) (bH z c g T.goes T.kinds) := by
        rw [bLen_ref bH_goes]
        simp [refsN]
      have ix : dIx (.ref (g.length + 2)) (.int (at_ : Nat)) (bH z c2 g T.goes T.kinds) = .ok (.ref (g.length + 3 + at_)) (bH z c2 g T.goes T.kinds) := dIx_nat (seqOf_ref bH_goes) (refsN_at al)
      have pt : putD (.ref (g.length + 3 + at_)) (.int (v : Nat)) (.int (w : Nat)) (bH z c3 g T.goes T.kinds) = some (bH z c3 g (T.goes.set at_ (row.set v w)) T.kinds) := by
        rw [putD_ref (xs := row.map nD) (bH_row er) (by omega) (by simp; omega), ← bH_put al]
        simp [nD]
      refine ⟨T.goes.set at_ (row.set v w), c3, ?_, by simp, fun r hr => ?_, p3⟩
      · show msSetI _ _ _ [some (.ref 1), some T.enc, some (.ref (g.length + 2)), some (.ref (g.length + 3 + T.goes.length)), some (.int (at_ : Nat)), none] _ = _
        simp [bl1, e3, ix, tT0, bl2, e4, pt]
        rfl
      · rcases List.mem_or_eq_of_mem_set hr with hr | rfl
        · exact ok.row r hr
        · refine ⟨by rw [List.length_set]; exact rl, fun x hx => ?_⟩
          rcases List.mem_or_eq_of_mem_set hx with hx | rfl
          · exact rb x hx
          · exact w1
    by_cases q : at_ = 0
    · obtain ⟨G, c2, e3, gl, gg, p2⟩ := go (p1.mono (by omega))
      refine ⟨G, T.kinds, c2, ?_, gl, kl, gg, ok.k0, ok.kk, p2⟩
      rw [← e3]
      show msIf _ _ _ [some (.ref 1), some T.enc, some (.ref (g.length + 2)), some (.ref (g.length + 3 + T.goes.length)), some (.int (at_ : Nat)), none] _ = _
      generalize msSetI (mOp dIx (mVar 2) (mVar 4)) _ _ = S
      have : ¬ 0 < at_ := by omega
      simp [this]
      rfl
    · obtain ⟨v, c2, e3, v1, p2⟩ := dr (b := b + 8) (c := c1) (G := T.goes) (K := T.kinds) 3 (by omega) (by omega) p1
      have e3 : callC 2 m__law_take [.ref 1, .int 3] (bH z c1 g T.goes T.kinds) = .ok (.int (v : Nat)) (bH z c2 g T.goes T.kinds) := e3
      have q' : 0 < at_ := by omega
      by_cases q2 : v = 0
      · obtain ⟨G, c3, e4, gl, gg, p3⟩ := go (p2.mono (by omega))
        refine ⟨G, T.kinds, c3, ?_, gl, kl, gg, ok.k0, ok.kk, p3⟩
        rw [← e4]
        show msIf _ _ _ [some (.ref 1), some T.enc, some (.ref (g.length + 2)), some (.ref (g.length + 3 + T.goes.length)), some (.int (at_ : Nat)), none] _ = _
        generalize msSetI (mOp dIx (mVar 2) (mVar 4)) _ _ = S
        simp [q', e3, q2]
        rfl
      · obtain ⟨w, c3, e4, w1, p3⟩ := dr (b := b + 7) (c := c2) (G := T.goes) (K := T.kinds) 7 (by omega) (by omega) p2
        have e4 : callC 2 m__law_take [.ref 1, .int 7] (bH z c2 g T.goes T.kinds) = .ok (.int (w : Nat)) (bH z c3 g T.goes T.kinds) := e4
        have q2' : 0 < v := by omega
        have pt : putD (.ref (g.length + 3 + T.goes.length)) (.int (at_ : Nat)) (.int ((w : Nat) - 1)) (bH z c3 g T.goes T.kinds) = some (bH z c3 g T.goes (T.kinds.set at_ ((w : Nat) - 1))) := by
          rw [putD_ref (xs := T.kinds.map D.int) bH_kinds (by omega) (by simp; omega), ← bH_putk (kinds := T.kinds) (ks := T.kinds.set at_ ((w : Nat) - 1))]
          simp
        refine ⟨T.goes, T.kinds.set at_ ((w : Nat) - 1), c3, ?_, rfl, by simp [kl], ok.row, by rw [List.getElem?_set_ne (by omega)]; exact ok.k0, fun k hk => ?_, p3.mono (by omega)⟩
        · show msIf _ _ _ [some (.ref 1), some T.enc, some (.ref (g.length + 2)), some (.ref (g.length + 3 + T.goes.length)), some (.int (at_ : Nat)), none] _ = _
          simp [q', e3, q2', e4, pt]
          rfl
        · rcases List.mem_or_eq_of_mem_set hk with hk | rfl
          · exact ok.kk k hk
          · omega
  obtain ⟨G, K, c2, e3, gl, kl2, gg, k0, kk, p2⟩ := mid
  obtain ⟨v, c3, e4, v1, p3⟩ := dr (b := b + 2) (c := c2) (G := G) (K := K) 32 (by omega) (by omega) p2
  have e4 : callC 2 m__law_take [.ref 1, .int 32] (bH z c2 g G K) = .ok (.int (v : Nat)) (bH z c3 g G K) := e4
  obtain ⟨U, ec, uok, sig, Ul, led⟩ := cut_down_call (h := bH z c3 g G K) (t := T.sig) (gs := .ref (g.length + 2)) (ks := .ref (g.length + 3 + T.goes.length)) (goes := G) (kinds := K) (u := v) (N := T.goes.length) ok.tg g1 (by omega) gl gg kl2 k0 kk bH_rds (by rw [← gl]; exact kds_ref bH_kinds)
  refine ⟨U, c3, callC_pen (g' := Cell.lst (refsN g.length G.length) :: (G.map rowC ++ [Cell.lst (K.map D.int)])) rfl ?_ (by simp) (fun k _ => p3.lo k), uok (by omega), sig, Ul, led, p3.mono (by omega)⟩
  show _ = R.ok U.enc (bH z c3 g G K)
  unfold m__law_bent
  rw [ap_fnM]
  simp only [List.map_cons, List.map_nil, List.length_cons, List.length_nil, List.cons_append, List.nil_append, Nat.reduceAdd, Nat.reduceSub, List.replicate]
  refine stN (env2 := [some (.ref 1), some T.enc, some (.ref (g.length + 2)), none, none, none]) (h2 := z :: c :: (g ++ Cell.lst (refsN g.length T.goes.length) :: T.goes.map rowC)) (by
    rw [ap_msSet, e0]
    rfl) ?_
  refine stN (env2 := [some (.ref 1), some T.enc, some (.ref (g.length + 2)), some (.ref (g.length + 3 + T.goes.length)), none, none]) (h2 := bH z c g T.goes T.kinds) (by
    generalize (z :: c :: (g ++ Cell.lst (refsN g.length T.goes.length) :: T.goes.map rowC)) = H at *
    simp [tT2, e1]) ?_
  have bl1 : bLen [.ref (g.length + 2)] (bH z c g T.goes T.kinds) = .ok (.int (T.goes.length : Nat)) (bH z c g T.goes T.kinds) := by
    rw [bLen_ref bH_goes]
    simp [refsN]
  refine stN (env2 := E) (h2 := bH z c1 g T.goes T.kinds) (by
    show _ = RS.nx [some (.ref 1), some T.enc, some (.ref (g.length + 2)), some (.ref (g.length + 3 + T.goes.length)), some (.int (at_ : Nat)), none] _
    simp [bl1, e2]) ?_
  refine stN e3 ?_
  show (msRet _ [some (.ref 1), some T.enc, some (.ref (g.length + 2)), some (.ref (g.length + 3 + T.goes.length)), some (.int (at_ : Nat)), none] _).fin = _
  simp [tT0, e4, ec]
end NR

set_option Elab.async false
set_option linter.all false
set_option maxRecDepth 100000
set_option maxHeartbeats 4000000
namespace NR
open PySem PySem.Spec PyProof.Rows L2
/-! ### what the law draws -/
theorem two_call {b : Nat} {z c : Cell} {g : IH} (hp : Pn (b + 2000) c) : ∃ (T U : Tb) (c' : Cell), callC 1 m__law_two [.ref 1] (z :: c :: g) = .ok (.tup [T.enc, U.enc]) (z :: c' :: g) ∧ T.Ok ∧ U.Ok ∧ U.sig = T.sig ∧ Pn b c' := by
  obtain ⟨road, c1, e1, r1, p1⟩ := draw_call (b := b + 1990) (z := z) (c := c) (g := g) (m := 6) (hp.mono (by omega)) (by omega) (by omega)
  obtain ⟨v, c2, e2, v1, p2⟩ := draw_call (b := b + 1980) (z := z) (c := c1) (g := g) (m := 4) (p1.mono (by omega)) (by omega) (by omega)
  obtain ⟨m, em, m1, m6⟩ : ∃ m : Nat, [D.int 2, .int 2, .int 3, .int 6][v]? = some (.int (m : Nat)) ∧ 1 ≤ m ∧ m ≤ 6 := by
    have : v = 0 ∨ v = 1 ∨ v = 2 ∨ v = 3 := by omega
    rcases this with rfl | rfl | rfl | rfl
    · exact ⟨2, rfl, by omega, by omega⟩
    · exact ⟨2, rfl, by omega, by omega⟩
    · exact ⟨3, rfl, by omega, by omega⟩
    · exact ⟨6, rfl, by omega, by omega⟩
  have ixm : ∀ h, dIx (.fl [.int 2, .int 2, .int 3, .int 6]) (.int (v : Nat)) h = .ok (.int (m : Nat)) h := fun h => dIx_nat (xs := [.int 2, .int 2, .int 3, .int 6]) rfl em
  have f1 : ∀ h : IH, fzD h h [.int 2, .int 2, .int 3, .int 6] = .ok (.fl [.int 2, .int 2, .int 3, .int 6]) h := fun h => fzD_same (by simp)
  obtain ⟨t, c3, e3, t1, t2, t3, t4, p3⟩ := some_call (b := b + 1970) (z := z) (c := c2) (g := g) (R := allSigns) (m := m) allSigns_nodup m1 (by rw [allSigns_len]; omega) (by decide) (p2.mono (by omega))
  have tg : Tgn t := ⟨t1, by omega, t3, t4⟩
  obtain ⟨w, c4, e4, w1, p4⟩ := draw_call (b := b + 1960) (z := z) (c := c3) (g := g) (m := 4) (p3.mono (by omega)) (by omega) (by omega)
  obtain ⟨n, en, n1, n6⟩ : ∃ m : Nat, [D.int 4, .int 8, .int 8, .int 16][w]? = some (.int (m : Nat)) ∧ 1 ≤ m ∧ m ≤ 16 := by
    have : w = 0 ∨ w = 1 ∨ w = 2 ∨ w = 3 := by omega
    rcases this with rfl | rfl | rfl | rfl
    · exact ⟨4, rfl, by omega, by omega⟩
    · exact ⟨8, rfl, by omega, by omega⟩
    · exact ⟨8, rfl, by omega, by omega⟩
    · exact ⟨16, rfl, by omega, by omega⟩
  have ixn : ∀ h, dIx (.fl [.int 4, .int 8, .int 8, .int 16]) (.int (w : Nat)) h = .ok (.int (n : Nat)) h := fun h => dIx_nat (xs := [.int 4, .int 8, .int 8, .int 16]) rfl en
  have f2 : ∀ h : IH, fzD h h [.int 4, .int 8, .int 8, .int 16] = .ok (.fl [.int 4, .int 8, .int 8, .int 16]) h := fun h => fzD_same (by simp)
  obtain ⟨T, c5, e5, ok, sT, lT, _, p5⟩ := table_call (b := b + 1500) (z := z) (c := c4) (g := g) (t := t) (most := n) tg n1 (by omega) (p4.mono (by omega))
  obtain ⟨U0, c6, e6, ok0, s0, l0, _, p6⟩ := table_call (b := b + 1100) (z := z) (c := c5) (g := g) (t := t) (most := n) tg n1 (by omega) (p5.mono (by omega))
  obtain ⟨U1, c7, e7, ok1, s1, p7⟩ : ∃ (U : Tb) (c' : Cell), (msIf (mTb (mOp dLt (mVar 1) (mC (.int 5)))) (msSet 5 (mCall 2 (m__law_doubled) (mCons (mVar 0) (mCons (mVar 4) (mNil))))) (msNil)) [some (.ref 1), some (.int (road : Nat)), some (.str t), some (.int (n : Nat)), some T.enc, some U0.enc] (z :: c6 :: g) = .nx [some (.ref 1), some (.int (road : Nat)), some (.str t), some (.int (n : Nat)), some T.enc, some U.enc] (z :: c' :: g) ∧ U.Ok ∧ U.sig = t ∧ Pn (b + 800) c' := by
    by_cases q : road < 5
    · obtain ⟨U, c7, e7, ok1, s1, _, _, p7⟩ := doubled_call (b := b + 800) (z := z) (c := c6) (g := g) ok (by omega) (p6.mono (by omega))
      have q' : (road : Int) < 5 := by omega
      exact ⟨U, c7, by simp [q', e7], ok1, by rw [s1, sT], p7⟩
    · have q' : ¬ (road : Int) < 5 := by omega
      exact ⟨U0, c6, by simp [q'], ok0, s0, p6.mono (by omega)⟩
  obtain ⟨U, c8, e8, ok2, s2, p8⟩ : ∃ (U : Tb) (c' : Cell), (msIf (mOr (mTb (mOp (dEq false) (mVar 1) (mC (.int 2)))) (mTb (mOp (dEq false) (mVar 1) (mC (.int 3))))) (msSet 5 (mCall 2 (m__law_bent) (mCons (mVar 0) (mCons (mVar 5) (mNil))))) (msNil)) [some (.ref 1), some (.int (road : Nat)), some (.str t), some (.int (n : Nat)), some T.enc, some U1.enc] (z :: c7 :: g) = .nx [some (.ref 1), some (.int (road : Nat)), some (.str t), some (.int (n : Nat)), some T.enc, some U.enc] (z :: c' :: g) ∧ U.Ok ∧ U.sig = t ∧ Pn (b + 700) c' := by
    obtain ⟨U, c8, e8, ok2, s2, _, _, p8⟩ := bent_call (b := b + 700) (z := z) (c := c7) (g := g) ok1 (p7.mono (by omega))
    by_cases q : road = 2
    · exact ⟨U, c8, by subst q; simp [e8], ok2, by rw [s2, s1], p8⟩
    · by_cases q2 : road = 3
      · exact ⟨U, c8, by subst q2; simp [e8], ok2, by rw [s2, s1], p8⟩
      · have q' : ¬ (road : Int) = 2 := by omega
        have q2' : ¬ (road : Int) = 3 := by omega
        exact ⟨U1, c7, by simp [q, q2, q', q2'], ok1, s1, p7.mono (by omega)⟩
  obtain ⟨T2, c9, e9, ok3, s3, p9⟩ : ∃ (T2 : Tb) (c' : Cell), (msIf (mTb (mOp (dEq false) (mVar 1) (mC (.int 4)))) (msSet 4 (mCall 2 (m__law_bent) (mCons (mVar 0) (mCons (mVar 5) (mNil))))) (msNil)) [some (.ref 1), some (.int (road : Nat)), some (.str t), some (.int (n : Nat)), some T.enc, some U.enc] (z :: c8 :: g) = .nx [some (.ref 1), some (.int (road : Nat)), some (.str t), some (.int (n : Nat)), some T2.enc, some U.enc] (z :: c' :: g) ∧ T2.Ok ∧ T2.sig = t ∧ Pn b c' := by
    obtain ⟨T2, c9, e9, ok3, s3, _, _, p9⟩ := bent_call (b := b) (z := z) (c := c8) (g := g) ok2 (p8.mono (by omega))
    by_cases q : road = 4
    · exact ⟨T2, c9, by subst q; simp [e9], ok3, by rw [s3, s2], p9⟩
    · have q' : ¬ (road : Int) = 4 := by omega
      exact ⟨T, c8, by simp [q, q'], ok, sT, p8.mono (by omega)⟩
  refine ⟨T2, U, c9, callC_pen0 rfl ?_, ok3, ok2, by rw [s2, s3], p9⟩
  unfold m__law_two
  rw [ap_fnM]
  simp only [List.map_cons, List.map_nil, List.length_cons, List.length_nil, List.cons_append, List.nil_append, Nat.reduceAdd, Nat.reduceSub, List.replicate]
  refine stN (env2 := [some (.ref 1), some (.int (road : Nat)), none, none, none, none]) (h2 := z :: c1 :: g) (by simp [e1]) ?_
  refine stN (env2 := [some (.ref 1), some (.int (road : Nat)), some (.str t), none, none, none]) (h2 := z :: c3 :: g) (by simp [signs_call, f1, e2, ixm, e3]) ?_
  refine stN (env2 := [some (.ref 1), some (.int (road : Nat)), some (.str t), some (.int (n : Nat)), none, none]) (h2 := z :: c4 :: g) (by simp [f2, e4, ixn]) ?_
  refine stN (env2 := [some (.ref 1), some (.int (road : Nat)), some (.str t), some (.int (n : Nat)), some T.enc, none]) (h2 := z :: c5 :: g) (by simp [e5]) ?_
  refine stN (env2 := [some (.ref 1), some (.int (road : Nat)), some (.str t), some (.int (n : Nat)), some T.enc, some U0.enc]) (h2 := z :: c6 :: g) (by simp [e6]) ?_
  refine stN e7 ?_
  refine stN e8 ?_
  refine stN e9 ?_
  simp
def addI : D → D
  | .tup [x, .tup r] => .tup (r ++ [x])
  | d => d
def enR (G : List (List Nat)) : List D := (G.mapIdx fun i r => D.tup [.int (i : Nat), gT r]).map addI
/-! a table of another tongue -/
theorem other_call {T : Tb} (ok : T.Ok) {b : Nat} {z c : Cell} {g : IH} (hp : Pn (b + 3) c) : ∃ (t' : List Nat) (A B : D) (c' : Cell), callC 2 m__law_other_tongue [.ref 1, T.enc] (z :: c :: g) = .ok (.tup [.str t', A, B]) (z :: c' :: g) ∧ t' ≠ T.sig ∧ t'.length ≤ 10 ∧ (∀ n, A.lo n = true) ∧ (∀ n, B.lo n = true) ∧ Pn b c' := by
  have tg := ok.tg
  have t1 := tg.l1
  have t6 := tg.l2
  have g2 := ok.g2
  generalize ht : T.sig = t at *
  have i0 : ∀ h : IH, dIx T.enc (.int 0) h = .ok (.str t) h := fun h => by rw [tT0, ht]
  have hl : ∀ h : IH, bLen [.str t] h = .ok (.int (t.length : Nat)) h := fun h => bLen_str (by omega)
  have comp := lcF_filter (it := iSeq (mCall 0 m__law_signs mNil)) (ws := [6]) (gg := gSet 6) (t := t__law_other_tongue_1) (m := e__law_other_tongue_2) (ds := sgD allSigns) (h := z :: c :: g) (env := [some (.ref 1), some T.enc, some (.str t), none, none, none, none, none, none, none]) id (notIn t) (iSeq_str (by simp [signs_call]) (by decide)) (by decide) (fun d hd _ => by
    obtain ⟨x, _, rfl⟩ := List.mem_map.mp hd
    rfl) (fun d hd => by
    obtain ⟨x, _, rfl⟩ := List.mem_map.mp hd
    exact ⟨_, rfl, fun w => by unfold t__law_other_tongue_1; simp [wipeE, gSet, notIn], fun w _ => by unfold e__law_other_tongue_2; simp [wipeE, gSet]⟩)
  rw [rest_er] at comp
  have rl := rest89 tg
  have rl2 := rest95 (t := t)
  have hr : ∀ h : IH, bLen [.fl (sgD (restS t))] h = .ok (.int ((restS t).length : Nat)) h := fun h => by simp [sgD]
  obtain ⟨a, c1, e1, a1, p1⟩ := draw_call (b := b + 2) (z := z) (c := c) (g := g) (m := (t.length : Nat)) hp (by omega) (by omega)
  obtain ⟨road, c2, e2, r1, p2⟩ := draw_call (b := b + 1) (z := z) (c := c1) (g := g) (m := 3) p1 (by omega) (by omega)
  obtain ⟨v, c3, e3, v1, p3⟩ := draw_call (b := b) (z := z) (c := c2) (g := g) (m := ((restS t).length : Nat)) p2 (by omega) (by omega)
  have hv : v < (restS t).length := by omega
  have ix := fun h => ix_sg hv h
  have hk := rest_no (List.getElem_mem hv)
  generalize (restS t)[v] = k at ix hk
  have ha : a < t.length := by omega
  let E : Option D → EV := fun x => [some (.ref 1), some T.enc, some (.str t), some (.fl (sgD (restS t))), some (.int (a : Nat)), some (.int (road : Nat)), some (.str [k]), x, none, none]
  -- the enumerated rows
  have rows : mFz (mLc (iEnum (mCons (mOp dIx (mVar 1) (mC (.int 1))) (mNil))) (gSets [8, 9]) mYes e__law_other_tongue_3 [8, 9]) (E none) (z :: c3 :: g) = .ok (.fl (enR T.goes)) (z :: c3 :: g) := by
    refine lcF_map addI (by
      show iEnum _ [some (.ref 1), some T.enc, some (.str t), some (.fl (sgD (restS t))), some (.int (a : Nat)), some (.int (road : Nat)), some (.str [k]), none, none, none] _ = _
      simp [iEnum, stOf, tT1]
      apply List.ext_getElem?
      intro i
      simp
      rfl) (by simp; omega) (fun d hd => by
      obtain ⟨i, hi, rfl⟩ := List.mem_mapIdx.mp hd
      simp [gT, addI]) (fun d hd => by
      obtain ⟨i, hi, rfl⟩ := List.mem_mapIdx.mp hd
      have rl := (ok.row _ (List.getElem_mem hi)).1
      rw [ht] at rl
      generalize T.goes[i] = r at *
      have ad : ∀ h : IH, dAdd (.tup (r.map nD)) (.tup [.int (i : Nat)]) h = .ok (.tup (r.map nD ++ [.int (i : Nat)])) h := fun h => by rw [dAdd_tup, if_pos (by simp; omega)]
      refine ⟨_, rfl, fun w => ?_⟩
      unfold e__law_other_tongue_3
      simp [wipeE, E, gT, ad, addI])
  have sp1 : ∀ h : IH, sliceD (.str t) (some 1) none h = .ok (.str (t.drop 1)) h := fun h => sl_from (s := t) (u := 1) (by omega) h
  have s0 : ∀ h : IH, dIx (.str t) (.int 0) h = .ok (.str [t[0]'(by omega)]) h := fun h => ix_sn (s := t) (v := 0) (by omega) (by omega) h
  have fin : ∃ (t' : List Nat) (A B : D), ((msCons (msIf (mAnd (mTb (mOp (dEq false) (mVar 5) (mC (.int 0)))) (mTb (mOp dGt (mB bLen (mCons (mVar 2) (mNil))) (mC (.int 1))))) (msRet (mTup (mCons (mFz (mOp dAdd (mFz (mSlice (mVar 2) (moSome (mC (.int 1))) (moNone))) (mOp dIx (mVar 2) (mC (.int 0))))) (mCons (mOp dIx (mVar 1) (mC (.int 1))) (mCons (mOp dIx (mVar 1) (mC (.int 2))) (mNil)))))) (msNil))
    (msCons (msIf (mAnd (mTb (mOp (dEq false) (mVar 5) (mC (.int 1)))) (mTb (mOp dLt (mB bLen (mCons (mVar 2) (mNil))) (mC (.int 6))))) (msCons (msSet 7 (mFz (mLc (iEnum (mCons (mOp dIx (mVar 1) (mC (.int 1))) (mNil))) (gSets [8, 9]) mYes e__law_other_tongue_3 [8, 9])))
    (msRet (mTup (mCons (mFz (mOp dAdd (mVar 2) (mVar 6))) (mCons (mB bTupleX (mCons (mVar 7) (mNil))) (mCons (mOp dIx (mVar 1) (mC (.int 2))) (mNil))))))) (msNil))
    (msRet (mTup (mCons (mFz (mOp dAdd (mFz (mOp dAdd (mFz (mSlice (mVar 2) (moNone) (moSome (mVar 4)))) (mVar 6))) (mFz (mSlice (mVar 2) (moSome (mOp dAdd (mVar 4) (mC (.int 1)))) (moNone))))) (mCons (mOp dIx (mVar 1) (mC (.int 1))) (mCons (mOp dIx (mVar 1) (mC (.int 2))) (mNil)))))))) (E none) (z :: c3 :: g)).fin = .ok (.tup [.str t', A, B]) (z :: c3 :: g) ∧ t' ≠ t ∧ t'.length ≤ 10 ∧ (∀ n, A.lo n = true) ∧ (∀ n, B.lo n = true) := by
    have e0 : E none = [some (.ref 1), some T.enc, some (.str t), some (.fl (sgD (restS t))), some (.int (a : Nat)), some (.int (road : Nat)), some (.str [k]), none, none, none] := rfl
    rw [e0] at rows ⊢
    by_cases q : road = 0 ∧ 1 < t.length
    · obtain ⟨q1, q2⟩ := q
      have ad : ∀ h : IH, dAdd (.str (t.drop 1)) (.str [t[0]'(by omega)]) h = .ok (.str (t.drop 1 ++ [t[0]'(by omega)])) h := fun h => ad_str (by simp; omega) h
      refine ⟨t.drop 1 ++ [t[0]'(by omega)], .tup (T.goes.map gT), .tup (T.kinds.map D.int), ?_, fun z => ?_, by simp; omega, by simp, by simp⟩
      · subst q1
        have sp1' := sp1 (z :: c3 :: g)
        have ad' := ad (z :: c3 :: g)
        generalize t.drop 1 ++ [t[0]'(by omega)] = W at *
        generalize t.drop 1 = W1 at *
        have q2' : (1 : Int) < (t.length : Nat) := by omega
        simp [hl, q2, q2', sp1', s0, ad', tT1, tT2]
      · have h0 : (t.drop 1 ++ [t[0]'(by omega)])[0]? = t[0]? := by rw [z]
        rw [List.getElem?_append_left (by rw [List.length_drop]; omega), List.getElem?_drop] at h0
        have h1 : t[1]? = t[0]? := h0
        rw [List.getElem?_eq_getElem q2, List.getElem?_eq_getElem (by omega)] at h1
        have i0 := tg.nd.idxOf_getElem 0 (by omega)
        have i1 := tg.nd.idxOf_getElem 1 q2
        rw [Option.some.inj h1, i0] at i1
        omega
    · by_cases q2 : road = 1 ∧ t.length < 6
      · obtain ⟨q1, q2⟩ := q2
        have ad : ∀ h : IH, dAdd (.str t) (.str [k]) h = .ok (.str (t ++ [k])) h := fun h => ad_str (by simp; omega) h
        generalize hR : enR T.goes = RR at rows
        refine ⟨t ++ [k], D.tup RR, .tup (T.kinds.map D.int), ?_, fun z => ?_, by simp; omega, ?_, by simp⟩
        · subst q1
          generalize mFz (mLc (iEnum (mCons (mOp dIx (mVar 1) (mC (.int 1))) (mNil))) (gSets [8, 9]) mYes e__law_other_tongue_3 [8, 9]) = F at *
          generalize ht2 : t ++ [k] = W at *
          have q2' : ((t.length : Nat) : Int) < 6 := by omega
          have rows : F [some (.ref 1), some T.enc, some (.str t), some (.fl (sgD (restS t))), some (.int (a : Nat)), some (.int 1), some (.str [k]), none, none, none] (z :: c3 :: g) = .ok (.fl RR) (z :: c3 :: g) := rows
          simp [hl, q2', rows, ad, tT2]
        · have := congrArg List.length z
          simp at this
        · intro n
          rw [lo_tup, ← hR]
          unfold enR
          refine loL_of fun y hy => ?_
          obtain ⟨d, hd, rfl⟩ := List.mem_map.mp hy
          obtain ⟨i, hi, rfl⟩ := List.mem_mapIdx.mp hd
          simp [gT, addI]
      · have st := fun h => sl_to (s := t) (u := a) (by omega) h
        have sf := fun h => sl_from1 (s := t) (u := a) (by omega) h
        have l1 := List.length_take_le a t
        have l2 : (t.drop (a + 1)).length = t.length - (a + 1) := List.length_drop ..
        have a1 : ∀ h : IH, dAdd (.str (t.take a)) (.str [k]) h = .ok (.str (t.take a ++ [k])) h := fun h => ad_str (by simp; omega) h
        have a2 : ∀ h : IH, dAdd (.str (t.take a ++ [k])) (.str (t.drop (a + 1))) h = .ok (.str (t.take a ++ [k] ++ t.drop (a + 1))) h := fun h => ad_str (by rw [List.length_append]; simp; omega) h
        refine ⟨t.take a ++ [k] ++ t.drop (a + 1), .tup (T.goes.map gT), .tup (T.kinds.map D.int), ?_, fun z => hk (by rw [← z]; simp), by rw [List.length_append, List.length_append]; simp; omega, by simp, by simp⟩
        generalize t.take a ++ [k] ++ t.drop (a + 1) = W at *
        generalize t.take a ++ [k] = W1 at *
        generalize t.take a = W2 at *
        generalize t.drop (a + 1) = W3 at *
        have c1 : ¬ (road = 0 ∧ 1 < t.length) := q
        generalize mFz (mLc (iEnum (mCons (mOp dIx (mVar 1) (mC (.int 1))) (mNil))) (gSets [8, 9]) mYes e__law_other_tongue_3 [8, 9]) = F at *
        by_cases x0 : road = 0
        · have : ¬ 1 < t.length := fun y => q ⟨x0, y⟩
          have this' : ¬ (1 : Int) < (t.length : Nat) := by omega
          subst x0
          simp [hl, this, this', st, sf, a1, a2, tT1, tT2]
        · by_cases x1 : road = 1
          · have y : ¬ t.length < 6 := fun y => q2 ⟨x1, y⟩
            have y' : ¬ ((t.length : Nat) : Int) < 6 := by omega
            subst x1
            simp [hl, y', st, sf, a1, a2, tT1, tT2]
          · have x0' : ¬ (road : Int) = 0 := by omega
            have x1' : ¬ (road : Int) = 1 := by omega
            simp [hl, x0, x1, x0', x1', st, sf, a1, a2, tT1, tT2]
  obtain ⟨t', A, B, ef, n1, n2, n3, n4⟩ := fin
  refine ⟨t', A, B, c3, callC_pen0 rfl ?_, n1, n2, n3, n4, p3⟩
  rw [← ef]
  unfold m__law_other_tongue
  rw [ap_fnM]
  simp only [List.map_cons, List.map_nil, List.length_cons, List.length_nil, List.cons_append, List.nil_append, Nat.reduceAdd, Nat.reduceSub, List.replicate]
  refine stN (env2 := [some (.ref 1), some T.enc, some (.str t), none, none, none, none, none, none, none]) (h2 := z :: c :: g) (by simp [i0]) ?_
  refine stN (env2 := [some (.ref 1), some T.enc, some (.str t), some (.fl (sgD (restS t))), none, none, none, none, none, none]) (h2 := z :: c :: g) (by
    generalize mFz (mLc (iSeq (mCall 0 m__law_signs mNil)) (gSet 6) t__law_other_tongue_1 e__law_other_tongue_2 [6]) = F at *
    simp [comp]) ?_
  refine stN (env2 := [some (.ref 1), some T.enc, some (.str t), some (.fl (sgD (restS t))), some (.int (a : Nat)), none, none, none, none, none]) (h2 := z :: c1 :: g) (by simp [hl, e1]) ?_
  refine stN (env2 := [some (.ref 1), some T.enc, some (.str t), some (.fl (sgD (restS t))), some (.int (a : Nat)), some (.int (road : Nat)), none, none, none, none]) (h2 := z :: c2 :: g) (by simp [e2]) ?_
  refine stN (env2 := E none) (h2 := z :: c3 :: g) (by simp [hr, e3, ix]; rfl) rfl
end NR

set_option Elab.async false
set_option linter.all false
set_option maxRecDepth 100000
set_option maxHeartbeats 1000000
namespace NR
/-! ### rooms met in the order of their least words (plain) -/
/-- one row ahead of another one of the same length -/
def lexW : List Nat → List Nat → Prop
  | a :: u, b :: v => a < b ∨ (a = b ∧ lexW u v)
  | _, _ => False
/-- the shorter one first, of like lengths by the first unlike place -/
def sltW (u v : List Nat) : Prop := u.length < v.length ∨ (u.length = v.length ∧ lexW u v)
def sleW (u v : List Nat) : Prop := u = v ∨ sltW u v
theorem lexW_irr : ∀ {u : List Nat}, ¬ lexW u u
  | [], h => h.elim
  | a :: u, h => by
    rcases h with h | ⟨_, h⟩
    · omega
    · exact lexW_irr h
theorem lexW_trans : ∀ {u v w : List Nat}, lexW u v → lexW v w → lexW u w
  | [], _, _, h, _ => h.elim
  | _ :: _, [], _, h, _ => h.elim
  | _ :: _, _ :: _, [], _, h => h.elim
  | a :: u, b :: v, c :: w, h1, h2 => by
    rcases h1 with h1 | ⟨rfl, h1⟩
    · rcases h2 with h2 | ⟨rfl, h2⟩
      · exact .inl (by omega)
      · exact .inl h1
    · rcases h2 with h2 | ⟨rfl, h2⟩
      · exact .inl h2
      · exact .inr ⟨rfl, lexW_trans h1 h2⟩
theorem lexW_tri : ∀ {u v : List Nat}, u.length = v.length → lexW u v ∨ u = v ∨ lexW v u
  | [], [], _ => .inr (.inl rfl)
  | [], _ :: _, h => by simp at h
  | _ :: _, [], h => by simp at h
  | a :: u, b :: v, h => by
    rw [List.length_cons, List.length_cons] at h
    rcases Nat.lt_trichotomy a b with c | c | c
    · exact .inl (.inl c)
    · subst c
      rcases lexW_tri (u := u) (v := v) (by omega) with d | d | d
      · exact .inl (.inr ⟨rfl, d⟩)
      · exact .inr (.inl (by rw [d]))
      · exact .inr (.inr (.inr ⟨rfl, d⟩))
    · exact .inr (.inr (.inl c))
theorem lexW_snoc : ∀ {u v : List Nat} {i j : Nat}, u.length = v.length → lexW u v → lexW (u ++ [i]) (v ++ [j])
  | [], _, _, _, _, h => h.elim
  | _ :: _, [], _, _, _, h => h.elim
  | a :: u, b :: v, i, j, l, h => by
    rw [List.length_cons, List.length_cons] at l
    rcases h with h | ⟨rfl, h⟩
    · exact .inl h
    · exact .inr ⟨rfl, lexW_snoc (by omega) h⟩
theorem lexW_last : ∀ {u : List Nat} {i j : Nat}, i < j → lexW (u ++ [i]) (u ++ [j])
  | [], _, _, h => .inl h
  | a :: u, _, _, h => .inr ⟨rfl, lexW_last h⟩
theorem sltW_irr {u : List Nat} : ¬ sltW u u := by
  rintro (h | ⟨_, h⟩)
  · omega
  · exact lexW_irr h
theorem sltW_trans {u v w : List Nat} (h1 : sltW u v) (h2 : sltW v w) : sltW u w := by
  rcases h1 with h1 | ⟨e1, h1⟩
  · rcases h2 with h2 | ⟨e2, h2⟩
    · exact .inl (by omega)
    · exact .inl (by omega)
  · rcases h2 with h2 | ⟨e2, h2⟩
    · exact .inl (by omega)
    · exact .inr ⟨by omega, lexW_trans h1 h2⟩
theorem sltW_tri (u v : List Nat) : sltW u v ∨ u = v ∨ sltW v u := by
  rcases Nat.lt_trichotomy u.length v.length with c | c | c
  · exact .inl (.inl c)
  · rcases lexW_tri c with d | d | d
    · exact .inl (.inr ⟨c, d⟩)
    · exact .inr (.inl d)
    · exact .inr (.inr (.inr ⟨c.symm, d⟩))
  · exact .inr (.inr (.inl c))
theorem sltW_snoc {u v : List Nat} {i j : Nat} (h : sltW u v) : sltW (u ++ [i]) (v ++ [j]) := by
  unfold sltW
  rw [List.length_append, List.length_append, List.length_singleton, List.length_singleton]
  rcases h with h | ⟨e, h⟩
  · exact .inl (by omega)
  · exact .inr ⟨by omega, lexW_snoc e h⟩
theorem sltW_last {u : List Nat} {i j : Nat} (h : i < j) : sltW (u ++ [i]) (u ++ [j]) := .inr ⟨by simp, lexW_last h⟩
theorem sltW_nil {u : List Nat} {j : Nat} : sltW [] (u ++ [j]) := .inl (by simp)
theorem sle_slt {u v w : List Nat} (h1 : sleW u v) (h2 : sltW v w) : sltW u w := by
  rcases h1 with rfl | h1
  · exact h2
  · exact sltW_trans h1 h2
theorem sle_trans {u v w : List Nat} (h1 : sleW u v) (h2 : sleW v w) : sleW u w := by
  rcases h2 with rfl | h2
  · exact h1
  · exact .inr (sle_slt h1 h2)
theorem sle_snoc {u v : List Nat} {j : Nat} (h : sleW u v) : sleW (u ++ [j]) (v ++ [j]) := by
  rcases h with rfl | h
  · exact .inl rfl
  · exact .inr (sltW_snoc h)
section
variable {κ : Type} [DecidableEq κ]
def bfAdd (x : κ) (w : List Nat) (L : List (κ × List Nat)) : List (κ × List Nat) := if x ∈ L.map (·.1) then L else L ++ [(x, w)]
/-- the signs js, from the room e -/
def bfRow (δ : κ → Nat → κ) (e : κ × List Nat) : List Nat → List (κ × List Nat) → List (κ × List Nat)
  | [], L => L
  | j :: js, L => bfRow δ e js (bfAdd (δ e.1 j) (e.2 ++ [j]) L)
def bfs (δ : κ → Nat → κ) (m : Nat) (s0 : κ) : Nat → List (κ × List Nat)
  | 0 => [(s0, [])]
  | k + 1 => match (bfs δ m s0 k)[k]? with
    | some e => bfRow δ e (List.range m) (bfs δ m s0 k)
    | none => bfs δ m s0 k
def runW (δ : κ → Nat → κ) : κ → List Nat → κ
  | s, [] => s
  | s, j :: w => runW δ (δ s j) w
theorem runW_snoc {δ : κ → Nat → κ} : ∀ {s : κ} {w : List Nat} {j : Nat}, runW δ s (w ++ [j]) = δ (runW δ s w) j
  | _, [], _ => rfl
  | s, i :: w, j => runW_snoc (s := δ s i) (w := w)
theorem bfAdd_pre {x : κ} {w : List Nat} {L : List (κ × List Nat)} : L <+: bfAdd x w L := by
  unfold bfAdd
  split
  · exact List.prefix_rfl
  · exact List.prefix_append _ _
theorem bfRow_pre {δ : κ → Nat → κ} {e : κ × List Nat} : ∀ (js : List Nat) (L : List (κ × List Nat)), L <+: bfRow δ e js L
  | [], L => List.prefix_rfl
  | j :: js, L => bfAdd_pre.trans (bfRow_pre js _)
theorem bfs_pre1 {δ : κ → Nat → κ} {m : Nat} {s0 : κ} {k : Nat} : bfs δ m s0 k <+: bfs δ m s0 (k + 1) := by
  show _ <+: (match (bfs δ m s0 k)[k]? with | some e => _ | none => _)
  split
  · exact bfRow_pre _ _
  · exact List.prefix_rfl
structure BI (δ : κ → Nat → κ) (m : Nat) (s0 : κ) (L : List (κ × List Nat)) (k j : Nat) : Prop where
  run : ∀ e ∈ L, e.1 = runW δ s0 e.2 ∧ ∀ i ∈ e.2, i < m
  nd : (L.map (·.1)).Nodup
  srt : L.Pairwise fun a b => sltW a.2 b.2
  hd : L[0]? = some (s0, [])
  frm : ∀ uk, L[k]? = some uk → ∀ e ∈ L, e.2 = [] ∨ ∃ u i, e.2 = u ++ [i] ∧ (sltW u uk.2 ∨ (u = uk.2 ∧ i < j))
  don : ∀ (i : Nat) (e : κ × List Nat), L[i]? = some e → ∀ j', j' < m → (i < k ∨ (i = k ∧ j' < j)) → ∃ f ∈ L, f.1 = δ e.1 j' ∧ sleW f.2 (e.2 ++ [j'])
variable {δ : κ → Nat → κ} {m : Nat} {s0 : κ} {L : List (κ × List Nat)} {k j : Nat}
theorem BI.zero : BI δ m s0 [(s0, [])] 0 0 where
  run := fun e he => by
    rw [List.mem_singleton] at he
    subst he
    exact ⟨rfl, by simp⟩
  nd := by simp
  srt := by simp
  hd := rfl
  frm := fun uk hu e he => by
    rw [List.mem_singleton] at he
    subst he
    exact .inl rfl
  don := fun i e _ j' _ h => by omega
/-- one sign more -/
theorem BI.step (I : BI δ m s0 L k j) {e : κ × List Nat} (he : L[k]? = some e) (jm : j < m) : BI δ m s0 (bfAdd (δ e.1 j) (e.2 ++ [j]) L) k (j + 1) := by
  have em := List.mem_of_getElem? he
  have kl := (List.getElem?_eq_some_iff.mp he).1
  -- all words so far stand ahead of the new one
  have ahd : ∀ f ∈ L, sltW f.2 (e.2 ++ [j]) := fun f hf => by
    rcases I.frm e he f hf with h | ⟨u, i, h, h2 | ⟨rfl, h2⟩⟩
    · rw [h]
      exact sltW_nil
    · rw [h]
      exact sltW_snoc h2
    · rw [h]
      exact sltW_last h2
  unfold bfAdd
  by_cases q : δ e.1 j ∈ L.map (·.1)
  · rw [if_pos q]
    refine ⟨I.run, I.nd, I.srt, I.hd, fun uk hu f hf => ?_, fun i f hi j' hj' h => ?_⟩
    · rcases I.frm uk hu f hf with h | ⟨u, i, h, h2 | ⟨h2, h3⟩⟩
      · exact .inl h
      · exact .inr ⟨u, i, h, .inl h2⟩
      · exact .inr ⟨u, i, h, .inr ⟨h2, by omega⟩⟩
    · by_cases c : i = k ∧ j' = j
      · obtain ⟨rfl, rfl⟩ := c
        rw [he] at hi
        cases hi
        obtain ⟨g, hg, eg⟩ := List.mem_map.mp q
        exact ⟨g, hg, eg, .inr (ahd g hg)⟩
      · exact I.don i f hi j' hj' (by omega)
  · rw [if_neg q]
    have old : ∀ i f, i < L.length → (L ++ [(δ e.1 j, e.2 ++ [j])])[i]? = some f → L[i]? = some f := fun i f hi h => by
      rw [List.getElem?_append_left hi] at h
      exact h
    refine ⟨fun f hf => ?_, ?_, ?_, ?_, fun uk hu f hf => ?_, fun i f hi j' hj' h => ?_⟩
    · rcases List.mem_append.mp hf with hf | hf
      · exact I.run f hf
      · rw [List.mem_singleton] at hf
        subst hf
        obtain ⟨r1, r2⟩ := I.run e em
        refine ⟨by show δ e.1 j = runW δ s0 (e.2 ++ [j]); rw [runW_snoc, ← r1], fun i hi => ?_⟩
        rcases List.mem_append.mp hi with hi | hi
        · exact r2 i hi
        · rw [List.mem_singleton] at hi
          omega
    · rw [List.map_append, List.nodup_append]
      refine ⟨I.nd, by simp, fun a ha b hb => ?_⟩
      rw [List.map_cons, List.map_nil, List.mem_singleton] at hb
      rw [hb]
      intro z
      have z : a = δ e.1 j := z
      exact q (z ▸ ha)
    · rw [List.pairwise_append]
      refine ⟨I.srt, by simp, fun a ha b hb => ?_⟩
      rw [List.mem_singleton] at hb
      rw [hb]
      exact ahd a ha
    · rw [List.getElem?_append_left (by omega)]
      exact I.hd
    · have hu := old k uk kl hu
      rcases List.mem_append.mp hf with hf | hf
      · rcases I.frm uk hu f hf with h | ⟨u, i, h, h2 | ⟨h2, h3⟩⟩
        · exact .inl h
        · exact .inr ⟨u, i, h, .inl h2⟩
        · exact .inr ⟨u, i, h, .inr ⟨h2, by omega⟩⟩
      · rw [List.mem_singleton] at hf
        subst hf
        rw [he] at hu
        cases hu
        exact .inr ⟨e.2, j, rfl, .inr ⟨rfl, by omega⟩⟩
    · have il : i < L.length := by omega
      have hi2 := old i f il hi
      by_cases c : i = k ∧ j' = j
      · obtain ⟨rfl, rfl⟩ := c
        rw [he] at hi2
        cases hi2
        exact ⟨_, List.mem_append_right _ (List.mem_singleton.mpr rfl), rfl, .inl rfl⟩
      · obtain ⟨g, hg, e1, e2⟩ := I.don i f hi2 j' hj' (by omega)
        exact ⟨g, List.mem_append_left _ hg, e1, e2⟩
theorem BI.row {e : κ × List Nat} : ∀ (n j : Nat) (L : List (κ × List Nat)), j + n = m → L[k]? = some e → BI δ m s0 L k j → BI δ m s0 (bfRow δ e ((List.range m).drop j) L) k m
  | 0, j, L, h, he, I => by
    rw [List.drop_of_length_le (by rw [List.length_range]; omega)]
    have : j = m := by omega
    subst this
    exact I
  | n + 1, j, L, h, he, I => by
    have hj : j < (List.range m).length := by rw [List.length_range]; omega
    rw [List.drop_eq_getElem_cons hj, List.getElem_range]
    show BI δ m s0 (bfRow δ e _ (bfAdd (δ e.1 j) (e.2 ++ [j]) L)) k m
    refine BI.row n (j + 1) _ (by omega) ?_ (I.step he (by omega))
    obtain ⟨t, ht⟩ := bfAdd_pre (x := δ e.1 j) (w := e.2 ++ [j]) (L := L)
    rw [← ht, List.getElem?_append_left (List.getElem?_eq_some_iff.mp he).1]
    exact he
theorem BI.next (I : BI δ m s0 L k m) : BI δ m s0 L (k + 1) 0 where
  run := I.run
  nd := I.nd
  srt := I.srt
  hd := I.hd
  frm := fun uk hu f hf => by
    have kl := (List.getElem?_eq_some_iff.mp hu).1
    have hk : L[k]? = some L[k] := List.getElem?_eq_getElem (by omega)
    have lt : sltW (L[k]).2 uk.2 := by
      have := (List.pairwise_iff_getElem.mp I.srt) k (k + 1) (by omega) kl (by omega)
      have e2 := (List.getElem?_eq_some_iff.mp hu).2
      rw [e2] at this
      exact this
    rcases I.frm _ hk f hf with h | ⟨u, i, h, h2 | ⟨h2, h3⟩⟩
    · exact .inl h
    · exact .inr ⟨u, i, h, .inl (sltW_trans h2 lt)⟩
    · exact .inr ⟨u, i, h, .inl (h2 ▸ lt)⟩
  don := fun i e hi j' hj' h => I.don i e hi j' hj' (by omega)
theorem bfs_I : ∀ k, BI δ m s0 (bfs δ m s0 k) k 0
  | 0 => BI.zero
  | k + 1 => by
    have I : BI δ m s0 (bfs δ m s0 k) k 0 := bfs_I k
    show BI δ m s0 (match (bfs δ m s0 k)[k]? with | some e => bfRow δ e (List.range m) (bfs δ m s0 k) | none => bfs δ m s0 k) (k + 1) 0
    split
    · rename_i e he
      have := BI.row (m := m) m 0 _ (by omega) he I
      rw [List.drop_zero] at this
      exact this.next
    · rename_i he
      have kl := List.getElem?_eq_none_iff.mp he
      exact ⟨I.run, I.nd, I.srt, I.hd, fun uk hu => by have := (List.getElem?_eq_some_iff.mp hu).1; omega, fun i e hi j' hj' h => I.don i e hi j' hj' (by have := (List.getElem?_eq_some_iff.mp hi).1; omega)⟩
theorem bfs_some {e : κ × List Nat} (he : (bfs δ m s0 k)[k]? = some e) : bfs δ m s0 (k + 1) = bfRow δ e (List.range m) (bfs δ m s0 k) := by
  show (match (bfs δ m s0 k)[k]? with | some e => bfRow δ e (List.range m) (bfs δ m s0 k) | none => bfs δ m s0 k) = _
  rw [he]
theorem bfs_none (he : (bfs δ m s0 k)[k]? = none) : bfs δ m s0 (k + 1) = bfs δ m s0 k := by
  show (match (bfs δ m s0 k)[k]? with | some e => bfRow δ e (List.range m) (bfs δ m s0 k) | none => bfs δ m s0 k) = _
  rw [he]
/-- what is closed tells the least word that leads to each room -/
theorem BI.least (I : BI δ m s0 L k 0) (cl : L.length ≤ k) : ∀ (n : Nat) (v : List Nat), v.length = n → (∀ i ∈ v, i < m) → ∃ e ∈ L, e.1 = runW δ s0 v ∧ sleW e.2 v
  | 0, v, h, _ => by
    have : v = [] := List.eq_nil_of_length_eq_zero h
    subst this
    exact ⟨_, List.mem_of_getElem? I.hd, rfl, .inl rfl⟩
  | n + 1, v, h, hv => by
    have ne : v ≠ [] := fun z => by rw [z] at h; simp at h
    obtain ⟨u, i, rfl⟩ : ∃ u i, v = u ++ [i] := ⟨v.dropLast, v.getLast ne, (List.dropLast_concat_getLast ne).symm⟩
    rw [List.length_append, List.length_singleton] at h
    obtain ⟨e, he, e1, e2⟩ := I.least cl n u (by omega) fun i hi => hv i (List.mem_append_left _ hi)
    obtain ⟨a, ha⟩ := List.mem_iff_getElem?.mp he
    have al := (List.getElem?_eq_some_iff.mp ha).1
    obtain ⟨f, hf, f1, f2⟩ := I.don a e ha i (hv i (by simp)) (by omega)
    refine ⟨f, hf, by rw [runW_snoc, ← e1, f1], sle_trans f2 (sle_snoc e2)⟩
/-- nothing more is met -/
theorem bfs_stop {k : Nat} (l : (bfs δ m s0 k).length ≤ k) : ∀ d, bfs δ m s0 (k + d) = bfs δ m s0 k
  | 0 => rfl
  | d + 1 => by
    have ih := bfs_stop l d
    show (match (bfs δ m s0 (k + d))[k + d]? with | some e => bfRow δ e (List.range m) (bfs δ m s0 (k + d)) | none => bfs δ m s0 (k + d)) = _
    rw [ih, List.getElem?_eq_none (by omega)]
theorem nodup_lenB : ∀ {l m : List κ}, l.Nodup → (∀ x ∈ l, x ∈ m) → l.length ≤ m.length
  | [], m, _, _ => by simp
  | a :: l, m, nd, h => by
    rw [List.nodup_cons] at nd
    have am := h a List.mem_cons_self
    have ih := nodup_lenB (l := l) (m := m.erase a) nd.2 fun x hx => by
      have ne : x ≠ a := fun e => nd.1 (e ▸ hx)
      exact (List.mem_erase_of_ne ne).mpr (h x (List.mem_cons_of_mem _ hx))
    rw [List.length_erase_of_mem am] at ih
    have : 0 < m.length := List.length_pos_of_mem am
    rw [List.length_cons]
    omega
theorem bfs_len {all : List κ} (h0 : s0 ∈ all) (hs : ∀ x ∈ all, ∀ j, j < m → δ x j ∈ all) (k : Nat) : (bfs δ m s0 k).length ≤ all.length := by
  have I := bfs_I (δ := δ) (m := m) (s0 := s0) k
  have run : ∀ (w : List Nat) (s : κ), s ∈ all → (∀ i ∈ w, i < m) → runW δ s w ∈ all := by
    intro w
    induction w with
    | nil => intro s hs _; exact hs
    | cons i w ih => intro s h hw; exact ih (δ s i) (hs s h i (hw i List.mem_cons_self)) fun x hx => hw x (List.mem_cons_of_mem _ hx)
  have := nodup_lenB (l := (bfs δ m s0 k).map (·.1)) (m := all) I.nd fun x hx => by
    obtain ⟨e, he, rfl⟩ := List.mem_map.mp hx
    obtain ⟨r1, r2⟩ := I.run e he
    rw [r1]
    exact run e.2 s0 h0 r2
  rwa [List.length_map] at this
end
end NR

set_option Elab.async false
set_option linter.all false
set_option maxRecDepth 100000
set_option maxHeartbeats 4000000
namespace NR
open PySem PySem.Spec PyProof.Rows L2
/-! ### dicts with pairs as keys, by words -/
def kP2 (p : Nat × Nat) : List DKey := [.inl (p.1 : Nat), .inl (p.2 : Nat)]
def tP2 (p : Nat × Nat) : D := .tup [.int (p.1 : Nat), .int (p.2 : Nat)]
abbrev Ent := (Nat × Nat) × List Nat
def dW (g : List Nat → D) (L : List Ent) : Cell := .dt (L.map fun e => (kP2 e.1, g e.2))
@[simp] theorem lo_tP2 {n : Nat} {p : Nat × Nat} : D.lo n (tP2 p) = true := by simp [tP2]
theorem key_tP2 {p : Nat × Nat} : keyT? (tP2 p) = some (kP2 p) := rfl
theorem kP2_inj {p q : Nat × Nat} (h : kP2 p = kP2 q) : p = q := by
  unfold kP2 at h
  simp at h
  exact Prod.ext (by have := h.1; omega) (by have := h.2; omega)
def fndE (L : List Ent) (p : Nat × Nat) : Option Ent := L.find? fun e => decide (e.1 = p)
theorem val_dW {g : List Nat → D} {p : Nat × Nat} : ∀ {L : List Ent}, valKD (L.map fun e => (kP2 e.1, g e.2)) (kP2 p) = (fndE L p).map fun e => g e.2
  | [] => rfl
  | e :: d => by
    have ih := val_dW (g := g) (p := p) (L := d)
    unfold valKD fndE at *
    rw [List.map_cons, List.find?_cons, List.find?_cons]
    by_cases q : e.1 = p
    · subst q
      simp
    · have : ¬ kP2 e.1 = kP2 p := fun z => q (kP2_inj z)
      simp only [this, q, decide_false]
      exact ih
theorem fndE_none {L : List Ent} {p : Nat × Nat} : fndE L p = none ↔ p ∉ L.map (·.1) := by
  unfold fndE
  rw [List.find?_eq_none]
  constructor
  · intro z w
    obtain ⟨e, he, rfl⟩ := List.mem_map.mp w
    exact z e he (by simp)
  · intro z e he w
    have : e.1 = p := by simpa using w
    exact z (List.mem_map.mpr ⟨e, he, this⟩)
theorem fndE_mem {L : List Ent} (nd : (L.map (·.1)).Nodup) {e : Ent} (he : e ∈ L) : fndE L e.1 = some e := by
  unfold fndE
  induction L with
  | nil => cases he
  | cons a L ih =>
    rw [List.map_cons, List.nodup_cons] at nd
    rw [List.find?_cons]
    rcases List.mem_cons.mp he with rfl | he
    · simp
    · have : ¬ a.1 = e.1 := fun z => nd.1 (z ▸ List.mem_map.mpr ⟨e, he, rfl⟩)
      simp only [this, decide_false]
      exact ih nd.2 he
section
variable {g : List Nat → D} {h : IH} {n : Nat} {L : List Ent} {p : Nat × Nat}
theorem dget_dW (e : h[n]? = some (dW g L)) : dGet? h (.ref n) (tP2 p) = some ((fndE L p).map fun e => g e.2) := by
  unfold dGet?
  dsimp only
  rw [e]
  unfold dW
  dsimp only
  rw [key_tP2, Option.map_some, val_dW]
theorem dDIn_dW (e : h[n]? = some (dW g L)) : dDIn true (tP2 p) (.ref n) h = .ok (.bl (!decide (p ∈ L.map (·.1)))) h := by
  unfold dDIn
  rw [dget_dW e]
  by_cases q : p ∈ L.map (·.1)
  · cases c : fndE L p with
    | none => exact absurd q (fndE_none.mp c)
    | some v => simp [q]
  · rw [fndE_none.mpr q]
    simp [q]
theorem dDGet_dW {v : Ent} (e : h[n]? = some (dW g L)) (l : fndE L p = some v) : dDGet (.ref n) (tP2 p) h = .ok (g v.2) h := by
  unfold dDGet
  rw [dget_dW e, l]
  rfl
theorem putDD_dW {w : List Nat} (e : h[n]? = some (dW g L)) (q : p ∉ L.map (·.1)) (dl : L.length < 10000000) : putDD (.ref n) (tP2 p) (g w) h = some (h.set n (dW g (L ++ [(p, w)]))) := by
  have pk : putKD (L.map fun e => (kP2 e.1, g e.2)) (kP2 p) (g w) = (L ++ [(p, w)]).map fun e => (kP2 e.1, g e.2) := by
    unfold putKD
    have an : ((L.map fun e => (kP2 e.1, g e.2)).any fun x => decide (x.1 = kP2 p)) = false := by
      rw [Bool.eq_false_iff]
      intro z
      simp only [List.any_eq_true, List.mem_map, decide_eq_true_eq] at z
      obtain ⟨x, ⟨y, hy, rfl⟩, z⟩ := z
      exact q (List.mem_map.mpr ⟨y, hy, kP2_inj z⟩)
    rw [an, if_neg (by simp), List.map_append]
    rfl
  unfold putDD
  dsimp only
  rw [e]
  unfold dW
  dsimp only
  rw [key_tP2]
  dsimp only
  rw [if_pos (by rw [List.length_map]; exact dl), pk]
end
/-! ### pairs of rooms -/
def pdl (T U : Tb) (p : Nat × Nat) (j : Nat) : Nat × Nat := ((T.goes.getD p.1 []).getD j 0, (U.goes.getD p.2 []).getD j 0)
def txt (t : List Nat) (w : List Nat) : List Nat := w.map fun j => t.getD j 0
def bfP (T U : Tb) (k : Nat) : List Ent := bfs (pdl T U) T.sig.length (0, 0) k
def PL (T U : Tb) : List Ent := bfP T U 1024
def eDW (t : List Nat) (e : Ent) : D := .tup [tP2 e.1, .str (txt t e.2)]
@[simp] theorem lo_eDW {n : Nat} {t : List Nat} {e : Ent} : D.lo n (eDW t e) = true := by simp [eDW]
theorem bfRow_wl {δ : Nat × Nat → Nat → Nat × Nat} {e : Ent} {k : Nat} (he : e.2.length ≤ k) : ∀ (js : List Nat) (L : List Ent), (∀ x ∈ L, x.2.length ≤ k + 1) → ∀ x ∈ bfRow δ e js L, x.2.length ≤ k + 1
  | [], L, h => h
  | j :: js, L, h => bfRow_wl he js _ fun x hx => by
    unfold bfAdd at hx
    split at hx
    · exact h x hx
    · rcases List.mem_append.mp hx with hx | hx
      · exact h x hx
      · rw [List.mem_singleton] at hx
        subst hx
        show (e.2 ++ [j]).length ≤ _
        rw [List.length_append, List.length_singleton]
        omega
theorem bfs_wl {δ : Nat × Nat → Nat → Nat × Nat} {m : Nat} {s0 : Nat × Nat} : ∀ (k : Nat), ∀ x ∈ bfs δ m s0 k, x.2.length ≤ k
  | 0, x, hx => by
    have : x = (s0, []) := List.mem_singleton.mp hx
    subst this
    exact Nat.le_refl _
  | k + 1, x, hx => by
    have ih := bfs_wl (δ := δ) (m := m) (s0 := s0) k
    cases c : (bfs δ m s0 k)[k]? with
    | some e =>
      rw [bfs_some c] at hx
      exact bfRow_wl (ih e (List.mem_of_getElem? c)) _ _ (fun y hy => Nat.le_succ_of_le (ih y hy)) x hx
    | none =>
      rw [bfs_none c] at hx
      exact Nat.le_succ_of_le (ih x hx)
/-- two tables of one tongue -/
structure Two (T U : Tb) : Prop where
  a : T.Ok
  b : U.Ok
  s : U.sig = T.sig
section
variable {T U : Tb}
def allP : List (Nat × Nat) := (List.range 32).flatMap fun a => (List.range 32).map fun b => (a, b)
theorem mem_allP {p : Nat × Nat} : p ∈ allP ↔ p.1 < 32 ∧ p.2 < 32 := by
  unfold allP
  rw [List.mem_flatMap]
  constructor
  · rintro ⟨a, ha, hp⟩
    obtain ⟨b, hb, rfl⟩ := List.mem_map.mp hp
    exact ⟨List.mem_range.mp ha, List.mem_range.mp hb⟩
  · rintro ⟨h1, h2⟩
    exact ⟨p.1, List.mem_range.mpr h1, List.mem_map.mpr ⟨p.2, List.mem_range.mpr h2, rfl⟩⟩
theorem allP_len : allP.length = 1024 := by decide +kernel
theorem go_lt (ok : T.Ok) {r j : Nat} (hr : r < T.goes.length) (hj : j < T.sig.length) : (T.goes.getD r []).getD j 0 < T.goes.length := by
  obtain ⟨row, e1, e2, e3⟩ := ok.rowAt (r := r) hr
  rw [List.getD_eq_getElem?_getD (l := T.goes), e1]
  show row.getD j 0 < _
  rw [List.getD_eq_getElem?_getD, List.getElem?_eq_getElem (by omega)]
  exact e3 _ (List.getElem_mem _)
/-- rooms of both -/
def Rm (T U : Tb) (p : Nat × Nat) : Prop := p.1 < T.goes.length ∧ p.2 < U.goes.length
theorem Two.step (W : Two T U) {p : Nat × Nat} {j : Nat} (hp : Rm T U p) (hj : j < T.sig.length) : Rm T U (pdl T U p j) := ⟨go_lt W.a hp.1 hj, go_lt W.b hp.2 (by rw [W.s]; exact hj)⟩
theorem Two.zero (W : Two T U) : Rm T U (0, 0) := ⟨W.a.g1, W.b.g1⟩
theorem Two.run (W : Two T U) : ∀ (w : List Nat) (p : Nat × Nat), Rm T U p → (∀ i ∈ w, i < T.sig.length) → Rm T U (runW (pdl T U) p w)
  | [], p, hp, _ => hp
  | i :: w, p, hp, hw => W.run w _ (W.step hp (hw i List.mem_cons_self)) fun x hx => hw x (List.mem_cons_of_mem _ hx)
theorem bfP_I (T U : Tb) (k : Nat) : BI (pdl T U) T.sig.length (0, 0) (bfP T U k) k 0 := bfs_I k
theorem Two.rm (W : Two T U) {k : Nat} {e : Ent} (he : e ∈ bfP T U k) : Rm T U e.1 := by
  obtain ⟨r1, r2⟩ := (bfP_I T U k).run e he
  rw [r1]
  exact W.run _ _ W.zero r2
theorem Two.len (W : Two T U) (k : Nat) : (bfP T U k).length ≤ 1024 := by
  have I := bfP_I T U k
  have := nodup_lenB (l := (bfP T U k).map (·.1)) (m := allP) I.nd fun x hx => by
    obtain ⟨e, he, rfl⟩ := List.mem_map.mp hx
    have := W.rm he
    have g1 := W.a.g2
    have g2 := W.b.g2
    exact mem_allP.mpr ⟨by have := this.1; omega, by have := this.2; omega⟩
  rw [List.length_map, allP_len] at this
  exact this
theorem Two.stop (W : Two T U) {k : Nat} (hk : k ≤ 1024) (l : (bfP T U k).length ≤ k) : PL T U = bfP T U k := by
  have := bfs_stop (δ := pdl T U) (m := T.sig.length) (s0 := (0, 0)) (k := k) l (1024 - k)
  unfold PL bfP
  rw [← this, show k + (1024 - k) = 1024 by omega]
theorem bfP_next {k : Nat} {e : Ent} (he : (bfP T U k)[k]? = some e) : bfP T U (k + 1) = bfRow (pdl T U) e (List.range T.sig.length) (bfP T U k) := bfs_some he
theorem range_drop {m j : Nat} (h : j < m) : (List.range m).drop j = j :: (List.range m).drop (j + 1) := by
  rw [List.drop_eq_getElem_cons (by rw [List.length_range]; exact h), List.getElem_range]
theorem txt_snoc {t w : List Nat} {j : Nat} : txt t (w ++ [j]) = txt t w ++ [t.getD j 0] := by
  unfold txt
  rw [List.map_append]
  rfl
theorem bfAdd_len {p : Nat × Nat} {w : List Nat} {L : List Ent} : (bfAdd p w L).length ≤ L.length + 1 := by
  unfold bfAdd
  split
  · omega
  · rw [List.length_append, List.length_singleton]; omega
/-- where a sign leads, as it is read -/
theorem go_ix (ok : T.Ok) {r j : Nat} (hr : r < T.goes.length) (hj : j < T.sig.length) : ∃ row : List Nat, (∀ h : IH, dIx (.tup (T.goes.map gT)) (.int (r : Nat)) h = .ok (gT row) h) ∧ ∀ h : IH, dIx (gT row) (.int (j : Nat)) h = .ok (.int (((T.goes.getD r []).getD j 0 : Nat) : Int)) h := by
  obtain ⟨row, e1, e2, e3⟩ := ok.rowAt (r := r) hr
  refine ⟨row, fun h => ix_row e1, fun h => ?_⟩
  rw [List.getD_eq_getElem?_getD (l := T.goes), e1]
  show _ = R.ok (D.int ((row.getD j 0 : Nat) : Int)) h
  unfold gT
  refine dIx_nat (xs := row.map nD) rfl ?_
  rw [List.getElem?_map, List.getD_eq_getElem?_getD, List.getElem?_eq_getElem (by omega)]
  rfl
/-! the law's walk -/
def mtH (T : Tb) (h : IH) (L : List Ent) : IH := h ++ [.lst (L.map (eDW T.sig)), dW (fun _ => .bl true) L]
section
variable {h : IH} {L : List Ent}
theorem mtH_0 : (mtH T h L)[h.length]? = some (.lst (L.map (eDW T.sig))) := get_app0
theorem mtH_1 : (mtH T h L)[h.length + 1]? = some (dW (fun _ => .bl true) L) := get_app
theorem met_turn (W : Two T U) {e : Ent} {j : Nat} (hp : Rm T U e.1) (hj : j < T.sig.length) (wl : e.2.length ≤ 2000) (ll : L.length ≤ 5000) (x4 x8 : Option D) :
    ∃ y8, b__law_met_1 [some T.enc, some U.enc, some (.ref h.length), some (.ref (h.length + 1)), x4, some (tP2 e.1), some (.str (txt T.sig e.2)), some (.int (j : Nat)), x8] (mtH T h L) = .nx [some T.enc, some U.enc, some (.ref h.length), some (.ref (h.length + 1)), x4, some (tP2 e.1), some (.str (txt T.sig e.2)), some (.int (j : Nat)), y8] (mtH T h (bfAdd (pdl T U e.1 j) (e.2 ++ [j]) L)) := by
  obtain ⟨r1, a1, a2⟩ := go_ix W.a hp.1 hj
  obtain ⟨r2, b1, b2⟩ := go_ix W.b hp.2 (j := j) (by rw [W.s]; exact hj)
  have p0 : ∀ h : IH, dIx (tP2 e.1) (.int 0) h = .ok (.int (e.1.1 : Nat)) h := fun h => dIx_seq (xs := [.int (e.1.1 : Nat), .int (e.1.2 : Nat)]) rfl (by omega) rfl
  have p1 : ∀ h : IH, dIx (tP2 e.1) (.int 1) h = .ok (.int (e.1.2 : Nat)) h := fun h => dIx_seq (xs := [.int (e.1.1 : Nat), .int (e.1.2 : Nat)]) rfl (by omega) rfl
  have hn : D.tup [.int (((T.goes.getD e.1.1 []).getD j 0 : Nat) : Int), .int (((U.goes.getD e.1.2 []).getD j 0 : Nat) : Int)] = tP2 (pdl T U e.1 j) := rfl
  have di := dDIn_dW (p := pdl T U e.1 j) (mtH_1 (T := T) (h := h) (L := L))
  refine ⟨some (tP2 (pdl T U e.1 j)), ?_⟩
  unfold b__law_met_1
  refine stS (env2 := [some T.enc, some U.enc, some (.ref h.length), some (.ref (h.length + 1)), x4, some (tP2 e.1), some (.str (txt T.sig e.2)), some (.int (j : Nat)), some (tP2 (pdl T U e.1 j))]) (h2 := mtH T h L) (by
    rw [← hn]
    generalize mtH T h L = H at *
    simp [tT1, p0, p1, a1, a2, b1, b2]) ?_
  unfold bfAdd
  by_cases q : pdl T U e.1 j ∈ L.map (·.1)
  · rw [if_pos q]
    have dq : decide (pdl T U e.1 j ∈ L.map (·.1)) = true := decide_eq_true q
    rw [dq] at di
    generalize mtH T h L = H at *
    generalize tP2 (pdl T U e.1 j) = A at *
    simp [di]
  · rw [if_neg q]
    have dq : decide (pdl T U e.1 j ∈ L.map (·.1)) = false := decide_eq_false q
    rw [dq] at di
    have pt := putDD_dW (g := fun _ => D.bl true) (w := e.2 ++ [j]) (mtH_1 (T := T) (h := h) (L := L)) q (by omega)
    generalize hH2 : (mtH T h L).set (h.length + 1) (dW (fun _ => .bl true) (L ++ [(pdl T U e.1 j, e.2 ++ [j])])) = H2 at *
    have g0 : H2[h.length]? = some (.lst (L.map (eDW T.sig))) := by
      rw [← hH2, List.getElem?_set_ne (by omega)]
      exact mtH_0
    have ty := tyD_ref g0
    have sg : ∀ h : IH, dIx (.str T.sig) (.int (j : Nat)) h = .ok (.str [T.sig.getD j 0]) h := fun h => by
      rw [List.getD_eq_getElem?_getD, List.getElem?_eq_getElem hj]
      exact ix_sn hj (by have := W.a.tg.l2; omega) h
    have ad : ∀ h : IH, dAdd (.str (txt T.sig e.2)) (.str [T.sig.getD j 0]) h = .ok (.str (txt T.sig (e.2 ++ [j]))) h := fun h => by
      rw [txt_snoc]
      exact ad_str (by unfold txt; rw [List.length_map, List.length_singleton]; omega) h
    have ap : fAppend (.ref h.length) [.tup [tP2 (pdl T U e.1 j), .str (txt T.sig (e.2 ++ [j]))]] H2 = .ok .non (mtH T h (L ++ [(pdl T U e.1 j, e.2 ++ [j])])) := by
      rw [append_at g0 (by rw [List.length_map]; omega), ← hH2]
      unfold mtH
      rw [set_app, set_app0, List.map_append]
      rfl
    generalize mtH T h (L ++ [(pdl T U e.1 j, e.2 ++ [j])]) = H3 at *
    generalize mtH T h L = H at *
    generalize tP2 (pdl T U e.1 j) = A at *
    generalize txt T.sig (e.2 ++ [j]) = S2 at *
    generalize T.sig.getD j 0 = cc at *
    generalize txt T.sig e.2 = S1 at *
    simp [di, pt, ty, tT0, sg, ad, ap]
theorem met_row2 (W : Two T U) {e : Ent} (hp : Rm T U e.1) (wl : e.2.length ≤ 2000) {x4 : Option D} : ∀ (n j : Nat) (L : List Ent) (x7 x8 : Option D), j + n = T.sig.length → L.length + n ≤ 5000 →
    ∃ y7 y8, forL (gSet 7) b__law_met_1 (intsFrom (j : Nat) n) [some T.enc, some U.enc, some (.ref h.length), some (.ref (h.length + 1)), x4, some (tP2 e.1), some (.str (txt T.sig e.2)), x7, x8] (mtH T h L) = .nx [some T.enc, some U.enc, some (.ref h.length), some (.ref (h.length + 1)), x4, some (tP2 e.1), some (.str (txt T.sig e.2)), y7, y8] (mtH T h (bfRow (pdl T U) e ((List.range T.sig.length).drop j) L))
  | 0, j, L, x7, x8, jn, _ => by
    rw [List.drop_of_length_le (by rw [List.length_range]; omega)]
    exact ⟨x7, x8, rfl⟩
  | n + 1, j, L, x7, x8, jn, ll => by
    obtain ⟨y8, e1⟩ := met_turn (h := h) (L := L) W hp (j := j) (by omega) wl (by omega) x4 x8
    have al := bfAdd_len (p := pdl T U e.1 j) (w := e.2 ++ [j]) (L := L)
    obtain ⟨z7, z8, e2⟩ := met_row2 W hp wl n (j + 1) (bfAdd (pdl T U e.1 j) (e.2 ++ [j]) L) (some (.int (j : Nat))) y8 (by omega) (by omega)
    refine ⟨z7, z8, ?_⟩
    rw [intsFrom_succ, forL_cons (e1 := [some T.enc, some U.enc, some (.ref h.length), some (.ref (h.length + 1)), x4, some (tP2 e.1), some (.str (txt T.sig e.2)), some (.int (j : Nat)), x8]) rfl, e1, on_nx, show ((j : Int) + 1) = ((j + 1 : Nat) : Int) by omega, e2, range_drop (m := T.sig.length) (j := j) (by omega)]
    rfl
theorem lmet_call (W : Two T U) (h : IH) : callC 2 m__law_met [T.enc, U.enc] h = .ok (.fl ((PL T U).map (eDW T.sig))) h := by
  have sl : ∀ h : IH, bLen [.str T.sig] h = .ok (.int (T.sig.length : Nat)) h := fun h => bLen_str (by have := W.a.tg.l2; omega)
  obtain ⟨m, _, _, e, ⟨k, x5, x6, x7, x8, rfl, rfl, hk, rfl⟩, e2⟩ := while_nx (c := t__law_met_2) (s := b__law_met_3) (fun m env h' => ∃ (k : Nat) (x5 x6 x7 x8 : Option D), env = [some T.enc, some U.enc, some (.ref h.length), some (.ref (h.length + 1)), some (.int (k : Nat)), x5, x6, x7, x8] ∧ h' = mtH T h (bfP T U k) ∧ k ≤ 1024 ∧ m = 1024 - k) 1024 [some T.enc, some U.enc, some (.ref h.length), some (.ref (h.length + 1)), some (.int 0), none, none, none, none] (mtH T h (bfP T U 0)) ⟨0, none, none, none, none, rfl, rfl, by omega, by omega⟩ (by
    rintro m _ _ ⟨k, x5, x6, x7, x8, rfl, rfl, hk, rfl⟩
    have bl : bLen [.ref h.length] (mtH T h (bfP T U k)) = .ok (.int ((bfP T U k).length : Nat)) (mtH T h (bfP T U k)) := by
      rw [bLen_ref mtH_0, List.length_map]
    have ll := W.len k
    by_cases q : k < (bfP T U k).length
    · refine .inl ?_
      have he : (bfP T U k)[k]? = some (bfP T U k)[k] := List.getElem?_eq_getElem q
      have hm := List.getElem_mem q
      generalize (bfP T U k)[k] = en at he hm
      obtain ⟨y7, y8, er⟩ := met_row2 (h := h) W (W.rm hm) (Nat.le_trans (bfs_wl k en hm) (by omega)) (x4 := some (.int (k : Nat))) T.sig.length 0 (bfP T U k) x7 x8 (by omega) (by have := W.a.tg.l2; omega)
      rw [List.drop_zero, ← bfP_next he] at er
      have ix : dIx (.ref h.length) (.int (k : Nat)) (mtH T h (bfP T U k)) = .ok (eDW T.sig en) (mtH T h (bfP T U k)) := dIx_nat (seqOf_ref mtH_0) (by rw [List.getElem?_map, he]; rfl)
      refine ⟨[some T.enc, some U.enc, some (.ref h.length), some (.ref (h.length + 1)), some (.int ((k + 1 : Nat) : Int)), some (tP2 en.1), some (.str (txt T.sig en.2)), y7, y8], mtH T h (bfP T U (k + 1)), by unfold t__law_met_2; simp [bl, q], ?_, 1024 - (k + 1), by omega, k + 1, _, _, y7, y8, rfl, rfl, by omega, rfl⟩
      unfold b__law_met_3
      refine stS (env2 := [some T.enc, some U.enc, some (.ref h.length), some (.ref (h.length + 1)), some (.int (k : Nat)), some (tP2 en.1), some (.str (txt T.sig en.2)), x7, x8]) (h2 := mtH T h (bfP T U k)) (by
        generalize mtH T h (bfP T U k) = H at *
        simp [ix, eDW, gSets]) ?_
      refine stS (env2 := [some T.enc, some U.enc, some (.ref h.length), some (.ref (h.length + 1)), some (.int (k : Nat)), some (tP2 en.1), some (.str (txt T.sig en.2)), y7, y8]) (h2 := mtH T h (bfP T U (k + 1))) ?_ (by simp)
      rw [for_st (ds := intsFrom 0 T.sig.length) (h2 := mtH T h (bfP T U k)) (iRange1_of (j := (T.sig.length : Nat)) (k := T.sig.length) (by
        generalize mtH T h (bfP T U k) = H at *
        simp [tT0, sl]) rfl (by have := W.a.tg.l2; omega))]
      exact er
    · refine .inr ?_
      unfold t__law_met_2
      simp [bl, q])
  have bl : bLen [.ref h.length] (mtH T h (bfP T U k)) = .ok (.int ((bfP T U k).length : Nat)) (mtH T h (bfP T U k)) := by
    rw [bLen_ref mtH_0, List.length_map]
  have ge : (bfP T U k).length ≤ k := by
    revert e2
    unfold t__law_met_2
    simp [bl]
  have pl := W.stop hk ge
  have md : mDictP (mTup (mCons (mC (.int 0)) (mCons (mC (.int 0)) (mNil)))) (mC (.bl true)) [some T.enc, some U.enc, some (.ref h.length), none, none, none, none, none, none] (h ++ [.lst [.tup [.tup [.int 0, .int 0], .str []]]]) = .ok (.ref (h.length + 1)) (mtH T h (bfP T U 0)) := by
    rw [ap_mDictP]
    have kt : keyT? (.tup [.int 0, .int 0]) = some [.inl 0, .inl 0] := rfl
    simp only [ap_mTup, ap_mCons, ap_mNil, ap_mC, bind_ok]
    rw [if_pos (by simp)]
    simp only [bind_ok]
    rw [kt]
    simp
    rfl
  refine callC_pure (g := [.frz ((bfP T U k).map (eDW T.sig)), dW (fun _ => .bl true) (bfP T U k)]) rfl ?_ (by simp)
  unfold m__law_met
  rw [ap_fnM]
  simp only [List.map_cons, List.map_nil, List.length_cons, List.length_nil, List.cons_append, List.nil_append, Nat.reduceAdd, Nat.reduceSub, List.replicate]
  refine stN (env2 := [some T.enc, some U.enc, some (.ref h.length), none, none, none, none, none, none]) (h2 := h ++ [.lst [.tup [.tup [.int 0, .int 0], .str []]]]) (by simp [newL]) ?_
  refine stN (env2 := [some T.enc, some U.enc, some (.ref h.length), some (.ref (h.length + 1)), none, none, none, none, none]) (h2 := mtH T h (bfP T U 0)) (by rw [ap_msSet, md, bindS_ok]; rfl) ?_
  refine stN (env2 := [some T.enc, some U.enc, some (.ref h.length), some (.ref (h.length + 1)), some (.int 0), none, none, none, none]) (h2 := mtH T h (bfP T U 0)) (by simp) ?_
  refine stN e ?_
  rw [ap_msFz (n := h.length) (xs := (bfP T U k).map (eDW T.sig)) rfl mtH_0, pl]
  unfold mtH
  rw [set_app0]
  simp
end
end
end NR

set_option Elab.async false
set_option linter.all false
set_option maxRecDepth 100000
set_option maxHeartbeats 4000000
namespace NR
open PySem PySem.Spec PyProof.Rows L2
/-! ### the program's walk over pairs -/
section
variable {T U : Tb} {h : IH} {L : List Ent}
def tgH (T : Tb) (h : IH) (L : List Ent) : IH := h ++ [dW (fun w => .str (txt T.sig w)) L, .lst (L.map fun e => tP2 e.1)]
theorem tgH_0 : (tgH T h L)[h.length]? = some (dW (fun w => .str (txt T.sig w)) L) := get_app0
theorem tgH_1 : (tgH T h L)[h.length + 1]? = some (.lst (L.map fun e => tP2 e.1)) := get_app
theorem tog_turn (W : Two T U) {e : Ent} {k j : Nat} (hk : L[k]? = some e) (hf : fndE L e.1 = some e) (hp : Rm T U e.1) (hj : j < T.sig.length) (wl : e.2.length ≤ 2000) (ll : L.length ≤ 5000) (x9 : Option D) :
    ∃ y9, b_together_1 [some T.enc, some U.enc, some (.ref h.length), some (.ref (h.length + 1)), some (.int (k : Nat)), some (.int (e.1.1 : Nat)), some (.int (e.1.2 : Nat)), some (.int (j : Nat)), some (.str [T.sig.getD j 0]), x9] (tgH T h L) = .nx [some T.enc, some U.enc, some (.ref h.length), some (.ref (h.length + 1)), some (.int (k : Nat)), some (.int (e.1.1 : Nat)), some (.int (e.1.2 : Nat)), some (.int (j : Nat)), some (.str [T.sig.getD j 0]), y9] (tgH T h (bfAdd (pdl T U e.1 j) (e.2 ++ [j]) L)) := by
  obtain ⟨r1, a1, a2⟩ := go_ix W.a hp.1 hj
  obtain ⟨r2, b1, b2⟩ := go_ix W.b hp.2 (j := j) (by rw [W.s]; exact hj)
  have hn : D.tup [.int (((T.goes.getD e.1.1 []).getD j 0 : Nat) : Int), .int (((U.goes.getD e.1.2 []).getD j 0 : Nat) : Int)] = tP2 (pdl T U e.1 j) := rfl
  have di := dDIn_dW (p := pdl T U e.1 j) (tgH_0 (T := T) (h := h) (L := L))
  generalize hcc : T.sig.getD j 0 = cc at *
  refine ⟨some (tP2 (pdl T U e.1 j)), ?_⟩
  unfold b_together_1
  refine stS (env2 := [some T.enc, some U.enc, some (.ref h.length), some (.ref (h.length + 1)), some (.int (k : Nat)), some (.int (e.1.1 : Nat)), some (.int (e.1.2 : Nat)), some (.int (j : Nat)), some (.str [cc]), some (tP2 (pdl T U e.1 j))]) (h2 := tgH T h L) (by
    rw [← hn]
    generalize tgH T h L = H at *
    simp [tT1, a1, a2, b1, b2]) ?_
  unfold bfAdd
  by_cases q : pdl T U e.1 j ∈ L.map (·.1)
  · rw [if_pos q]
    have dq : decide (pdl T U e.1 j ∈ L.map (·.1)) = true := decide_eq_true q
    rw [dq] at di
    generalize tgH T h L = H at *
    generalize tP2 (pdl T U e.1 j) = A at *
    simp [di]
  · rw [if_neg q]
    have dq : decide (pdl T U e.1 j ∈ L.map (·.1)) = false := decide_eq_false q
    rw [dq] at di
    have ix : dIx (.ref (h.length + 1)) (.int (k : Nat)) (tgH T h L) = .ok (tP2 e.1) (tgH T h L) := dIx_nat (seqOf_ref tgH_1) (by rw [List.getElem?_map, hk]; rfl)
    have gt := dDGet_dW (tgH_0 (T := T) (h := h) (L := L)) hf
    have ad : ∀ h : IH, dAdd (.str (txt T.sig e.2)) (.str [cc]) h = .ok (.str (txt T.sig (e.2 ++ [j]))) h := fun h => by
      rw [txt_snoc, hcc]
      exact ad_str (by unfold txt; rw [List.length_map, List.length_singleton]; omega) h
    have pt := putDD_dW (g := fun w => .str (txt T.sig w)) (w := e.2 ++ [j]) (tgH_0 (T := T) (h := h) (L := L)) q (by omega)
    generalize hH2 : (tgH T h L).set h.length (dW (fun w => .str (txt T.sig w)) (L ++ [(pdl T U e.1 j, e.2 ++ [j])])) = H2 at *
    have g1 : H2[h.length + 1]? = some (.lst (L.map fun e => tP2 e.1)) := by
      rw [← hH2, List.getElem?_set_ne (by omega)]
      exact tgH_1
    have ty := tyD_ref g1
    have ap : fAppend (.ref (h.length + 1)) [tP2 (pdl T U e.1 j)] H2 = .ok .non (tgH T h (L ++ [(pdl T U e.1 j, e.2 ++ [j])])) := by
      rw [append_at g1 (by rw [List.length_map]; omega), ← hH2]
      unfold tgH
      rw [set_app0, set_app, List.map_append]
      rfl
    generalize tgH T h (L ++ [(pdl T U e.1 j, e.2 ++ [j])]) = H3 at *
    generalize tgH T h L = H at *
    generalize tP2 (pdl T U e.1 j) = A at *
    generalize tP2 e.1 = B at *
    generalize txt T.sig (e.2 ++ [j]) = S2 at *
    generalize txt T.sig e.2 = S1 at *
    simp [di, ix, gt, ad, pt, ty, ap]
def enS (t : List Nat) (j : Nat) : List D := ((List.range t.length).drop j).map fun i => D.tup [.int (i : Nat), .str [t.getD i 0]]
theorem bfAdd_get {p : Nat × Nat} {w : List Nat} {k : Nat} {e : Ent} (hk : L[k]? = some e) : (bfAdd p w L)[k]? = some e := by
  obtain ⟨t, ht⟩ := bfAdd_pre (x := p) (w := w) (L := L)
  rw [← ht, List.getElem?_append_left (List.getElem?_eq_some_iff.mp hk).1]
  exact hk
theorem bfAdd_fnd {p q : Nat × Nat} {w : List Nat} {e : Ent} (hk : fndE L q = some e) : fndE (bfAdd p w L) q = some e := by
  obtain ⟨t, ht⟩ := bfAdd_pre (x := p) (w := w) (L := L)
  unfold fndE at *
  rw [← ht, List.find?_append, hk]
  rfl
theorem tog_row (W : Two T U) {e : Ent} {k : Nat} (hp : Rm T U e.1) (wl : e.2.length ≤ 2000) : ∀ (n j : Nat) (L : List Ent) (x7 x8 x9 : Option D), L[k]? = some e → fndE L e.1 = some e → j + n = T.sig.length → L.length + n ≤ 5000 →
    ∃ y7 y8 y9, forL (gSets [7, 8]) b_together_1 (enS T.sig j) [some T.enc, some U.enc, some (.ref h.length), some (.ref (h.length + 1)), some (.int (k : Nat)), some (.int (e.1.1 : Nat)), some (.int (e.1.2 : Nat)), x7, x8, x9] (tgH T h L) = .nx [some T.enc, some U.enc, some (.ref h.length), some (.ref (h.length + 1)), some (.int (k : Nat)), some (.int (e.1.1 : Nat)), some (.int (e.1.2 : Nat)), y7, y8, y9] (tgH T h (bfRow (pdl T U) e ((List.range T.sig.length).drop j) L))
  | 0, j, L, x7, x8, x9, _, _, jn, _ => by
    unfold enS
    rw [List.drop_of_length_le (by rw [List.length_range]; omega)]
    exact ⟨x7, x8, x9, rfl⟩
  | n + 1, j, L, x7, x8, x9, hk, hf, jn, ll => by
    obtain ⟨y9, e1⟩ := tog_turn (h := h) (L := L) W hk hf hp (j := j) (by omega) wl (by omega) x9
    have al := bfAdd_len (p := pdl T U e.1 j) (w := e.2 ++ [j]) (L := L)
    obtain ⟨z7, z8, z9, e2⟩ := tog_row W hp wl n (j + 1) (bfAdd (pdl T U e.1 j) (e.2 ++ [j]) L) (some (.int (j : Nat))) (some (.str [T.sig.getD j 0])) y9 (bfAdd_get hk) (bfAdd_fnd hf) (by omega) (by omega)
    refine ⟨z7, z8, z9, ?_⟩
    have es : enS T.sig j = D.tup [.int (j : Nat), .str [T.sig.getD j 0]] :: enS T.sig (j + 1) := by
      unfold enS
      rw [range_drop (m := T.sig.length) (j := j) (by omega), List.map_cons]
    rw [es, forL_cons (e1 := [some T.enc, some U.enc, some (.ref h.length), some (.ref (h.length + 1)), some (.int (k : Nat)), some (.int (e.1.1 : Nat)), some (.int (e.1.2 : Nat)), some (.int (j : Nat)), some (.str [T.sig.getD j 0]), x9]) rfl, e1, on_nx, e2, range_drop (m := T.sig.length) (j := j) (by omega)]
    rfl
theorem tog_call (W : Two T U) (h : IH) : callC 2 m_together [T.enc, U.enc] h = .ok (.ref h.length) (tgH T h (PL T U)) := by
  have sl : ∀ h : IH, bLen [.str T.sig] h = .ok (.int (T.sig.length : Nat)) h := fun h => bLen_str (by have := W.a.tg.l2; omega)
  obtain ⟨m, _, _, e, ⟨k, x5, x6, x7, x8, x9, rfl, rfl, hk, rfl⟩, e2⟩ := while_nx (c := t_together_2) (s := b_together_3) (fun m env h' => ∃ (k : Nat) (x5 x6 x7 x8 x9 : Option D), env = [some T.enc, some U.enc, some (.ref h.length), some (.ref (h.length + 1)), some (.int (k : Nat)), x5, x6, x7, x8, x9] ∧ h' = tgH T h (bfP T U k) ∧ k ≤ 1024 ∧ m = 1024 - k) 1024 [some T.enc, some U.enc, some (.ref h.length), some (.ref (h.length + 1)), some (.int 0), none, none, none, none, none] (tgH T h (bfP T U 0)) ⟨0, none, none, none, none, none, rfl, rfl, by omega, by omega⟩ (by
    rintro m _ _ ⟨k, x5, x6, x7, x8, x9, rfl, rfl, hk, rfl⟩
    have bl : bLen [.ref (h.length + 1)] (tgH T h (bfP T U k)) = .ok (.int ((bfP T U k).length : Nat)) (tgH T h (bfP T U k)) := by
      rw [bLen_ref tgH_1, List.length_map]
    have ll := W.len k
    by_cases q : k < (bfP T U k).length
    · refine .inl ?_
      have he : (bfP T U k)[k]? = some (bfP T U k)[k] := List.getElem?_eq_getElem q
      have hm := List.getElem_mem q
      generalize (bfP T U k)[k] = en at he hm
      obtain ⟨y7, y8, y9, er⟩ := tog_row (h := h) W (W.rm hm) (Nat.le_trans (bfs_wl k en hm) (by omega)) (k := k) T.sig.length 0 (bfP T U k) x7 x8 x9 he (fndE_mem (bfP_I T U k).nd hm) (by omega) (by have := W.a.tg.l2; omega)
      rw [List.drop_zero, ← bfP_next he] at er
      have ix : dIx (.ref (h.length + 1)) (.int (k : Nat)) (tgH T h (bfP T U k)) = .ok (.tup [.int (en.1.1 : Nat), .int (en.1.2 : Nat)]) (tgH T h (bfP T U k)) := dIx_nat (seqOf_ref tgH_1) (by rw [List.getElem?_map, he]; rfl)
      refine ⟨[some T.enc, some U.enc, some (.ref h.length), some (.ref (h.length + 1)), some (.int ((k + 1 : Nat) : Int)), some (.int (en.1.1 : Nat)), some (.int (en.1.2 : Nat)), y7, y8, y9], tgH T h (bfP T U (k + 1)), by unfold t_together_2; simp [bl, q], ?_, 1024 - (k + 1), by omega, k + 1, _, _, y7, y8, y9, rfl, rfl, by omega, rfl⟩
      unfold b_together_3
      refine stS (env2 := [some T.enc, some U.enc, some (.ref h.length), some (.ref (h.length + 1)), some (.int (k : Nat)), some (.int (en.1.1 : Nat)), some (.int (en.1.2 : Nat)), x7, x8, x9]) (h2 := tgH T h (bfP T U k)) (by
        generalize tgH T h (bfP T U k) = H at *
        simp [ix, gSets]) ?_
      refine stS (env2 := [some T.enc, some U.enc, some (.ref h.length), some (.ref (h.length + 1)), some (.int (k : Nat)), some (.int (en.1.1 : Nat)), some (.int (en.1.2 : Nat)), y7, y8, y9]) (h2 := tgH T h (bfP T U (k + 1))) ?_ (by simp)
      rw [for_st (ds := enS T.sig 0) (h2 := tgH T h (bfP T U k)) (by
        generalize tgH T h (bfP T U k) = H at *
        simp [iEnum, stOf, tT0]
        apply List.ext_getElem?
        intro i
        unfold enS
        rw [List.drop_zero, List.getElem?_map, List.getElem?_mapIdx, List.getElem?_map]
        by_cases c : i < T.sig.length
        · have g : T.sig.getD i 0 = T.sig[i] := by rw [List.getD_eq_getElem?_getD, List.getElem?_eq_getElem c]; rfl
          rw [List.getElem?_range c, List.getElem?_eq_getElem c]
          simp only [Option.map_some]
          rw [g]
        · have z1 : T.sig[i]? = none := List.getElem?_eq_none (by omega)
          have z2 : (List.range T.sig.length)[i]? = none := List.getElem?_eq_none (by rw [List.length_range]; omega)
          rw [z1, z2]
          rfl)]
      exact er
    · refine .inr ?_
      unfold t_together_2
      simp [bl, q])
  have bl : bLen [.ref (h.length + 1)] (tgH T h (bfP T U k)) = .ok (.int ((bfP T U k).length : Nat)) (tgH T h (bfP T U k)) := by
    rw [bLen_ref tgH_1, List.length_map]
  have ge : (bfP T U k).length ≤ k := by
    revert e2
    unfold t_together_2
    simp [bl]
  have pl := W.stop hk ge
  have md : mDictP (mTup (mCons (mC (.int 0)) (mCons (mC (.int 0)) (mNil)))) (mC (.str [])) [some T.enc, some U.enc, none, none, none, none, none, none, none, none] h = .ok (.ref h.length) (h ++ [.dt [([.inl 0, .inl 0], .str [])]]) := by
    rw [ap_mDictP]
    have kt : keyT? (.tup [.int 0, .int 0]) = some [.inl 0, .inl 0] := rfl
    simp only [ap_mTup, ap_mCons, ap_mNil, ap_mC, bind_ok]
    rw [if_pos (by simp)]
    simp only [bind_ok]
    rw [kt]
    simp
  refine callC_new rfl ?_ (Nat.le_refl _)
  unfold m_together
  rw [ap_fnM]
  simp only [List.map_cons, List.map_nil, List.length_cons, List.length_nil, List.cons_append, List.nil_append, Nat.reduceAdd, Nat.reduceSub, List.replicate]
  refine stN (env2 := [some T.enc, some U.enc, some (.ref h.length), none, none, none, none, none, none, none]) (h2 := h ++ [.dt [([.inl 0, .inl 0], .str [])]]) (by rw [ap_msSet, md, bindS_ok]; rfl) ?_
  refine stN (env2 := [some T.enc, some U.enc, some (.ref h.length), some (.ref (h.length + 1)), none, none, none, none, none, none]) (h2 := tgH T h (bfP T U 0)) (by simp [newL]; rfl) ?_
  refine stN (env2 := [some T.enc, some U.enc, some (.ref h.length), some (.ref (h.length + 1)), some (.int 0), none, none, none, none, none]) (h2 := tgH T h (bfP T U 0)) (by simp) ?_
  refine stN e ?_
  rw [pl]
  have g0 := tgH_0 (T := T) (h := h) (L := bfP T U k)
  unfold msFz
  generalize tgH T h (bfP T U k) = H at *
  simp [g0, dW]
/-! the first of unlike marks -/
def fstP (T U : Tb) (K M : List Int) : Option (List Nat) := ((PL T U).find? fun e => !decide (K.getD e.1.1 0 = M.getD e.1.2 0)).map (·.2)
def wD (t : List Nat) : Option (List Nat) → D
  | none => .non
  | some w => .str (txt t w)
theorem fpt_loop {K M : List Int} : ∀ (L : List Ent) (x4 x5 : Option D), (∀ e ∈ L, e.1.1 < K.length ∧ e.1.2 < M.length) →
    ((forL (gSets [4, 5]) b_first_parted_1 (L.map (eDW T.sig)) [some T.enc, some U.enc, some (.tup (K.map D.int)), some (.tup (M.map D.int)), x4, x5] h).then (msRet (mC .non))).fin = .ok (wD T.sig ((L.find? fun e => !decide (K.getD e.1.1 0 = M.getD e.1.2 0)).map (·.2))) h
  | [], x4, x5, _ => by
    show ((forL _ _ [] _ _).then _).fin = _
    simp [wD]
  | e :: L, x4, x5, hl => by
    have ih := fpt_loop (K := K) (M := M) L (some (tP2 e.1)) (some (.str (txt T.sig e.2))) fun x hx => hl x (List.mem_cons_of_mem _ hx)
    obtain ⟨l1, l2⟩ := hl e List.mem_cons_self
    have p0 : ∀ h : IH, dIx (tP2 e.1) (.int 0) h = .ok (.int (e.1.1 : Nat)) h := fun h => dIx_seq (xs := [.int (e.1.1 : Nat), .int (e.1.2 : Nat)]) rfl (by omega) rfl
    have p1 : ∀ h : IH, dIx (tP2 e.1) (.int 1) h = .ok (.int (e.1.2 : Nat)) h := fun h => dIx_seq (xs := [.int (e.1.1 : Nat), .int (e.1.2 : Nat)]) rfl (by omega) rfl
    have k1 : ∀ h : IH, dIx (.tup (K.map D.int)) (.int (e.1.1 : Nat)) h = .ok (.int (K.getD e.1.1 0)) h := fun h => dIx_nat (xs := K.map D.int) rfl (by rw [List.getElem?_map, List.getD_eq_getElem?_getD, List.getElem?_eq_getElem l1]; rfl)
    have k2 : ∀ h : IH, dIx (.tup (M.map D.int)) (.int (e.1.2 : Nat)) h = .ok (.int (M.getD e.1.2 0)) h := fun h => dIx_nat (xs := M.map D.int) rfl (by rw [List.getElem?_map, List.getD_eq_getElem?_getD, List.getElem?_eq_getElem l2]; rfl)
    rw [List.map_cons, forL_cons (e1 := [some T.enc, some U.enc, some (.tup (K.map D.int)), some (.tup (M.map D.int)), some (tP2 e.1), some (.str (txt T.sig e.2))]) rfl, List.find?_cons]
    generalize K.getD e.1.1 0 = a at *
    generalize M.getD e.1.2 0 = b at *
    generalize K.map D.int = KD at *
    generalize M.map D.int = MD at *
    by_cases q : a = b
    · have ev : b_first_parted_1 [some T.enc, some U.enc, some (.tup KD), some (.tup MD), some (tP2 e.1), some (.str (txt T.sig e.2))] h = .nx [some T.enc, some U.enc, some (.tup KD), some (.tup MD), some (tP2 e.1), some (.str (txt T.sig e.2))] h := by
        unfold b_first_parted_1
        generalize tP2 e.1 = P at *
        simp [p0, p1, k1, k2, q]
      rw [ev, on_nx, ih]
      simp [q]
    · have ev : b_first_parted_1 [some T.enc, some U.enc, some (.tup KD), some (.tup MD), some (tP2 e.1), some (.str (txt T.sig e.2))] h = .rt (.str (txt T.sig e.2)) h := by
        unfold b_first_parted_1
        generalize tP2 e.1 = P at *
        simp [p0, p1, k1, k2, q]
      rw [ev]
      simp [q, wD]
theorem fpt_call (W : Two T U) {K M : List Int} (kl : K.length = T.goes.length) (ml : M.length = U.goes.length) (h : IH) : callC 4 m_first_parted [T.enc, U.enc, .tup (K.map D.int), .tup (M.map D.int)] h = .ok (wD T.sig (fstP T U K M)) h := by
  refine callC_same rfl ?_
  have lp := fpt_loop (T := T) (U := U) (h := h) (K := K) (M := M) (PL T U) none none fun e he => by
    have := W.rm (k := 1024) he
    exact ⟨by rw [kl]; exact this.1, by rw [ml]; exact this.2⟩
  have it : iItemsT (mCall 2 (m_together) (mCons (mVar 0) (mCons (mVar 1) (mNil)))) [some T.enc, some U.enc, some (.tup (K.map D.int)), some (.tup (M.map D.int)), none, none] h = .ok (.st ((PL T U).map (eDW T.sig))) h := by
    have ev : (mCall 2 (m_together) (mCons (mVar 0) (mCons (mVar 1) (mNil)))) [some T.enc, some U.enc, some (.tup (K.map D.int)), some (.tup (M.map D.int)), none, none] h = .ok (.ref h.length) (tgH T h (PL T U)) := by
      generalize K.map D.int = KD at *
      generalize M.map D.int = MD at *
      simp [tog_call W h]
    unfold iItemsT
    rw [ev]
    dsimp only
    rw [tgH_0]
    unfold dW
    dsimp only
    rw [if_pos ⟨Nat.le_refl _, loL_of fun y hy => by
      obtain ⟨p, hp, rfl⟩ := List.mem_map.mp hy
      obtain ⟨e, he, rfl⟩ := List.mem_map.mp hp
      rfl, by unfold tgH; simp⟩, List.map_map]
    unfold tgH
    rw [List.take_left]
    rfl
  unfold m_first_parted
  rw [ap_fnM]
  simp only [List.map_cons, List.map_nil, List.length_cons, List.length_nil, List.cons_append, List.nil_append, Nat.reduceAdd, Nat.reduceSub, List.replicate]
  rw [ap_msCons, for_st it]
  exact lp
end
end NR

set_option Elab.async false
set_option linter.all false
set_option maxRecDepth 100000
set_option maxHeartbeats 4000000
namespace NR
open PySem PySem.Spec PyProof.Rows L2
/-- what is no text of the tongue -/
def NoTx (t : List Nat) (h : IH) (x : D) : Prop := (∃ s, x = .str s ∧ s.length ≤ 1000 ∧ ∃ k ∈ s, k ∉ t) ∨ isT "str" h x = some false
end NR

set_option Elab.async false
set_option linter.all false
set_option maxRecDepth 100000
set_option maxHeartbeats 4000000
namespace NR
open PySem PySem.Spec PyProof.Rows L2
/-- the longest stretch with a kind, gone on from a room -/
def Tb.pieceGo (T : Tb) : Nat → Nat → Option (Int × Nat) → List Nat → Option (Int × Nat)
  | _, _, f, [] => f
  | r, p, f, c :: cs => T.pieceGo (T.go r c) (p + 1) (if 0 ≤ T.kind (T.go r c) then some (T.kind (T.go r c), p + 1) else f) cs
def Tb.first (T : Tb) (s : List Nat) (at_ : Nat) : Option (Int × Nat) := T.pieceGo 0 at_ none (s.drop at_)
def oD : Option (Int × Nat) → D
  | none => .non
  | some (k, e) => .tup [.int k, .int (e : Nat)]
@[simp] theorem lo_oD {n : Nat} {o : Option (Int × Nat)} : D.lo n (oD o) = true := by
  cases o <;> simp [oD]
end NR

set_option Elab.async false
set_option linter.all false
set_option maxRecDepth 100000
set_option maxHeartbeats 4000000
namespace NR
open PySem PySem.Spec PyProof.Rows L2
/-! ### cuts -/
theorem pieceGo_end {T : Tb} : ∀ {s : List Nat} {r p : Nat} {f : Option (Int × Nat)} {k : Int} {e : Nat}, T.pieceGo r p f s = some (k, e) → f = some (k, e) ∨ (p < e ∧ e ≤ p + s.length ∧ 0 ≤ k)
  | [], _, _, _, _, _, h => .inl h
  | c :: s, r, p, f, k, e, h => by
    unfold Tb.pieceGo at h
    rcases pieceGo_end h with h | ⟨h1, h2, h3⟩
    · split at h
      · cases h
        exact .inr ⟨by omega, by simp, by assumption⟩
      · exact .inl h
    · exact .inr ⟨by omega, by simp; omega, h3⟩
theorem first_end {T : Tb} {s : List Nat} {p : Nat} {k : Int} {e : Nat} (h : T.first s p = some (k, e)) (hp : p ≤ s.length) : p < e ∧ e ≤ s.length ∧ 0 ≤ k := by
  unfold Tb.first at h
  rcases pieceGo_end h with h | ⟨h1, h2, h3⟩
  · cases h
  · rw [List.length_drop] at h2
    exact ⟨h1, by omega, h3⟩
theorem first_over {T : Tb} {s : List Nat} {p : Nat} (hp : s.length ≤ p) : T.first s p = none := by
  unfold Tb.first
  rw [List.drop_eq_nil_of_le hp]
  rfl
def Tb.cutGo (T : Tb) (s : List Nat) : Nat → Nat → List (Int × Nat × Nat) × Nat
  | 0, p => ([], p)
  | n + 1, p => match T.first s p with
    | none => ([], p)
    | some (k, e) => ((k, p, e) :: (T.cutGo s n e).1, (T.cutGo s n e).2)
def Tb.cutFrom (T : Tb) (s : List Nat) (p : Nat) : List (Int × Nat × Nat) × Nat := T.cutGo s (s.length - p) p
theorem cutGo_more {T : Tb} {s : List Nat} : ∀ {n m p : Nat}, s.length - p ≤ n → s.length - p ≤ m → p ≤ s.length → T.cutGo s n p = T.cutGo s m p
  | 0, 0, _, _, _, _ => rfl
  | 0, m + 1, p, h1, h2, h3 => by
    unfold Tb.cutGo
    rw [first_over (by omega)]
  | n + 1, 0, p, h1, h2, h3 => by
    unfold Tb.cutGo
    rw [first_over (by omega)]
  | n + 1, m + 1, p, h1, h2, h3 => by
    unfold Tb.cutGo
    cases e : T.first s p with
    | none => rfl
    | some q =>
      obtain ⟨k, e'⟩ := q
      obtain ⟨a1, a2, _⟩ := first_end e h3
      dsimp only
      rw [cutGo_more (n := n) (m := m) (p := e') (by omega) (by omega) a2]
theorem cutFrom_none {T : Tb} {s : List Nat} {p : Nat} (h : T.first s p = none) : T.cutFrom s p = ([], p) := by
  unfold Tb.cutFrom
  cases s.length - p with
  | zero => rfl
  | succ n => unfold Tb.cutGo; rw [h]
theorem cutFrom_some {T : Tb} {s : List Nat} {p : Nat} {k : Int} {e : Nat} (h : T.first s p = some (k, e)) (hp : p ≤ s.length) : T.cutFrom s p = ((k, p, e) :: (T.cutFrom s e).1, (T.cutFrom s e).2) := by
  obtain ⟨a1, a2, _⟩ := first_end h hp
  unfold Tb.cutFrom
  rw [show s.length - p = (s.length - p - 1) + 1 by omega]
  conv => lhs; unfold Tb.cutGo
  rw [h]
  dsimp only
  rw [cutGo_more (n := s.length - p - 1) (m := s.length - e) (by omega) (by omega) a2]
theorem cutFrom_len {T : Tb} {s : List Nat} : ∀ {n p : Nat}, s.length - p ≤ n → p ≤ s.length → (T.cutFrom s p).1.length ≤ s.length - p ∧ (T.cutFrom s p).2 ≤ s.length
  | 0, p, h1, h2 => by
    rw [cutFrom_none (first_over (by omega))]
    simp [h2]
  | n + 1, p, h1, h2 => by
    cases e : T.first s p with
    | none => rw [cutFrom_none e]; simp [h2]
    | some q =>
      obtain ⟨k, e'⟩ := q
      obtain ⟨a1, a2, _⟩ := first_end e h2
      rw [cutFrom_some e h2]
      have := cutFrom_len (T := T) (s := s) (n := n) (p := e') (by omega) a2
      simp
      omega
def pcD (q : Int × Nat × Nat) : D := .tup [.int q.1, .int (q.2.1 : Nat), .int (q.2.2 : Nat)]
@[simp] theorem lo_pcD {n : Nat} {q : Int × Nat × Nat} : D.lo n (pcD q) = true := by simp [pcD]
@[simp] theorem oD_none : oD none = .non := rfl
@[simp] theorem oD_some {k : Int} {e : Nat} : oD (some (k, e)) = .tup [.int k, .int (e : Nat)] := rfl
end NR

set_option Elab.async false
set_option linter.all false
set_option maxRecDepth 100000
set_option maxHeartbeats 4000000
namespace NR
open PySem PySem.Spec PyProof.Rows L2
end NR

set_option Elab.async false
set_option linter.all false
set_option maxRecDepth 100000
set_option maxHeartbeats 4000000
namespace NR
open PySem PySem.Spec PyProof.Rows L2
/-! ### which of two words is ahead -/
theorem fnd_inj {t : List Nat} {a b i : Nat} (e1 : fnd a t = some i) (e2 : fnd b t = some i) : a = b := by
  have h1 := (fnd_some.mp e1).1
  have h2 := (fnd_some.mp e2).1
  rw [h1] at h2
  exact Option.some.inj h2
def fxi (t : List Nat) (c : Nat) : Int := match fnd c t with
  | some i => (i : Int)
  | none => -1
theorem fFind_fxi {t : List Nat} {c : Nat} (h : IH) : fFind (.str t) [.str [c]] h = .ok (.int (fxi t c)) h := rfl
theorem fxi_inj {t : List Nat} {a b : Nat} (ha : a ∈ t) (hb : b ∈ t) (e : fxi t a = fxi t b) : a = b := by
  unfold fxi at e
  cases e1 : fnd a t with
  | none => exact absurd ha (fnd_none.mp e1)
  | some i =>
    cases e2 : fnd b t with
    | none => exact absurd hb (fnd_none.mp e2)
    | some j =>
      rw [e1, e2] at e
      have : (i : Int) = (j : Nat) := e
      have : i = j := by omega
      subst this
      exact fnd_inj e1 e2
theorem fxl_inj {t : List Nat} : ∀ {a b : List Nat}, (∀ c ∈ a, c ∈ t) → (∀ c ∈ b, c ∈ t) → a.map (fxi t) = b.map (fxi t) → a = b
  | [], [], _, _, _ => rfl
  | [], _ :: _, _, _, e => by cases e
  | _ :: _, [], _, _, e => by cases e
  | x :: a, y :: b, ha, hb, e => by
    rw [List.map_cons, List.map_cons, List.cons.injEq] at e
    rw [fxi_inj (ha x List.mem_cons_self) (hb y List.mem_cons_self) e.1, fxl_inj (fun c hc => ha c (List.mem_cons_of_mem _ hc)) (fun c hc => hb c (List.mem_cons_of_mem _ hc)) e.2]
/-- shorter ones first, those of like lengths by places -/
def ahd (t a b : List Nat) : Bool := if a.length = b.length then HT.lexLt (a.map (fxi t)) (b.map (fxi t)) else decide (a.length < b.length)
theorem lex_tri : ∀ (xs ys : List Int), xs.length = ys.length → (HT.lexLt xs ys && HT.lexLt ys xs) = false ∧ ((HT.lexLt xs ys || HT.lexLt ys xs) = true ↔ xs ≠ ys)
  | [], [], _ => by simp [HT.lexLt]
  | [], _ :: _, e => by cases e
  | _ :: _, [], e => by cases e
  | x :: xs, y :: ys, e => by
    have ih := lex_tri xs ys (by simpa using e)
    rw [HT.lexLt_cons, HT.lexLt_cons]
    by_cases q : x = y
    · subst q
      rw [if_pos rfl, if_pos rfl]
      refine ⟨ih.1, ih.2.trans ?_⟩
      simp
    · rw [if_neg q, if_neg (fun z => q z.symm)]
      rcases Int.lt_or_gt_of_ne q with l | l
      · have : ¬ y < x := by omega
        simp [l, this, q]
      · have : ¬ x < y := by omega
        have l' : y < x := l
        simp [l', this, q]
theorem ahd_not {t a b : List Nat} : (ahd t a b && ahd t b a) = false := by
  unfold ahd
  by_cases q : a.length = b.length
  · rw [if_pos q, if_pos q.symm]
    exact (lex_tri _ _ (by simpa using q)).1
  · rw [if_neg q, if_neg (fun z => q z.symm)]
    rw [Bool.and_eq_false_iff, decide_eq_false_iff_not, decide_eq_false_iff_not]
    omega
theorem ahd_or {t a b : List Nat} (ha : ∀ c ∈ a, c ∈ t) (hb : ∀ c ∈ b, c ∈ t) : (ahd t a b || ahd t b a) = true ↔ a ≠ b := by
  unfold ahd
  by_cases q : a.length = b.length
  · rw [if_pos q, if_pos q.symm]
    refine (lex_tri _ _ (by simpa using q)).2.trans (not_congr ⟨fxl_inj ha hb, fun e => by rw [e]⟩)
  · rw [if_neg q, if_neg (fun z => q z.symm)]
    rw [Bool.or_eq_true, decide_eq_true_eq, decide_eq_true_eq]
    constructor
    · intro _ e
      exact q (by rw [e])
    · intro _
      omega
def z2 (p : Nat × Nat) : D := .tup [.str [p.1], .str [p.2]]
theorem zip_strs : ∀ (a b : List Nat), List.zipWith (fun x y : D => D.tup [x, y]) (a.map fun c => .str [c]) (b.map fun c => .str [c]) = (a.zip b).map z2
  | [], _ => rfl
  | _ :: _, [] => rfl
  | c :: a, d :: b => by
    have := zip_strs a b
    simp [this, z2]
end NR

set_option Elab.async false
set_option linter.all false
set_option maxRecDepth 100000
set_option maxHeartbeats 4000000
namespace NR
open PySem PySem.Spec PyProof.Rows L2
/-! ### rooms of words, cuts of two tables (plain) -/
def Tb.rw (T : Tb) : Nat → List Nat → Nat
  | r, [] => r
  | r, j :: w => T.rw ((T.goes.getD r []).getD j 0) w
def Val (T : Tb) (w : List Nat) : Prop := ∀ i ∈ w, i < T.sig.length
section
variable {T U : Tb}
theorem runW_pair : ∀ (w : List Nat) (p : Nat × Nat), runW (pdl T U) p w = (T.rw p.1 w, U.rw p.2 w)
  | [], p => rfl
  | j :: w, p => runW_pair w (pdl T U p j)
theorem rw_app : ∀ (u w : List Nat) (r : Nat), T.rw r (u ++ w) = T.rw (T.rw r u) w
  | [], w, r => rfl
  | j :: u, w, r => rw_app u w _
theorem rw_lt (ok : T.Ok) : ∀ (w : List Nat) (r : Nat), r < T.goes.length → Val T w → T.rw r w < T.goes.length
  | [], r, hr, _ => hr
  | j :: w, r, hr, hw => rw_lt ok w _ (go_lt ok hr (hw j List.mem_cons_self)) fun x hx => hw x (List.mem_cons_of_mem _ hx)
theorem fnd_at {t : List Nat} (nd : t.Nodup) {j : Nat} (hj : j < t.length) : fnd (t.getD j 0) t = some j := by
  rw [List.getD_eq_getElem?_getD, List.getElem?_eq_getElem hj]
  show fnd t[j] t = _
  rw [fnd_some]
  refine ⟨List.getElem?_eq_getElem hj, fun k hk z => ?_⟩
  rw [List.getElem?_eq_getElem (by omega)] at z
  have z := Option.some.inj z
  have i0 := nd.idxOf_getElem k (by omega)
  have i1 := nd.idxOf_getElem j hj
  rw [z, i1] at i0
  omega
theorem go_at (ok : T.Ok) {r j : Nat} (hj : j < T.sig.length) : T.go r (T.sig.getD j 0) = (T.goes.getD r []).getD j 0 := by
  unfold Tb.go
  rw [fnd_at ok.tg.nd hj]
  rfl
theorem kind_at (ok : T.Ok) {r : Nat} (hr : r < T.goes.length) : T.kinds.getD r 0 = T.kind r := by
  have := ok.kl
  unfold Tb.kind
  rw [List.getD_eq_getElem?_getD, List.getD_eq_getElem?_getD, List.getElem?_eq_getElem (by omega)]
  rfl
/-- the kinds of a word -/
def Agr (T U : Tb) (w : List Nat) : Prop := T.kind (T.rw 0 w) = U.kind (U.rw 0 w)
instance {w : List Nat} : Decidable (Agr T U w) := inferInstanceAs (Decidable (T.kind (T.rw 0 w) = U.kind (U.rw 0 w)))
theorem PL_I (T U : Tb) : BI (pdl T U) T.sig.length (0, 0) (PL T U) 1024 0 := bfP_I T U 1024
theorem PL_wl {e : Ent} (he : e ∈ PL T U) : e.2.length ≤ 1024 := bfs_wl (δ := pdl T U) (m := T.sig.length) (s0 := (0, 0)) 1024 e he
theorem Two.pl_len (W : Two T U) : (PL T U).length ≤ 1024 := W.len 1024
theorem Two.pl_rm (W : Two T U) {e : Ent} (he : e ∈ PL T U) : Rm T U e.1 := W.rm (k := 1024) he
theorem PL_swap1 {T U : Tb} (h : bfP U T 1024 = (bfP T U 1024).map fun x => ((x.1.2, x.1.1), x.2)) : PL U T = (PL T U).map fun x => ((x.1.2, x.1.1), x.2) := h
theorem Two.val (W : Two T U) {w : List Nat} (v : Val T w) : Val U w := fun i hi => by rw [W.s]; exact v i hi
theorem Two.least (W : Two T U) {w : List Nat} (v : Val T w) : ∃ e ∈ PL T U, e.1 = (T.rw 0 w, U.rw 0 w) ∧ sleW e.2 w := by
  obtain ⟨e, he, e1, e2⟩ := (PL_I T U).least W.pl_len w.length w rfl v
  rw [runW_pair] at e1
  exact ⟨e, he, e1, e2⟩
theorem Two.ent (W : Two T U) {e : Ent} (he : e ∈ PL T U) : e.1 = (T.rw 0 e.2, U.rw 0 e.2) ∧ Val T e.2 := by
  obtain ⟨r1, r2⟩ := (PL_I T U).run e he
  rw [runW_pair] at r1
  exact ⟨r1, r2⟩
theorem Two.mark (W : Two T U) {e : Ent} (he : e ∈ PL T U) : decide (T.kinds.getD e.1.1 0 = U.kinds.getD e.1.2 0) = decide (Agr T U e.2) := by
  have rm := W.pl_rm he
  rw [kind_at W.a rm.1, kind_at W.b rm.2]
  obtain ⟨r1, _⟩ := W.ent he
  unfold Agr
  rw [r1]
  rfl
theorem Two.fst_none (W : Two T U) (h : fstP T U T.kinds U.kinds = none) {w : List Nat} (v : Val T w) : Agr T U w := by
  unfold fstP at h
  rw [Option.map_eq_none_iff, List.find?_eq_none] at h
  obtain ⟨e, he, e1, _⟩ := W.least v
  have := h e he
  rw [W.mark he] at this
  have ag : Agr T U e.2 := by simpa using this
  obtain ⟨r1, _⟩ := W.ent he
  rw [e1] at r1
  unfold Agr at *
  have a1 := congrArg Prod.fst r1
  have a2 := congrArg Prod.snd r1
  dsimp only at a1 a2
  rw [a1, a2]
  exact ag
theorem Two.fst_some (W : Two T U) {w : List Nat} (h : fstP T U T.kinds U.kinds = some w) : Val T w ∧ ¬ Agr T U w ∧ w.length ≤ 1024 ∧ ∀ u, Val T u → sltW u w → Agr T U u := by
  unfold fstP at h
  rw [Option.map_eq_some_iff] at h
  obtain ⟨e, he, rfl⟩ := h
  obtain ⟨e1, as, bs, eL, hb⟩ := List.find?_eq_some_iff_append.mp he
  have hm : e ∈ PL T U := by rw [eL]; simp
  obtain ⟨r1, v1⟩ := W.ent hm
  refine ⟨v1, ?_, PL_wl hm, fun u vu su => ?_⟩
  · rw [W.mark hm] at e1
    simpa using e1
  · obtain ⟨f, hf, f1, f2⟩ := W.least vu
    have lt := sle_slt f2 su
    have fa : f ∈ as := by
      have hf' := hf
      rw [eL] at hf'
      rcases List.mem_append.mp hf' with z | z
      · exact z
      · have srt := (PL_I T U).srt
        rw [eL, List.pairwise_append] at srt
        rcases List.mem_cons.mp z with rfl | z
        · exact absurd lt sltW_irr
        · have := (List.pairwise_cons.mp srt.2.1).1 f z
          exact absurd (sltW_trans lt this) sltW_irr
    have := hb f fa
    rw [W.mark hf] at this
    have ag : Agr T U f.2 := by simpa using this
    obtain ⟨r1, _⟩ := W.ent hf
    rw [f1] at r1
    unfold Agr at *
    have a1 := congrArg Prod.fst r1
    have a2 := congrArg Prod.snd r1
    dsimp only at a1 a2
    rw [a1, a2]
    exact ag
/-! pieces -/
theorem piece_same (W : Two T U) : ∀ (w u : List Nat) (p : Nat) (f : Option (Int × Nat)), Val T w → (∀ b, 1 ≤ b → b ≤ w.length → Agr T U (u ++ w.take b)) → T.pieceGo (T.rw 0 u) p f (txt T.sig w) = U.pieceGo (U.rw 0 u) p f (txt T.sig w)
  | [], u, p, f, _, _ => rfl
  | j :: w, u, p, f, v, h => by
    have hj := v j List.mem_cons_self
    have ih := piece_same W w (u ++ [j]) (p + 1) (if 0 ≤ T.kind (T.rw 0 (u ++ [j])) then some (T.kind (T.rw 0 (u ++ [j])), p + 1) else f) (fun x hx => v x (List.mem_cons_of_mem _ hx)) fun b b1 b2 => by
      have := h (b + 1) (by omega) (by rw [List.length_cons]; omega)
      rw [List.append_assoc]
      exact this
    have ag : Agr T U (u ++ [j]) := h 1 (by omega) (by rw [List.length_cons]; omega)
    have g1 : T.go (T.rw 0 u) (T.sig.getD j 0) = T.rw 0 (u ++ [j]) := by rw [go_at W.a hj, rw_app]; rfl
    have g2 : U.go (U.rw 0 u) (T.sig.getD j 0) = U.rw 0 (u ++ [j]) := by rw [← W.s, go_at W.b (by rw [W.s]; exact hj), rw_app]; rfl
    show T.pieceGo (T.rw 0 u) p f (T.sig.getD j 0 :: txt T.sig w) = U.pieceGo (U.rw 0 u) p f (T.sig.getD j 0 :: txt T.sig w)
    unfold Tb.pieceGo
    rw [g1, g2, ih]
    unfold Agr at ag
    rw [ag]
theorem piece_snoc : ∀ (s : List Nat) (c r p : Nat) (f : Option (Int × Nat)), ∃ k : Int, T.pieceGo r p f (s ++ [c]) = (if 0 ≤ k then some (k, p + s.length + 1) else T.pieceGo r p f s) ∧ k = T.kind (T.go (s.foldl T.go r) c)
  | [], c, r, p, f => ⟨_, by unfold Tb.pieceGo; rfl, rfl⟩
  | d :: s, c, r, p, f => by
    obtain ⟨k, h1, h2⟩ := piece_snoc s c (T.go r d) (p + 1) (if 0 ≤ T.kind (T.go r d) then some (T.kind (T.go r d), p + 1) else f)
    refine ⟨k, ?_, h2⟩
    rw [List.cons_append]
    unfold Tb.pieceGo
    rw [h1, List.length_cons, show p + (s.length + 1) + 1 = p + 1 + s.length + 1 by omega]
theorem fold_rw (ok : T.Ok) : ∀ (w : List Nat) (r : Nat), Val T w → (txt T.sig w).foldl T.go r = T.rw r w
  | [], r, _ => rfl
  | j :: w, r, v => by
    show (txt T.sig w).foldl T.go (T.go r (T.sig.getD j 0)) = _
    rw [go_at ok (v j List.mem_cons_self), fold_rw ok w _ fun x hx => v x (List.mem_cons_of_mem _ hx)]
    rfl
/-- each stretch agrees -/
def AgS (T U : Tb) (w : List Nat) : Prop := ∀ a b, Agr T U ((w.drop a).take b)
theorem first_same (W : Two T U) {w : List Nat} (v : Val T w) (h : AgS T U w) (p : Nat) : T.first (txt T.sig w) p = U.first (txt T.sig w) p := by
  unfold Tb.first
  have e : (txt T.sig w).drop p = txt T.sig (w.drop p) := by
    unfold txt
    rw [List.map_drop]
  rw [e]
  exact piece_same W (w.drop p) [] p none (fun x hx => v x (List.mem_of_mem_drop hx)) fun b _ _ => h p b
theorem cut_same (W : Two T U) {w : List Nat} (v : Val T w) (h : AgS T U w) : T.cutFrom (txt T.sig w) 0 = U.cutFrom (txt T.sig w) 0 := by
  have go : ∀ n p, T.cutGo (txt T.sig w) n p = U.cutGo (txt T.sig w) n p := by
    intro n
    induction n with
    | zero => intro p; rfl
    | succ n ih =>
      intro p
      unfold Tb.cutGo
      rw [first_same W v h p]
      cases U.first (txt T.sig w) p with
      | none => rfl
      | some q =>
        obtain ⟨k, e⟩ := q
        dsimp only
        rw [ih e]
  exact go _ _
theorem cut_first {s : List Nat} (h : T.cutFrom s 0 = U.cutFrom s 0) : T.first s 0 = U.first s 0 := by
  cases e1 : T.first s 0 with
  | none =>
    cases e2 : U.first s 0 with
    | none => rfl
    | some q =>
      obtain ⟨k, e⟩ := q
      rw [cutFrom_none e1, cutFrom_some e2 (Nat.zero_le _)] at h
      cases h
  | some q =>
    obtain ⟨k, e⟩ := q
    cases e2 : U.first s 0 with
    | none =>
      rw [cutFrom_none e2, cutFrom_some e1 (Nat.zero_le _)] at h
      cases h
    | some q2 =>
      obtain ⟨k2, e3⟩ := q2
      rw [cutFrom_some e1 (Nat.zero_le _), cutFrom_some e2 (Nat.zero_le _)] at h
      have := congrArg (fun x : List (Int × Nat × Nat) × Nat => x.1.head?) h
      simp only [List.head?_cons, Option.some.injEq, Prod.mk.injEq, true_and] at this
      rw [this.1, this.2]
theorem kind_ge (ok : T.Ok) {r : Nat} (hr : r < T.goes.length) : -1 ≤ T.kind r := (ok.kk _ (List.mem_of_getElem? (ok.kindAt hr))).1
theorem agr_nil (W : Two T U) : Agr T U [] := by
  have h1 := W.a.kindAt W.a.g1
  have h2 := W.b.kindAt W.b.g1
  rw [W.a.k0] at h1
  rw [W.b.k0] at h2
  show T.kind 0 = U.kind 0
  rw [← Option.some.inj h1, ← Option.some.inj h2]
theorem cut_other (W : Two T U) {w : List Nat} (v : Val T w) (na : ¬ Agr T U w) (h : ∀ u, Val T u → u.length < w.length → Agr T U u) : T.cutFrom (txt T.sig w) 0 ≠ U.cutFrom (txt T.sig w) 0 := by
  intro z
  have ef := cut_first z
  have ne : w ≠ [] := fun e => na (e ▸ agr_nil W)
  obtain ⟨u, j, rfl⟩ : ∃ u j, w = u ++ [j] := ⟨w.dropLast, w.getLast ne, (List.dropLast_concat_getLast ne).symm⟩
  have vu : Val T u := fun x hx => v x (List.mem_append_left _ hx)
  have vj : j < T.sig.length := v j (by simp)
  have wl : (u ++ [j]).length = u.length + 1 := by rw [List.length_append, List.length_singleton]
  rw [wl] at h
  have ps := piece_same W u [] 0 none vu fun b b1 b2 => h _ (fun x hx => by
    rw [List.nil_append] at hx
    exact vu x (List.mem_of_mem_take hx)) (by rw [List.nil_append, List.length_take]; omega)
  have ps : T.pieceGo 0 0 none (txt T.sig u) = U.pieceGo 0 0 none (txt T.sig u) := ps
  obtain ⟨k1, a1, a2⟩ := piece_snoc (T := T) (txt T.sig u) (T.sig.getD j 0) 0 0 none
  obtain ⟨k2, b1, b2⟩ := piece_snoc (T := U) (txt T.sig u) (T.sig.getD j 0) 0 0 none
  have r1 : k1 = T.kind (T.rw 0 (u ++ [j])) := by
    rw [a2, fold_rw W.a u 0 vu, go_at W.a vj, rw_app]
    rfl
  have r2 : k2 = U.kind (U.rw 0 (u ++ [j])) := by
    rw [b2, ← W.s, fold_rw W.b u 0 (W.val vu), go_at W.b (by rw [W.s]; exact vj), rw_app]
    rfl
  have nk : k1 ≠ k2 := by rw [r1, r2]; exact na
  have g1 : -1 ≤ k1 := by rw [r1]; exact kind_ge W.a (rw_lt W.a _ 0 W.a.g1 v)
  have g2 : -1 ≤ k2 := by rw [r2]; exact kind_ge W.b (rw_lt W.b _ 0 W.b.g1 (W.val v))
  unfold Tb.first at ef
  rw [List.drop_zero, txt_snoc, a1, b1, ← ps] at ef
  have fe : ∀ k e, T.pieceGo 0 0 none (txt T.sig u) = some (k, e) → e ≤ (txt T.sig u).length := fun k e z => by
    rcases pieceGo_end z with z | ⟨_, z, _⟩
    · cases z
    · omega
  generalize T.pieceGo 0 0 none (txt T.sig u) = F at *
  by_cases c1 : 0 ≤ k1
  · rw [if_pos c1] at ef
    by_cases c2 : 0 ≤ k2
    · rw [if_pos c2] at ef
      have := Option.some.inj ef
      exact nk (congrArg Prod.fst this)
    · rw [if_neg c2] at ef
      have := fe _ _ ef.symm
      omega
  · rw [if_neg c1] at ef
    by_cases c2 : 0 ≤ k2
    · rw [if_pos c2] at ef
      have := fe _ _ ef
      omega
    · omega
/-! the stretches of a word -/
theorem stretch {w : List Nat} (a b : Nat) : (w.drop a).take b = w ∨ ((w.drop a).take b).length < w.length := by
  by_cases q : a = 0
  · subst q
    rw [List.drop_zero]
    by_cases c : w.length ≤ b
    · exact .inl (List.take_of_length_le c)
    · exact .inr (by rw [List.length_take]; omega)
  · by_cases c : w = []
    · subst c
      exact .inl (by simp)
    · have : 0 < w.length := List.length_pos_iff.mpr c
      exact .inr (by rw [List.length_take, List.length_drop]; omega)
theorem Two.ahead_same (W : Two T U) {w s : List Nat} (h : fstP T U T.kinds U.kinds = some w) (v : Val T s) (lt : sltW s w) : T.cutFrom (txt T.sig s) 0 = U.cutFrom (txt T.sig s) 0 := by
  obtain ⟨_, _, _, h4⟩ := W.fst_some h
  refine cut_same W v fun a b => h4 _ (fun x hx => v x (List.mem_of_mem_drop (List.mem_of_mem_take hx))) ?_
  rcases stretch (w := s) a b with e | l
  · rw [e]; exact lt
  · refine .inl ?_
    rcases lt with lt | ⟨lt, _⟩ <;> omega
theorem Two.none_same (W : Two T U) {s : List Nat} (h : fstP T U T.kinds U.kinds = none) (v : Val T s) : T.cutFrom (txt T.sig s) 0 = U.cutFrom (txt T.sig s) 0 :=
  cut_same W v fun a b => W.fst_none h fun x hx => v x (List.mem_of_mem_drop (List.mem_of_mem_take hx))
theorem Two.own_other (W : Two T U) {w : List Nat} (h : fstP T U T.kinds U.kinds = some w) : T.cutFrom (txt T.sig w) 0 ≠ U.cutFrom (txt T.sig w) 0 := by
  obtain ⟨h1, h2, _, h4⟩ := W.fst_some h
  exact cut_other W h1 h2 fun u vu lu => h4 u vu (.inl lu)
/-! words of texts -/
def ixw (t s : List Nat) : List Nat := s.map fun c => t.idxOf c
theorem ixw_val {s : List Nat} (h : ∀ c ∈ s, c ∈ T.sig) : Val T (ixw T.sig s) := fun i hi => by
  obtain ⟨c, hc, rfl⟩ := List.mem_map.mp hi
  exact List.idxOf_lt_length_of_mem (h c hc)
theorem txt_ixw {t s : List Nat} (h : ∀ c ∈ s, c ∈ t) : txt t (ixw t s) = s := by
  unfold txt ixw
  rw [List.map_map]
  conv => rhs; rw [← List.map_id s]
  refine List.map_congr_left fun c hc => ?_
  show t.getD (t.idxOf c) 0 = c
  have hl := List.idxOf_lt_length_of_mem (h c hc)
  rw [List.getD_eq_getElem?_getD, List.getElem?_eq_getElem hl]
  exact List.getElem_idxOf hl
theorem txt_in {w : List Nat} (v : Val T w) : ∀ c ∈ txt T.sig w, c ∈ T.sig := fun c hc => by
  obtain ⟨i, hi, rfl⟩ := List.mem_map.mp hc
  rw [List.getD_eq_getElem?_getD, List.getElem?_eq_getElem (v i hi)]
  exact List.getElem_mem _
theorem fxi_txt (ok : T.Ok) {w : List Nat} (v : Val T w) : (txt T.sig w).map (fxi T.sig) = w.map fun i : Nat => (i : Int) := by
  unfold txt
  rw [List.map_map]
  refine List.map_congr_left fun i hi => ?_
  show fxi T.sig (T.sig.getD i 0) = _
  unfold fxi
  rw [fnd_at ok.tg.nd (v i hi)]
theorem lexLt_W : ∀ {u w : List Nat}, u.length = w.length → (HT.lexLt (u.map fun i : Nat => (i : Int)) (w.map fun i : Nat => (i : Int)) = true ↔ lexW u w)
  | [], [], _ => by simp [HT.lexLt, lexW]
  | [], _ :: _, h => by cases h
  | _ :: _, [], h => by cases h
  | a :: u, b :: w, h => by
    have ih := lexLt_W (u := u) (w := w) (by simpa using h)
    rw [List.map_cons, List.map_cons, HT.lexLt_cons]
    show _ ↔ a < b ∨ (a = b ∧ lexW u w)
    by_cases q : a = b
    · subst q
      rw [if_pos rfl, ih]
      simp
    · have q' : ¬ (a : Int) = (b : Nat) := by omega
      rw [if_neg q']
      simp [q]
theorem ahd_W (ok : T.Ok) {u w : List Nat} (vu : Val T u) (vw : Val T w) : ahd T.sig (txt T.sig u) (txt T.sig w) = true ↔ sltW u w := by
  have l : ∀ x, (txt T.sig x).length = x.length := fun x => by unfold txt; rw [List.length_map]
  unfold ahd
  rw [fxi_txt ok vu, fxi_txt ok vw, l, l]
  unfold sltW
  by_cases q : u.length = w.length
  · rw [if_pos q, lexLt_W q]
    exact ⟨fun h => .inr ⟨q, h⟩, fun h => by rcases h with h | ⟨_, h⟩; omega; exact h⟩
  · rw [if_neg q, decide_eq_true_eq]
    exact ⟨.inl, fun h => by rcases h with h | ⟨h, _⟩; exact h; exact absurd h q⟩
end
/-! the two the other way about -/
theorem bfRow_swap {T U : Tb} {e : Ent} : ∀ (js : List Nat) (L : List Ent), bfRow (pdl U T) ((e.1.2, e.1.1), e.2) js (L.map fun x => ((x.1.2, x.1.1), x.2)) = (bfRow (pdl T U) e js L).map fun x => ((x.1.2, x.1.1), x.2)
  | [], L => rfl
  | j :: js, L => by
    show bfRow (pdl U T) ((e.1.2, e.1.1), e.2) js (bfAdd _ _ _) = List.map _ (bfRow (pdl T U) e js (bfAdd _ _ _))
    rw [← bfRow_swap js]
    congr 1
    unfold bfAdd
    have iff : pdl U T (e.1.2, e.1.1) j ∈ (L.map fun x => ((x.1.2, x.1.1), x.2)).map (·.1) ↔ pdl T U e.1 j ∈ L.map (·.1) := by
      rw [List.map_map]
      constructor
      · intro z
        obtain ⟨x, hx, e⟩ := List.mem_map.mp z
        refine List.mem_map.mpr ⟨x, hx, ?_⟩
        have a1 := congrArg Prod.fst e
        have a2 := congrArg Prod.snd e
        exact Prod.ext a2 a1
      · intro z
        obtain ⟨x, hx, e⟩ := List.mem_map.mp z
        refine List.mem_map.mpr ⟨x, hx, ?_⟩
        have a1 := congrArg Prod.fst e
        have a2 := congrArg Prod.snd e
        exact Prod.ext a2 a1
    by_cases q : pdl T U e.1 j ∈ L.map (·.1)
    · rw [if_pos q, if_pos (iff.mpr q)]
    · rw [if_neg q, if_neg fun z => q (iff.mp z), List.map_append]
      rfl
theorem bfs_swap {T U : Tb} (W : Two T U) : ∀ k, bfP U T k = (bfP T U k).map fun x => ((x.1.2, x.1.1), x.2)
  | 0 => rfl
  | k + 1 => by
    have ih := bfs_swap W k
    have sl : U.sig.length = T.sig.length := by rw [W.s]
    cases c : (bfP T U k)[k]? with
    | some e =>
      have c2 : (bfP U T k)[k]? = some ((e.1.2, e.1.1), e.2) := by rw [ih, List.getElem?_map, c]; rfl
      rw [bfP_next c, bfP_next c2, ih, sl]
      exact bfRow_swap _ _
    | none =>
      have c2 : (bfP U T k)[k]? = none := by rw [ih, List.getElem?_map, c]; rfl
      have h1 : bfP T U (k + 1) = bfP T U k := bfs_none c
      have h2 : bfP U T (k + 1) = bfP U T k := bfs_none c2
      rw [h1, h2, ih]
theorem fst_swap {T U : Tb} (W : Two T U) : fstP U T U.kinds T.kinds = fstP T U T.kinds U.kinds := by
  unfold fstP
  have e : PL U T = (PL T U).map fun x => ((x.1.2, x.1.1), x.2) := PL_swap1 (bfs_swap W 1024)
  rw [e, List.find?_map, Option.map_map]
  have f : ((fun e : Ent => !decide (U.kinds.getD e.1.1 0 = T.kinds.getD e.1.2 0)) ∘ fun x : Ent => ((x.1.2, x.1.1), x.2)) = fun e : Ent => !decide (T.kinds.getD e.1.1 0 = U.kinds.getD e.1.2 0) := by
    funext x
    show (!decide (U.kinds.getD x.1.2 0 = T.kinds.getD x.1.1 0)) = _
    rw [decide_eq_decide.mpr (eq_comm (a := U.kinds.getD x.1.2 0))]
  rw [f]
  rfl
theorem Two.swap {T U : Tb} (W : Two T U) : Two U T := ⟨W.b, W.a, W.s.symm⟩
theorem Two.self {T : Tb} (ok : T.Ok) : Two T T := ⟨ok, ok, rfl⟩
theorem fst_self {T : Tb} (ok : T.Ok) : fstP T T T.kinds T.kinds = none := by
  cases e : fstP T T T.kinds T.kinds with
  | none => rfl
  | some w => exact absurd rfl ((Two.self ok).fst_some e).2.1
end NR

set_option Elab.async false
set_option linter.all false
set_option maxRecDepth 100000
set_option maxHeartbeats 4000000
namespace NR
open PySem PySem.Spec PyProof.Rows L2
/-! ### parted and cut, as the program tells them -/
theorem alike_same {A B : D} {t : List Nat} {h : IH} (a : ∀ h, dIx A (.int 0) h = .ok (.str t) h) (b : ∀ h, dIx B (.int 0) h = .ok (.str t) h) : callC 2 m_asked_alike [A, B] h = .ok .non h := by
  refine callC_same rfl ?_
  unfold m_asked_alike
  simp [a, b]
theorem alike_no {A B : D} {t u : List Nat} {h : IH} (a : ∀ h, dIx A (.int 0) h = .ok (.str t) h) (b : ∀ h, dIx B (.int 0) h = .ok (.str u) h) (n : t ≠ u) : callC 2 m_asked_alike [A, B] h = .ex "Unlike" none h := by
  refine callC_ex (g := []) rfl ?_
  unfold m_asked_alike
  simp [a, b, n]
theorem parted_no {A B : D} {t u : List Nat} {h : IH} (a : ∀ h, dIx A (.int 0) h = .ok (.str t) h) (b : ∀ h, dIx B (.int 0) h = .ok (.str u) h) (n : t ≠ u) : callC 2 m_parted [A, B] h = .ex "Unlike" none h := by
  refine callC_ex (g := []) rfl ?_
  have e := alike_no (h := h) a b n
  unfold m_parted
  simp [e]
section
variable {T U : Tb}
theorem parted_call (W : Two T U) (h : IH) : callC 2 m_parted [T.enc, U.enc] h = .ok (wD T.sig (fstP T U T.kinds U.kinds)) h := by
  have e1 := alike_same (A := T.enc) (B := U.enc) (t := T.sig) (h := h) (fun _ => tT0) (fun _ => by rw [tT0, W.s])
  have e2 := fpt_call W W.a.kl W.b.kl h
  refine callC_same rfl ?_
  unfold m_parted
  simp [e1, tT2, e2]
/-- what a cut tells -/
def cvD (r : List (Int × Nat × Nat) × Nat) : D := .tup [.fl (r.1.map pcD), .int (r.2 : Nat)]
theorem pcD_inj {p q : Int × Nat × Nat} (e : pcD p = pcD q) : p = q := by
  unfold pcD at e
  simp at e
  obtain ⟨a, b, c⟩ := p
  obtain ⟨a', b', c'⟩ := q
  dsimp only at e
  have h1 := e.1
  have h2 : b = b' := by have := e.2.1; omega
  have h3 : c = c' := by have := e.2.2; omega
  rw [h1, h2, h3]
theorem map_pcD : ∀ {l m : List (Int × Nat × Nat)}, l.map pcD = m.map pcD → l = m
  | [], [], _ => rfl
  | [], _ :: _, e => by cases e
  | _ :: _, [], e => by cases e
  | x :: l, y :: m, e => by
    rw [List.map_cons, List.map_cons, List.cons.injEq] at e
    rw [pcD_inj e.1, map_pcD e.2]
theorem cvD_inj {r s : List (Int × Nat × Nat) × Nat} (e : cvD r = cvD s) : r = s := by
  unfold cvD at e
  simp only [D.tup.injEq, List.cons.injEq, D.fl.injEq, D.int.injEq, and_true] at e
  exact Prod.ext (map_pcD e.1) (by have := e.2; omega)
theorem cvD_nb {r : List (Int × Nat × Nat) × Nat} : (cvD r).nb 50 = true := by
  unfold cvD
  simp [D.nb, pcD]
theorem cv_eq {neg : Bool} {r s : List (Int × Nat × Nat) × Nat} {h : IH} : dEq neg (cvD r) (cvD s) h = .ok (.bl (if neg then !decide (r = s) else decide (r = s))) h := by
  rw [dEq_nb cvD_nb cvD_nb]
  by_cases q : r = s
  · subst q
    simp
  · have q2 : ¬ cvD r = cvD s := fun e => q (cvD_inj e)
    simp [q, q2]
end
end NR

set_option Elab.async false
set_option linter.all false
set_option maxRecDepth 100000
set_option maxHeartbeats 4000000
namespace NR
open PySem PySem.Spec PyProof.Rows L2
open Classical
/-! ### pairs of rooms, looked at -/
/-- a loop that goes on where p holds, and tells False where not -/
theorem forL_chk {gg : MG} {b : MS} {h : IH} {ds : List D} (I : EV → Prop) (p : D → Bool) (step : ∀ d ∈ ds, ∀ env, I env → ∃ e1, gg d env = some e1 ∧ ((p d = true ∧ ∃ e2, b e1 h = .nx e2 h ∧ I e2) ∨ (p d = false ∧ b e1 h = .rt (.bl false) h))) :
    ∀ env, I env → (ds.all p = true ∧ ∃ e2, forL gg b ds env h = .nx e2 h ∧ I e2) ∨ (ds.all p = false ∧ forL gg b ds env h = .rt (.bl false) h) := by
  induction ds with
  | nil => exact fun env i => .inl ⟨rfl, env, rfl, i⟩
  | cons d ds ih =>
    intro env i
    obtain ⟨e1, g1, s⟩ := step d List.mem_cons_self env i
    rw [forL_cons g1, List.all_cons]
    rcases s with ⟨q, e2, s1, s2⟩ | ⟨q, s1⟩
    · rw [s1, on_nx, q, Bool.true_and]
      exact ih (fun d hd => step d (List.mem_cons_of_mem _ hd)) e2 s2
    · rw [s1, q, Bool.false_and]
      exact .inr ⟨rfl, rfl⟩
section
variable {T U : Tb}
/-- a pair of rooms of like kinds -/
def GoodP (T U : Tb) (x : D) : Prop := ∃ p : Nat × Nat, x = tP2 p ∧ Rm T U p ∧ T.kind p.1 = U.kind p.2
noncomputable def prB (T U : Tb) (x : D) : Bool := decide (GoodP T U x)
theorem tP2_inj {p q : Nat × Nat} (e : tP2 p = tP2 q) : p = q := by
  unfold tP2 at e
  simp at e
  exact Prod.ext (by have := e.1; omega) (by have := e.2; omega)
structure ElOk (T U : Tb) (x : D) : Prop where
  pr : ∀ h, callC 3 m_is_pair [T.enc, U.enc, x] h = .ok (.bl (prB T U x)) h
  lw : ∀ h, callC 3 m__law_is_pair [T.enc, U.enc, x] h = .ok (.bl (prB T U x)) h
  lo : ∀ n, x.lo n = true
theorem num_int {i : Int} {h : IH} : callC 1 m_is_number [.int i] h = .ok (.bl true) h := callC_same rfl (by unfold m_is_number; simp)
theorem num_no {x : D} {h : IH} (n : (∃ b, x = .bl b) ∨ isT "int" h x = some false) : callC 1 m_is_number [x] h = .ok (.bl false) h := by
  refine callC_same rfl ?_
  unfold m_is_number
  rcases n with ⟨b, rfl⟩ | n
  · simp
  · simp [n]
def isI : D → Bool
  | .int _ => true
  | _ => false
/-- what is a number, or surely none -/
def NumQ (x : D) : Prop := (∃ i, x = .int i) ∨ (isI x = false ∧ ∀ h : IH, (∃ b, x = .bl b) ∨ isT "int" h x = some false)
theorem nums_call {l : List D} (hl : ∀ x ∈ l, NumQ x) (h : IH) : callC 1 m_is_numbers [.tup l] h = .ok (.bl (l.all isI)) h := by
  refine callC_same rfl ?_
  have lp := forL_chk (gg := gSet 1) (b := b_is_numbers_1) (h := h) (ds := l) (fun env => ∃ x, env = [some (.tup l), x]) isI (fun d hd env ⟨x, e⟩ => by
    subst e
    refine ⟨[some (.tup l), some d], rfl, ?_⟩
    rcases hl d hd with ⟨i, rfl⟩ | ⟨q1, q2⟩
    · refine .inl ⟨rfl, [some (.tup l), some (.int i)], ?_, some (.int i), rfl⟩
      unfold b_is_numbers_1
      simp [num_int]
    · refine .inr ⟨q1, ?_⟩
      unfold b_is_numbers_1
      simp [num_no (q2 h)]) [some (.tup l), none] ⟨none, rfl⟩
  unfold m_is_numbers
  rw [ap_fnM]
  simp only [List.map_cons, List.map_nil, List.length_cons, List.length_nil, List.cons_append, List.nil_append, Nat.reduceAdd, Nat.reduceSub, List.replicate]
  refine stN (env2 := [some (.tup l), none]) (h2 := h) (by simp) ?_
  rw [ap_msCons, for_st (ds := l) (h2 := h) (by simp)]
  rcases lp with ⟨q, e2, e, x, rfl⟩ | ⟨q, e⟩
  · rw [e, q]
    simp
  · rw [e, q]
    simp
theorem nums_no {x : D} {h : IH} (n : isT "tuple" h x = some false) : callC 1 m_is_numbers [x] h = .ok (.bl false) h := by
  refine callC_same rfl ?_
  unfold m_is_numbers
  simp [n]
theorem pr_false {x : D} (n : ¬ GoodP T U x) : prB T U x = false := decide_eq_false n
/-- no tuple -/
theorem el_notup {x : D} (n : ∀ h : IH, isT "tuple" h x = some false) (g : ¬ GoodP T U x) (lo : ∀ n, x.lo n = true) : ElOk T U x := ⟨fun h => by
    rw [pr_false g]
    refine callC_same rfl ?_
    have := nums_no (n h)
    unfold m_is_pair
    simp [this], fun h => by
    rw [pr_false g]
    refine callC_same rfl ?_
    have := n h
    unfold m__law_is_pair
    simp [this], lo⟩
/-- a tuple not of two -/
theorem el_len {l : List D} (hl : ∀ x ∈ l, NumQ x) (n : l.length ≠ 2) (l1 : l.length ≤ 10000) (lo : ∀ x ∈ l, ∀ n, x.lo n = true) : ElOk T U (.tup l) := by
  have g : ¬ GoodP T U (.tup l) := fun ⟨p, e, _⟩ => by
    unfold tP2 at e
    have := congrArg (fun d : D => match d with | .tup l => l.length | _ => 0) e
    simp at this
    exact n this
  have n' : ¬ ((l.length : Nat) : Int) = 2 := by omega
  refine ⟨fun h => ?_, fun h => ?_, fun n => by rw [lo_tup]; exact loL_of fun y hy => lo y hy n⟩
  · rw [pr_false g]
    refine callC_same rfl ?_
    have e := nums_call hl h
    unfold m_is_pair
    cases q : l.all isI with
    | true => rw [q] at e; simp [e, n, n']
    | false => rw [q] at e; simp [e]
  · rw [pr_false g]
    refine callC_same rfl ?_
    unfold m__law_is_pair
    simp [n, n']
theorem two_body {V : Tb} {e0 e1 e2 : Option D} {x : D} {h : IH} (q : NumQ x) (n32 : V.goes.length ≤ 32) : (∃ i : Int, x = .int i ∧ 0 ≤ i ∧ i < V.goes.length ∧ b__law_is_pair_1 [e0, e1, e2, some x, some V.enc] h = .nx [e0, e1, e2, some x, some V.enc] h) ∨ ((∀ i : Int, x = .int i → ¬ (0 ≤ i ∧ i < V.goes.length)) ∧ b__law_is_pair_1 [e0, e1, e2, some x, some V.enc] h = .rt (.bl false) h) := by
  rcases q with ⟨i, rfl⟩ | ⟨q1, q2⟩
  · by_cases c1 : 0 ≤ i
    · by_cases c2 : i < (V.goes.length : Nat)
      · refine .inl ⟨i, rfl, c1, c2, ?_⟩
        unfold b__law_is_pair_1
        simp [tT1, c1, c2]
      · refine .inr ⟨fun j e c => c2 (by cases e; exact c.2), ?_⟩
        unfold b__law_is_pair_1
        simp [tT1, c1, c2]
    · refine .inr ⟨fun j e c => c1 (by cases e; exact c.1), ?_⟩
      unfold b__law_is_pair_1
      simp [tT1, c1]
  · refine .inr ⟨fun j e => (by subst e; cases q1), ?_⟩
    unfold b__law_is_pair_1
    rcases q2 h with ⟨b, rfl⟩ | n
    · simp
    · simp [n]
theorem el_two (W : Two T U) {x y : D} (qx : NumQ x) (qy : NumQ y) (lx : ∀ n, x.lo n = true) (ly : ∀ n, y.lo n = true) : ElOk T U (.tup [x, y]) := by
  have g1 := W.a.g2
  have g2 := W.b.g2
  have i0 : ∀ h : IH, dIx (.tup [x, y]) (.int 0) h = .ok x h := fun h => dIx_seq (xs := [x, y]) rfl (by omega) rfl
  have i1 : ∀ h : IH, dIx (.tup [x, y]) (.int 1) h = .ok y h := fun h => dIx_seq (xs := [x, y]) rfl (by omega) rfl
  -- in both
  have key : (∃ p : Nat × Nat, x = .int (p.1 : Nat) ∧ y = .int (p.2 : Nat) ∧ Rm T U p) ∨ ¬ ∃ p : Nat × Nat, x = .int (p.1 : Nat) ∧ y = .int (p.2 : Nat) ∧ Rm T U p := Classical.em _
  have kk : ∀ p : Nat × Nat, Rm T U p → (∀ h : IH, dIx (.tup (T.kinds.map D.int)) (.int (p.1 : Nat)) h = .ok (.int (T.kind p.1)) h) ∧ (∀ h : IH, dIx (.tup (U.kinds.map D.int)) (.int (p.2 : Nat)) h = .ok (.int (U.kind p.2)) h) := fun p rm => ⟨fun h => ix_kind W.a rm.1, fun h => ix_kind W.b rm.2⟩
  have gd : ∀ p : Nat × Nat, x = .int (p.1 : Nat) → y = .int (p.2 : Nat) → Rm T U p → prB T U (.tup [x, y]) = decide (T.kind p.1 = U.kind p.2) := fun p e1 e2 rm => by
    unfold prB
    refine decide_eq_decide.mpr ⟨fun ⟨q, eq, _, k⟩ => ?_, fun k => ⟨p, by rw [e1, e2]; rfl, rm, k⟩⟩
    have : tP2 p = tP2 q := by rw [← eq, e1, e2]; rfl
    rw [tP2_inj this]
    exact k
  have bd : (¬ ∃ p : Nat × Nat, x = .int (p.1 : Nat) ∧ y = .int (p.2 : Nat) ∧ Rm T U p) → prB T U (.tup [x, y]) = false := fun n => pr_false fun ⟨p, e, rm, _⟩ => n ⟨p, by
    unfold tP2 at e
    simp only [D.tup.injEq, List.cons.injEq, and_true] at e
    exact ⟨e.1, e.2, rm⟩⟩
  refine ⟨fun h => ?_, fun h => ?_, fun n => by simp [lx, ly]⟩
  · refine callC_same rfl ?_
    have e := nums_call (l := [x, y]) (fun z hz => by
      rcases List.mem_cons.mp hz with rfl | hz
      · exact qx
      · rw [List.mem_singleton] at hz
        rw [hz]
        exact qy) h
    rcases key with ⟨p, e1, e2, rm⟩ | n
    · obtain ⟨k1, k2⟩ := kk p rm
      rw [gd p e1 e2 rm]
      have r1 : ((p.1 : Nat) : Int) < (T.goes.length : Nat) := by have := rm.1; omega
      have r2 : ((p.2 : Nat) : Int) < (U.goes.length : Nat) := by have := rm.2; omega
      have r1' := rm.1
      have r2' := rm.2
      subst e1 e2
      unfold m_is_pair
      generalize hK : T.kinds.map D.int = KD at *
      generalize hM : U.kinds.map D.int = MD at *
      have e : callC 1 m_is_numbers [.tup [.int (p.1 : Nat), .int (p.2 : Nat)]] h = .ok (.bl true) h := e
      have t2 : ∀ h : IH, dIx T.enc (.int 2) h = .ok (.tup KD) h := fun h => by rw [tT2, hK]
      have u2 : ∀ h : IH, dIx U.enc (.int 2) h = .ok (.tup MD) h := fun h => by rw [tT2, hM]
      simp [e, i0, i1, tT1, t2, u2, k1, k2, r1', r2']
    · rw [bd n]
      unfold m_is_pair
      rcases qx with ⟨i, rfl⟩ | ⟨q1, q2⟩
      · rcases qy with ⟨j, rfl⟩ | ⟨q3, q4⟩
        · have e : callC 1 m_is_numbers [.tup [.int i, .int j]] h = .ok (.bl true) h := e
          by_cases c1 : 0 ≤ i
          · by_cases c2 : i < (T.goes.length : Nat)
            · by_cases c3 : 0 ≤ j
              · by_cases c4 : j < (U.goes.length : Nat)
                · exact absurd ⟨(i.toNat, j.toNat), by show D.int i = D.int ((i.toNat : Nat) : Int); rw [Int.toNat_of_nonneg c1], by show D.int j = D.int ((j.toNat : Nat) : Int); rw [Int.toNat_of_nonneg c3], by show i.toNat < _; omega, by show j.toNat < _; omega⟩ n
                · simp [e, i0, i1, tT1, c1, c2, c3, c4]
              · simp [e, i0, i1, tT1, c1, c2, c3]
            · simp [e, i0, i1, tT1, c1, c2]
          · simp [e, i0, i1, tT1, c1]
        · have e : callC 1 m_is_numbers [.tup [.int i, y]] h = .ok (.bl false) h := by rw [e]; simp [q3]
          simp [e]
      · have e : callC 1 m_is_numbers [.tup [x, y]] h = .ok (.bl false) h := by rw [e]; simp [q1]
        simp [e]
  · refine callC_same rfl ?_
    have b1 := two_body (V := T) (e0 := some T.enc) (e1 := some U.enc) (e2 := some (.tup [x, y])) (h := h) qx g1
    have b2 := two_body (V := U) (e0 := some T.enc) (e1 := some U.enc) (e2 := some (.tup [x, y])) (h := h) qy g2
    have it : msFor (iZip (mCons (mVar 2) (mCons (mTup (mCons (mVar 0) (mCons (mVar 1) (mNil)))) (mNil)))) (gSets [3, 4]) b__law_is_pair_1 [some T.enc, some U.enc, some (.tup [x, y]), none, none] h = forL (gSets [3, 4]) b__law_is_pair_1 [.tup [x, T.enc], .tup [y, U.enc]] [some T.enc, some U.enc, some (.tup [x, y]), none, none] h := for_st (by simp [iZip, stOf])
    unfold m__law_is_pair
    rw [ap_fnM]
    simp only [List.map_cons, List.map_nil, List.length_cons, List.length_nil, List.cons_append, List.nil_append, Nat.reduceAdd, Nat.reduceSub, List.replicate]
    refine stN (env2 := [some T.enc, some U.enc, some (.tup [x, y]), none, none]) (h2 := h) (by simp) ?_
    rw [ap_msCons, it, forL_cons (e1 := [some T.enc, some U.enc, some (.tup [x, y]), some x, some T.enc]) rfl]
    rcases b1 with ⟨i, e1, c1, c2, b1⟩ | ⟨n, b1⟩
    · rw [b1, on_nx, forL_cons (e1 := [some T.enc, some U.enc, some (.tup [x, y]), some y, some U.enc]) rfl]
      rcases b2 with ⟨j, e2, c3, c4, b2⟩ | ⟨n, b2⟩
      · rw [b2, on_nx]
        have rm : Rm T U (i.toNat, j.toNat) := ⟨by show i.toNat < _; omega, by show j.toNat < _; omega⟩
        have x1 : x = .int (((i.toNat, j.toNat) : Nat × Nat).1 : Nat) := by rw [e1]; show D.int i = D.int ((i.toNat : Nat) : Int); rw [Int.toNat_of_nonneg c1]
        have y1 : y = .int (((i.toNat, j.toNat) : Nat × Nat).2 : Nat) := by rw [e2]; show D.int j = D.int ((j.toNat : Nat) : Int); rw [Int.toNat_of_nonneg c3]
        rw [gd _ x1 y1 rm]
        obtain ⟨k1, k2⟩ := kk _ rm
        generalize ((i.toNat, j.toNat) : Nat × Nat) = p at *
        rw [x1, y1] at i0 i1 ⊢
        generalize hK : T.kinds.map D.int = KD at *
        generalize hM : U.kinds.map D.int = MD at *
        have t2 : ∀ h : IH, dIx T.enc (.int 2) h = .ok (.tup KD) h := fun h => by rw [tT2, hK]
        have u2 : ∀ h : IH, dIx U.enc (.int 2) h = .ok (.tup MD) h := fun h => by rw [tT2, hM]
        simp [i0, i1, t2, u2, k1, k2]
      · rw [b2, bd fun ⟨p, _, e2, rm⟩ => n _ e2 ⟨by omega, by have := rm.2; omega⟩]
        simp
    · rw [b1, bd fun ⟨p, e1, _, rm⟩ => n _ e1 ⟨by omega, by have := rm.1; omega⟩]
      simp
end
end NR

set_option Elab.async false
set_option linter.all false
set_option maxRecDepth 100000
set_option maxHeartbeats 4000000
namespace NR
open PySem PySem.Spec PyProof.Rows L2
open Classical
theorem forL_chkM {α : Type} {gg : MG} {b : MS} {h : IH} {xs : List α} (f : α → D) (I : EV → Prop) (p : α → Bool) (step : ∀ a ∈ xs, ∀ env, I env → ∃ e1, gg (f a) env = some e1 ∧ ((p a = true ∧ ∃ e2, b e1 h = .nx e2 h ∧ I e2) ∨ (p a = false ∧ b e1 h = .rt (.bl false) h))) :
    ∀ env, I env → (xs.all p = true ∧ ∃ e2, forL gg b (xs.map f) env h = .nx e2 h ∧ I e2) ∨ (xs.all p = false ∧ forL gg b (xs.map f) env h = .rt (.bl false) h) := by
  induction xs with
  | nil => exact fun env i => .inl ⟨rfl, env, rfl, i⟩
  | cons d ds ih =>
    intro env i
    obtain ⟨e1, g1, s⟩ := step d List.mem_cons_self env i
    rw [List.map_cons, forL_cons g1, List.all_cons]
    rcases s with ⟨q, e2, s1, s2⟩ | ⟨q, s1⟩
    · rw [s1, on_nx, q, Bool.true_and]
      exact ih (fun d hd => step d (List.mem_cons_of_mem _ hd)) e2 s2
    · rw [s1, q, Bool.false_and]
      exact .inr ⟨rfl, rfl⟩
/-! a dict that knows pairs -/
abbrev tt : List Nat → D := fun _ => .bl true
def insE (L : List Ent) (p : Nat × Nat) : List Ent := if p ∈ L.map (·.1) then L else L ++ [(p, [])]
def insA (L : List Ent) (ps : List (Nat × Nat)) : List Ent := ps.foldl insE L
theorem mem_insE {L : List Ent} {p q : Nat × Nat} : q ∈ (insE L p).map (·.1) ↔ q ∈ L.map (·.1) ∨ q = p := by
  unfold insE
  split
  · rename_i c
    exact ⟨.inl, fun h => by rcases h with h | rfl; exact h; exact c⟩
  · rw [List.map_append, List.mem_append]
    simp
theorem mem_insA : ∀ {ps : List (Nat × Nat)} {L : List Ent} {q : Nat × Nat}, q ∈ (insA L ps).map (·.1) ↔ q ∈ L.map (·.1) ∨ q ∈ ps
  | [], L, q => by simp [insA]
  | p :: ps, L, q => by
    have := mem_insA (ps := ps) (L := insE L p) (q := q)
    show q ∈ (insA (insE L p) ps).map (·.1) ↔ _
    rw [this, mem_insE, List.mem_cons, or_assoc]
theorem insE_len {L : List Ent} {p : Nat × Nat} : (insE L p).length ≤ L.length + 1 := by
  unfold insE
  split
  · omega
  · rw [List.length_append, List.length_singleton]; omega
section
variable {h : IH} {n : Nat} {L : List Ent} {p : Nat × Nat}
theorem put_tt (e : h[n]? = some (dW tt L)) (dl : L.length < 10000000) : putDD (.ref n) (tP2 p) (.bl true) h = some (h.set n (dW tt (insE L p))) := by
  unfold insE
  by_cases q : p ∈ L.map (·.1)
  · rw [if_pos q]
    have pk : putKD (L.map fun e => (kP2 e.1, tt e.2)) (kP2 p) (.bl true) = L.map fun e => (kP2 e.1, tt e.2) := by
      unfold putKD
      have an : ((L.map fun e => (kP2 e.1, tt e.2)).any fun x => decide (x.1 = kP2 p)) = true := by
        simp only [List.any_eq_true, List.mem_map, decide_eq_true_eq]
        obtain ⟨y, hy, e⟩ := List.mem_map.mp q
        exact ⟨_, ⟨y, hy, rfl⟩, by rw [e]⟩
      rw [an, if_pos rfl, List.map_map]
      refine List.map_congr_left fun x _ => ?_
      show (if kP2 x.1 = kP2 p then (kP2 x.1, D.bl true) else (kP2 x.1, D.bl true)) = _
      split <;> rfl
    unfold putDD
    dsimp only
    rw [e]
    unfold dW
    dsimp only
    rw [key_tP2]
    dsimp only
    rw [if_pos (by rw [List.length_map]; exact dl), pk]
  · rw [if_neg q]
    exact putDD_dW (g := tt) (w := []) e q dl
end
section
variable {T U : Tb} {h : IH}
theorem goodL : ∀ {l : List D}, l.all (prB T U) = true → ∃ ps : List (Nat × Nat), l = ps.map tP2 ∧ ∀ p ∈ ps, Rm T U p
  | [], _ => ⟨[], rfl, by simp⟩
  | x :: l, e => by
    rw [List.all_cons, Bool.and_eq_true] at e
    obtain ⟨p, ex, rm, _⟩ := of_decide_eq_true e.1
    obtain ⟨ps, rfl, hp⟩ := goodL e.2
    refine ⟨p :: ps, by rw [ex]; rfl, fun q hq => ?_⟩
    rcases List.mem_cons.mp hq with rfl | hq
    · exact rm
    · exact hp q hq
def knH (h : IH) (L : List Ent) : IH := h ++ [dW tt L]
theorem knH_0 {L : List Ent} : (knH h L)[h.length]? = some (dW tt L) := get_app0
theorem knH_put {L : List Ent} {p : Nat × Nat} (dl : L.length < 10000000) : putDD (.ref h.length) (tP2 p) (.bl true) (knH h L) = some (knH h (insE L p)) := by
  rw [put_tt knH_0 dl]
  unfold knH
  rw [set_app0]
  rfl
theorem dDIn_dW2 {H : IH} {n : Nat} {L : List Ent} {p : Nat × Nat} (e : H[n]? = some (dW tt L)) : dDIn false (tP2 p) (.ref n) H = .ok (.bl (decide (p ∈ L.map (·.1)))) H := by
  unfold dDIn
  rw [dget_dW e]
  by_cases q : p ∈ L.map (·.1)
  · cases c : fndE L p with
    | none => exact absurd q (fndE_none.mp c)
    | some v => simp [q]
  · rw [fndE_none.mpr q]
    simp [q]
/-- what is closed -/
def ClP (T U : Tb) (L : List Ent) (p : Nat × Nat) : Prop := ∀ j < T.sig.length, pdl T U p j ∈ L.map (·.1)
noncomputable def hldB (T U : Tb) (L : List Ent) (ps : List (Nat × Nat)) : Bool := (ps.all fun p => decide (ClP T U L p)) && decide ((0, 0) ∈ L.map (·.1))
theorem zip_rows {ra rb : List Nat} {m : Nat} (l1 : ra.length = m) (l2 : rb.length = m) : List.zipWith (fun x y : D => D.tup [x, y]) (ra.map nD) (rb.map nD) = (List.range m).map fun j => tP2 (ra.getD j 0, rb.getD j 0) := by
  apply List.ext_getElem?
  intro i
  rw [List.getElem?_zipWith, List.getElem?_map, List.getElem?_map, List.getElem?_map]
  by_cases c : i < m
  · have g1 : ra.getD i 0 = ra[i] := by rw [List.getD_eq_getElem?_getD, List.getElem?_eq_getElem (by omega : i < ra.length)]; rfl
    have g2 : rb.getD i 0 = rb[i] := by rw [List.getD_eq_getElem?_getD, List.getElem?_eq_getElem (by omega : i < rb.length)]; rfl
    rw [List.getElem?_range c, List.getElem?_eq_getElem (by omega : i < ra.length), List.getElem?_eq_getElem (by omega : i < rb.length)]
    simp only [Option.map_some]
    rw [g1, g2]
    rfl
  · have z1 : ra[i]? = none := List.getElem?_eq_none (by omega)
    have z2 : (List.range m)[i]? = none := List.getElem?_eq_none (by rw [List.length_range]; omega)
    rw [z1, z2]
    rfl
theorem row_at (ok : T.Ok) {r : Nat} (hr : r < T.goes.length) : ∃ row : List Nat, T.goes.getD r [] = row ∧ row.length = T.sig.length ∧ ∀ h : IH, dIx (.tup (T.goes.map gT)) (.int (r : Nat)) h = .ok (.tup (row.map nD)) h := by
  obtain ⟨row, e1, e2, e3⟩ := ok.rowAt (r := r) hr
  refine ⟨row, ?_, e2, fun h => ix_row e1⟩
  rw [List.getD_eq_getElem?_getD, e1]
  rfl
/-! the program's looker -/
theorem pcl_loop (W : Two T U) {X : D} {L : List Ent} {H : IH} {n : Nat} (hn : H[n]? = some (dW tt L)) {ps : List (Nat × Nat)} (hp : ∀ p ∈ ps, Rm T U p) (x4 x5 x6 x7 : Option D) :
    (ps.all (fun p => decide (ClP T U L p)) = true ∧ ∃ e2, forL (gSets [5, 6]) b_pairs_hold_4 (ps.map tP2) [some T.enc, some U.enc, some X, some (.ref n), x4, x5, x6, x7] H = .nx e2 H) ∨ (ps.all (fun p => decide (ClP T U L p)) = false ∧ forL (gSets [5, 6]) b_pairs_hold_4 (ps.map tP2) [some T.enc, some U.enc, some X, some (.ref n), x4, x5, x6, x7] H = .rt (.bl false) H) := by
  have main := forL_chkM (gg := gSets [5, 6]) (b := b_pairs_hold_4) (h := H) (xs := ps) tP2 (fun env => ∃ y5 y6 y7, env = [some T.enc, some U.enc, some X, some (.ref n), x4, y5, y6, y7]) (fun p => decide (ClP T U L p)) (fun p hpm env ⟨y5, y6, y7, ee⟩ => by
    subst ee
    have rm := hp p hpm
    obtain ⟨ra, a1, a2, a3⟩ := row_at W.a rm.1
    obtain ⟨rb, b1, b2, b3⟩ := row_at W.b rm.2
    rw [W.s] at b2
    refine ⟨[some T.enc, some U.enc, some X, some (.ref n), x4, some (.int (p.1 : Nat)), some (.int (p.2 : Nat)), y7], rfl, ?_⟩
    have inner := forL_chkM (gg := gSet 7) (b := b_pairs_hold_3) (h := H) (xs := List.range T.sig.length) (fun j => tP2 (ra.getD j 0, rb.getD j 0)) (fun env => ∃ y7, env = [some T.enc, some U.enc, some X, some (.ref n), x4, some (.int (p.1 : Nat)), some (.int (p.2 : Nat)), y7]) (fun j => decide ((ra.getD j 0, rb.getD j 0) ∈ L.map (·.1))) (fun j hj env ⟨y7, ee⟩ => by
      subst ee
      refine ⟨[some T.enc, some U.enc, some X, some (.ref n), x4, some (.int (p.1 : Nat)), some (.int (p.2 : Nat)), some (tP2 (ra.getD j 0, rb.getD j 0))], rfl, ?_⟩
      have di := dDIn_dW (g := tt) (p := (ra.getD j 0, rb.getD j 0)) hn
      generalize ((ra.getD j 0, rb.getD j 0) : Nat × Nat) = q at *
      by_cases c : q ∈ L.map (·.1)
      · refine .inl ⟨decide_eq_true c, _, ?_, some (tP2 q), rfl⟩
        have dc : (!decide (q ∈ L.map (·.1))) = false := by rw [decide_eq_true c]; rfl
        unfold b_pairs_hold_3
        generalize tP2 q = Q at *
        have di : dDIn true Q (.ref n) H = .ok (.bl false) H := by rw [di, decide_eq_true c]; rfl
        simp [di]
      · refine .inr ⟨decide_eq_false c, ?_⟩
        unfold b_pairs_hold_3
        generalize tP2 q = Q at *
        have di : dDIn true Q (.ref n) H = .ok (.bl true) H := by rw [di, decide_eq_false c]; rfl
        simp [di]) [some T.enc, some U.enc, some X, some (.ref n), x4, some (.int (p.1 : Nat)), some (.int (p.2 : Nat)), y7] ⟨y7, rfl⟩
    have it : b_pairs_hold_4 [some T.enc, some U.enc, some X, some (.ref n), x4, some (.int (p.1 : Nat)), some (.int (p.2 : Nat)), y7] H = forL (gSet 7) b_pairs_hold_3 ((List.range T.sig.length).map fun j => tP2 (ra.getD j 0, rb.getD j 0)) [some T.enc, some U.enc, some X, some (.ref n), x4, some (.int (p.1 : Nat)), some (.int (p.2 : Nat)), y7] H := by
      unfold b_pairs_hold_4
      rw [← zip_rows a2 b2]
      exact for_st (by simp [iZip, stOf, tT1, a3, b3])
    have iff : ((List.range T.sig.length).all fun j => decide ((ra.getD j 0, rb.getD j 0) ∈ L.map (·.1))) = decide (ClP T U L p) := by
      rw [Bool.eq_iff_iff]
      simp only [List.all_eq_true, decide_eq_true_eq, List.mem_range]
      unfold ClP pdl
      rw [a1, b1]
    rw [it]
    rcases inner with ⟨q, e2, e, y, rfl⟩ | ⟨q, e⟩
    · exact .inl ⟨by rw [← iff]; exact q, _, e, _, _, _, rfl⟩
    · exact .inr ⟨by rw [← iff]; exact q, e⟩) [some T.enc, some U.enc, some X, some (.ref n), x4, x5, x6, x7] ⟨_, _, _, rfl⟩
  rcases main with ⟨q, e2, e, _⟩ | ⟨q, e⟩
  · exact .inl ⟨q, e2, e⟩
  · exact .inr ⟨q, e⟩
theorem psd_loop {X : D} {x5 x6 x7 : Option D} : ∀ (ps : List (Nat × Nat)) (L : List Ent) (x4 : Option D), ps.length + L.length ≤ 20000 → ∃ y4, forL (gSet 4) b_pairs_hold_2 (ps.map tP2) [some T.enc, some U.enc, some X, some (.ref h.length), x4, x5, x6, x7] (knH h L) = .nx [some T.enc, some U.enc, some X, some (.ref h.length), y4, x5, x6, x7] (knH h (insA L ps))
  | [], L, x4, _ => ⟨x4, rfl⟩
  | p :: ps, L, x4, l => by
    rw [List.length_cons] at l
    have il := insE_len (L := L) (p := p)
    obtain ⟨y4, ih⟩ := psd_loop (X := X) (x5 := x5) (x6 := x6) (x7 := x7) ps (insE L p) (some (tP2 p)) (by omega)
    refine ⟨y4, ?_⟩
    have pt := knH_put (h := h) (L := L) (p := p) (by omega)
    rw [List.map_cons, forL_cons (e1 := [some T.enc, some U.enc, some X, some (.ref h.length), some (tP2 p), x5, x6, x7]) rfl]
    have e : b_pairs_hold_2 [some T.enc, some U.enc, some X, some (.ref h.length), some (tP2 p), x5, x6, x7] (knH h L) = .nx [some T.enc, some U.enc, some X, some (.ref h.length), some (tP2 p), x5, x6, x7] (knH h (insE L p)) := by
      unfold b_pairs_hold_2
      generalize knH h L = H at *
      generalize tP2 p = P at *
      simp [pt]
    rw [e, on_nx]
    exact ih
/-- a thing handed in -/
def ThOk (T U : Tb) (X : D) : Prop := (∃ l, X = .tup l ∧ l.length ≤ 5000 ∧ ∀ x ∈ l, ElOk T U x) ∨ ∀ h : IH, isT "tuple" h X = some false
noncomputable def holdsB (T U : Tb) (X : D) : Bool := match X with
  | .tup l => if c : l.all (prB T U) = true then hldB T U (insA [] (goodL c).choose) (goodL c).choose else false
  | _ => false
theorem phold_call (W : Two T U) {X : D} (ok : ThOk T U X) (h : IH) : callC 3 m_pairs_hold [T.enc, U.enc, X] h = .ok (.bl (holdsB T U X)) h := by
  have al := alike_same (A := T.enc) (B := U.enc) (t := T.sig) (h := h) (fun _ => tT0) (fun _ => by rw [tT0, W.s])
  rcases ok with ⟨l, rfl, ll, hl⟩ | nt
  · have comp := lcF_map (env := [some T.enc, some U.enc, some (.tup l), none, none, none, none, none]) (h := h) (it := iSeq (mVar 2)) (ws := [4]) (gg := gSet 4) (m := e_pairs_hold_1) (ds := l) (fun d => .bl (prB T U d)) (by simp) (by omega) (fun d hd => rfl) (fun d hd => ⟨_, rfl, fun w => by
      have := (hl d hd).pr (h ++ [w])
      unfold e_pairs_hold_1
      simp [wipeE, gSet, this]⟩)
    have cm : l.map (fun d => D.bl (prB T U d)) = (l.map (prB T U)).map D.bl := by rw [List.map_map]; rfl
    rw [cm] at comp
    have ba : (l.map (prB T U)).all id = l.all (prB T U) := by rw [List.all_map]; rfl
    by_cases c : l.all (prB T U) = true
    · have hb : holdsB T U (.tup l) = hldB T U (insA [] (goodL c).choose) (goodL c).choose := by
        show (if c : l.all (prB T U) = true then _ else _) = _
        rw [dif_pos c]
      obtain ⟨el, hp⟩ := (goodL c).choose_spec
      rw [hb]
      generalize (goodL c).choose = ps at *
      have pl : ps.length ≤ 5000 := by rw [el, List.length_map] at ll; exact ll
      obtain ⟨y4, sd⟩ := psd_loop (T := T) (U := U) (h := h) (X := .tup l) (x5 := none) (x6 := none) (x7 := none) ps [] none (by simp; omega)
      have cl := pcl_loop W (X := .tup l) (L := insA [] ps) (H := knH h (insA [] ps)) (n := h.length) knH_0 hp y4 none none none
      have di := dDIn_dW (g := tt) (p := (0, 0)) (knH_0 (h := h) (L := insA [] ps))
      refine callC_pure (g := [dW tt (insA [] ps)]) rfl ?_ (by simp)
      show _ = R.ok (D.bl (hldB T U (insA [] ps) ps)) (knH h (insA [] ps))
      unfold m_pairs_hold
      rw [ap_fnM]
      simp only [List.map_cons, List.map_nil, List.length_cons, List.length_nil, List.cons_append, List.nil_append, Nat.reduceAdd, Nat.reduceSub, List.replicate]
      refine stN (env2 := [some T.enc, some U.enc, some (.tup l), none, none, none, none, none]) (h2 := h) (by simp [al]) ?_
      refine stN (env2 := [some T.enc, some U.enc, some (.tup l), none, none, none, none, none]) (h2 := h) (by
        generalize mFz (mLc (iSeq (mVar 2)) (gSet 4) mYes e_pairs_hold_1 [4]) = F at *
        simp [comp, -List.map_map, ba, c]) ?_
      refine stN (env2 := [some T.enc, some U.enc, some (.tup l), some (.ref h.length), none, none, none, none]) (h2 := knH h []) (by simp; rfl) ?_
      refine stN (env2 := [some T.enc, some U.enc, some (.tup l), some (.ref h.length), y4, none, none, none]) (h2 := knH h (insA [] ps)) (by
        rw [for_st (ds := ps.map tP2) (h2 := knH h []) (by rw [el]; simp)]
        exact sd) ?_
      unfold hldB
      have cdi : dDIn true (.tup [.int 0, .int 0]) (.ref h.length) (knH h (insA [] ps)) = .ok (.bl (!decide ((0, 0) ∈ (insA [] ps).map (·.1)))) (knH h (insA [] ps)) := di
      have fz : ∀ (b : MS), msFz 3 b [some T.enc, some U.enc, some (.tup l), some (.ref h.length), y4, none, none, none] (knH h (insA [] ps)) = b [some T.enc, some U.enc, some (.tup l), some (.ref h.length), y4, none, none, none] (knH h (insA [] ps)) := fun b => by
        have g0 := knH_0 (h := h) (L := insA [] ps)
        unfold msFz
        generalize knH h (insA [] ps) = H at *
        simp [g0, dW]
      by_cases z : ((0, 0) : Nat × Nat) ∈ (insA [] ps).map (·.1)
      · rw [decide_eq_true z, Bool.and_true]
        rw [decide_eq_true z] at cdi
        refine stN (env2 := [some T.enc, some U.enc, some (.tup l), some (.ref h.length), y4, none, none, none]) (h2 := knH h (insA [] ps)) (by
          rw [fz]
          generalize knH h (insA [] ps) = H at *
          simp [cdi]) ?_
        rw [ap_msCons, for_st (ds := ps.map tP2) (h2 := knH h (insA [] ps)) (by rw [el]; simp)]
        rcases cl with ⟨q, e2, e⟩ | ⟨q, e⟩
        · rw [e, q]
          simp
        · rw [e, q]
          simp
      · rw [decide_eq_false z, Bool.and_false]
        rw [decide_eq_false z] at cdi
        rw [ap_msCons, fz]
        generalize knH h (insA [] ps) = H at *
        simp [cdi]
    · have c' : l.all (prB T U) = false := by simpa using c
      have hb : holdsB T U (.tup l) = false := by
        show (if c : l.all (prB T U) = true then _ else _) = _
        rw [dif_neg c]
      rw [hb]
      refine callC_same rfl ?_
      unfold m_pairs_hold
      generalize mFz (mLc (iSeq (mVar 2)) (gSet 4) mYes e_pairs_hold_1 [4]) = F at *
      simp [al, comp, -List.map_map, ba, c']
  · have hb : holdsB T U X = false := by
      cases X with
      | tup l =>
        have := nt []
        simp [kitB] at this
      | _ => rfl
    rw [hb]
    refine callC_same rfl ?_
    have := nt h
    unfold m_pairs_hold
    simp [al, this]
end
end NR

set_option Elab.async false
set_option linter.all false
set_option maxRecDepth 100000
set_option maxHeartbeats 4000000
namespace NR
open PySem PySem.Spec PyProof.Rows L2
open Classical
section
variable {T U : Tb} {h : IH}
/-! the law's looker -/
theorem lhs_loop {X : D} {x5 : Option D} : ∀ (l : List D) (L : List Ent) (x4 : Option D), (∀ x ∈ l, ElOk T U x) → l.length + L.length ≤ 20000 →
    (∃ c : l.all (prB T U) = true, ∃ y4, forL (gSet 4) b__law_holds_1 l [some T.enc, some U.enc, some X, some (.ref h.length), x4, x5] (knH h L) = .nx [some T.enc, some U.enc, some X, some (.ref h.length), y4, x5] (knH h (insA L (goodL c).choose))) ∨ (l.all (prB T U) = false ∧ ∃ L', forL (gSet 4) b__law_holds_1 l [some T.enc, some U.enc, some X, some (.ref h.length), x4, x5] (knH h L) = .rt (.bl false) (knH h L'))
  | [], L, x4, _, _ => .inl ⟨rfl, x4, by
    have e := (goodL (T := T) (U := U) (l := []) rfl).choose_spec.1
    generalize (goodL (T := T) (U := U) (l := []) rfl).choose = ps at *
    have : ps = [] := by
      cases ps with
      | nil => rfl
      | cons _ _ => cases e
    subst this
    rfl⟩
  | x :: l, L, x4, hl, ll => by
    rw [List.length_cons] at ll
    have ex := hl x List.mem_cons_self
    rw [forL_cons (e1 := [some T.enc, some U.enc, some X, some (.ref h.length), some x, x5]) rfl]
    by_cases g : prB T U x = true
    · obtain ⟨p, rfl, rm, kk⟩ := of_decide_eq_true g
      have lw := ex.lw (knH h L)
      rw [g] at lw
      have pt := knH_put (h := h) (L := L) (p := p) (by omega)
      have e : b__law_holds_1 [some T.enc, some U.enc, some X, some (.ref h.length), some (tP2 p), x5] (knH h L) = .nx [some T.enc, some U.enc, some X, some (.ref h.length), some (tP2 p), x5] (knH h (insE L p)) := by
        unfold b__law_holds_1
        generalize knH h L = H at *
        generalize tP2 p = P at *
        simp [lw, pt]
      rw [e, on_nx]
      have il := insE_len (L := L) (p := p)
      rcases lhs_loop (X := X) (x5 := x5) l (insE L p) (some (tP2 p)) (fun y hy => hl y (List.mem_cons_of_mem _ hy)) (by omega) with ⟨c, y4, e2⟩ | ⟨c, L', e2⟩
      · have c2 : (tP2 p :: l).all (prB T U) = true := by rw [List.all_cons, g, c]; rfl
        refine .inl ⟨c2, y4, ?_⟩
        rw [e2]
        have a1 := (goodL c).choose_spec.1
        have a2 := (goodL c2).choose_spec.1
        generalize (goodL c).choose = ps at *
        generalize (goodL c2).choose = qs at *
        have : qs = p :: ps := by
          cases qs with
          | nil => cases a2
          | cons q qs =>
            rw [List.map_cons, List.cons.injEq] at a2
            have h2 : ∀ (a b : List (Nat × Nat)), a.map tP2 = b.map tP2 → a = b := by
              intro a
              induction a with
              | nil => intro b e; cases b with
                | nil => rfl
                | cons _ _ => cases e
              | cons u a ih => intro b e; cases b with
                | nil => cases e
                | cons v b =>
                  rw [List.map_cons, List.map_cons, List.cons.injEq] at e
                  rw [tP2_inj e.1, ih b e.2]
            rw [tP2_inj a2.1, h2 qs ps (by rw [← a2.2, ← a1])]
        rw [this]
        rfl
      · refine .inr ⟨by rw [List.all_cons, g, c]; rfl, L', e2⟩
    · have g' : prB T U x = false := by simpa using g
      have lw := ex.lw (knH h L)
      rw [g'] at lw
      refine .inr ⟨by rw [List.all_cons, g', Bool.false_and], L, ?_⟩
      have e : b__law_holds_1 [some T.enc, some U.enc, some X, some (.ref h.length), some x, x5] (knH h L) = .rt (.bl false) (knH h L) := by
        unfold b__law_holds_1
        generalize knH h L = H at *
        simp [lw]
      rw [e]
      rfl
theorem lcl_loop (W : Two T U) {X : D} {L : List Ent} {H : IH} {n : Nat} (hn : H[n]? = some (dW tt L)) {ps : List (Nat × Nat)} (hp : ∀ p ∈ ps, Rm T U p) (x4 x5 : Option D) :
    (ps.all (fun p => decide (ClP T U L p)) = true ∧ ∃ y4 y5, forL (gSet 4) b__law_holds_3 (ps.map tP2) [some T.enc, some U.enc, some X, some (.ref n), x4, x5] H = .nx [some T.enc, some U.enc, some X, some (.ref n), y4, y5] H) ∨ (ps.all (fun p => decide (ClP T U L p)) = false ∧ forL (gSet 4) b__law_holds_3 (ps.map tP2) [some T.enc, some U.enc, some X, some (.ref n), x4, x5] H = .rt (.bl false) H) := by
  have sl : ∀ h : IH, bLen [.str T.sig] h = .ok (.int (T.sig.length : Nat)) h := fun h => bLen_str (by have := W.a.tg.l2; omega)
  have main := forL_chkM (gg := gSet 4) (b := b__law_holds_3) (h := H) (xs := ps) tP2 (fun env => ∃ y4 y5, env = [some T.enc, some U.enc, some X, some (.ref n), y4, y5]) (fun p => decide (ClP T U L p)) (fun p hpm env ⟨y4, y5, ee⟩ => by
    subst ee
    have rm := hp p hpm
    have p0 : ∀ h : IH, dIx (tP2 p) (.int 0) h = .ok (.int (p.1 : Nat)) h := fun h => dIx_seq (xs := [.int (p.1 : Nat), .int (p.2 : Nat)]) rfl (by omega) rfl
    have p1 : ∀ h : IH, dIx (tP2 p) (.int 1) h = .ok (.int (p.2 : Nat)) h := fun h => dIx_seq (xs := [.int (p.1 : Nat), .int (p.2 : Nat)]) rfl (by omega) rfl
    refine ⟨[some T.enc, some U.enc, some X, some (.ref n), some (tP2 p), y5], rfl, ?_⟩
    have inner := forL_chkM (gg := gSet 5) (b := b__law_holds_2) (h := H) (xs := List.range T.sig.length) nD (fun env => ∃ y5, env = [some T.enc, some U.enc, some X, some (.ref n), some (tP2 p), y5]) (fun j => decide (pdl T U p j ∈ L.map (·.1))) (fun j hj env ⟨y5, ee⟩ => by
      subst ee
      have hj := List.mem_range.mp hj
      obtain ⟨r1, a1, a2⟩ := go_ix W.a rm.1 hj
      obtain ⟨r2, b1, b2⟩ := go_ix W.b rm.2 (j := j) (by rw [W.s]; exact hj)
      have hn2 : D.tup [.int (((T.goes.getD p.1 []).getD j 0 : Nat) : Int), .int (((U.goes.getD p.2 []).getD j 0 : Nat) : Int)] = tP2 (pdl T U p j) := rfl
      refine ⟨[some T.enc, some U.enc, some X, some (.ref n), some (tP2 p), some (.int (j : Nat))], rfl, ?_⟩
      have di := dDIn_dW (g := tt) (p := pdl T U p j) hn
      rw [← hn2] at di
      clear hn2
      generalize tP2 p = P at *
      generalize (T.goes.getD p.1 []).getD j 0 = va at *
      generalize (U.goes.getD p.2 []).getD j 0 = vb at *
      by_cases c : pdl T U p j ∈ L.map (·.1)
      · rw [decide_eq_true c] at di
        refine .inl ⟨decide_eq_true c, [some T.enc, some U.enc, some X, some (.ref n), some P, some (.int (j : Nat))], ?_, _, rfl⟩
        unfold b__law_holds_2
        simp only [ap_msIf, ap_mTb, ap_mOp, ap_mTup, ap_mCons, ap_mNil, ap_mVar, ap_mC, List.getElem?_cons_succ, List.getElem?_cons_zero, bind_ok, tT1, p0, p1, a1, a2, b1, b2]
        simp [di]
      · rw [decide_eq_false c] at di
        refine .inr ⟨decide_eq_false c, ?_⟩
        unfold b__law_holds_2
        simp only [ap_msIf, ap_mTb, ap_mOp, ap_mTup, ap_mCons, ap_mNil, ap_mVar, ap_mC, List.getElem?_cons_succ, List.getElem?_cons_zero, bind_ok, tT1, p0, p1, a1, a2, b1, b2]
        simp [di]) [some T.enc, some U.enc, some X, some (.ref n), some (tP2 p), y5] ⟨y5, rfl⟩
    have rg : intsFrom 0 T.sig.length = (List.range T.sig.length).map nD := by
      unfold intsFrom
      refine List.map_congr_left fun i _ => ?_
      show D.int (0 + (i : Int)) = D.int (i : Int)
      rw [Int.zero_add]
    have it : b__law_holds_3 [some T.enc, some U.enc, some X, some (.ref n), some (tP2 p), y5] H = forL (gSet 5) b__law_holds_2 ((List.range T.sig.length).map nD) [some T.enc, some U.enc, some X, some (.ref n), some (tP2 p), y5] H := by
      unfold b__law_holds_3
      rw [← rg]
      exact for_st (iRange1_of (j := (T.sig.length : Nat)) (k := T.sig.length) (by simp [tT0, sl]) rfl (by have := W.a.tg.l2; omega))
    have iff : ((List.range T.sig.length).all fun j => decide (pdl T U p j ∈ L.map (·.1))) = decide (ClP T U L p) := by
      rw [Bool.eq_iff_iff]
      simp only [List.all_eq_true, decide_eq_true_eq, List.mem_range]
      rfl
    rw [it]
    rcases inner with ⟨q, e2, e, y, rfl⟩ | ⟨q, e⟩
    · exact .inl ⟨by rw [← iff]; exact q, _, e, _, _, rfl⟩
    · exact .inr ⟨by rw [← iff]; exact q, e⟩) [some T.enc, some U.enc, some X, some (.ref n), x4, x5] ⟨_, _, rfl⟩
  rcases main with ⟨q, e2, e, y4, y5, rfl⟩ | ⟨q, e⟩
  · exact .inl ⟨q, y4, y5, e⟩
  · exact .inr ⟨q, e⟩
theorem lhold_call (W : Two T U) {X : D} (ok : ThOk T U X) (h : IH) : callC 3 m__law_holds [T.enc, U.enc, X] h = .ok (.bl (holdsB T U X)) h := by
  rcases ok with ⟨l, rfl, ll, hl⟩ | nt
  · rcases lhs_loop (T := T) (U := U) (h := h) (X := .tup l) (x5 := none) l [] none hl (by simp; omega) with ⟨c, y4, lp⟩ | ⟨c, L', lp⟩
    · have hb : holdsB T U (.tup l) = hldB T U (insA [] (goodL c).choose) (goodL c).choose := by
        show (if c : l.all (prB T U) = true then _ else _) = _
        rw [dif_pos c]
      obtain ⟨el, hp⟩ := (goodL c).choose_spec
      rw [hb]
      generalize (goodL c).choose = ps at *
      have cl := lcl_loop W (X := .tup l) (L := insA [] ps) (H := knH h (insA [] ps)) (n := h.length) knH_0 hp y4 none
      have di := dDIn_dW2 (p := (0, 0)) (knH_0 (h := h) (L := insA [] ps))
      refine callC_pure (g := [dW tt (insA [] ps)]) rfl ?_ (by simp)
      show _ = R.ok (D.bl (hldB T U (insA [] ps) ps)) (knH h (insA [] ps))
      unfold m__law_holds
      rw [ap_fnM]
      simp only [List.map_cons, List.map_nil, List.length_cons, List.length_nil, List.cons_append, List.nil_append, Nat.reduceAdd, Nat.reduceSub, List.replicate]
      refine stN (env2 := [some T.enc, some U.enc, some (.tup l), none, none, none]) (h2 := h) (by simp) ?_
      refine stN (env2 := [some T.enc, some U.enc, some (.tup l), some (.ref h.length), none, none]) (h2 := knH h []) (by simp; rfl) ?_
      refine stN (env2 := [some T.enc, some U.enc, some (.tup l), some (.ref h.length), y4, none]) (h2 := knH h (insA [] ps)) (by
        rw [for_st (ds := l) (h2 := knH h []) (by simp)]
        exact lp) ?_
      have fz : ∀ (b : MS), msFz 3 b [some T.enc, some U.enc, some (.tup l), some (.ref h.length), y4, none] (knH h (insA [] ps)) = b [some T.enc, some U.enc, some (.tup l), some (.ref h.length), y4, none] (knH h (insA [] ps)) := fun b => by
        have g0 := knH_0 (h := h) (L := insA [] ps)
        unfold msFz
        generalize knH h (insA [] ps) = H at *
        simp [g0, dW]
      rw [ap_msCons, fz, for_st (ds := ps.map tP2) (h2 := knH h (insA [] ps)) (by rw [el]; simp)]
      unfold hldB
      rcases cl with ⟨q, z4, z5, e⟩ | ⟨q, e⟩
      · rw [e, q, Bool.true_and]
        have cdi : dDIn false (.tup [.int 0, .int 0]) (.ref h.length) (knH h (insA [] ps)) = .ok (.bl (decide ((0, 0) ∈ (insA [] ps).map (·.1)))) (knH h (insA [] ps)) := di
        generalize decide (((0, 0) : Nat × Nat) ∈ (insA [] ps).map (·.1)) = BB at *
        generalize knH h (insA [] ps) = H at *
        simp [cdi]
      · rw [e, q]
        simp
    · have hb : holdsB T U (.tup l) = false := by
        show (if c : l.all (prB T U) = true then _ else _) = _
        rw [dif_neg (by rw [c]; simp)]
      rw [hb]
      refine callC_pure (g := [dW tt L']) rfl ?_ (by simp)
      show _ = R.ok (D.bl false) (knH h L')
      unfold m__law_holds
      rw [ap_fnM]
      simp only [List.map_cons, List.map_nil, List.length_cons, List.length_nil, List.cons_append, List.nil_append, Nat.reduceAdd, Nat.reduceSub, List.replicate]
      refine stN (env2 := [some T.enc, some U.enc, some (.tup l), none, none, none]) (h2 := h) (by simp) ?_
      refine stN (env2 := [some T.enc, some U.enc, some (.tup l), some (.ref h.length), none, none]) (h2 := knH h []) (by simp; rfl) ?_
      rw [ap_msCons, for_st (ds := l) (h2 := knH h []) (by simp), lp]
      simp
  · have hb : holdsB T U X = false := by
      cases X with
      | tup l =>
        have := nt []
        simp [kitB] at this
      | _ => rfl
    rw [hb]
    refine callC_same rfl ?_
    have := nt h
    unfold m__law_holds
    simp [this]
end
end NR

set_option Elab.async false
set_option linter.all false
set_option maxRecDepth 100000
set_option maxHeartbeats 4000000
namespace NR
open PySem PySem.Spec PyProof.Rows L2
/-! ### the rising pairs -/
def ii (p : Nat × Nat) : Int × Int := ((p.1 : Nat), (p.2 : Nat))
def srtD (P : List (Nat × Nat)) : List D := (isrtP (P.map ii)).map iiD
theorem srtD_len {P : List (Nat × Nat)} : (srtD P).length = P.length := by
  unfold srtD
  rw [List.length_map, (isrtP_perm _).length_eq, List.length_map]
theorem keysI_P {g : List Nat → D} : ∀ {L : List Ent}, keysI (L.map fun e => (kP2 e.1, g e.2)) = some ((L.map (·.1)).map ii)
  | [] => rfl
  | e :: L => by
    rw [List.map_cons, keysI, keysI_P]
    rfl
section
variable {H : IH} {n : Nat} {L : List Ent} {g : List Nat → D}
theorem sortV_dict (e : H[n]? = some (dW g L)) : bSortedV [.ref n] H = .ok (.ref H.length) (H ++ [.lst (srtD (L.map (·.1)))]) := by
  have l0 : lstOf H (.ref n) = none := by
    unfold lstOf
    dsimp only
    rw [e]
    rfl
  unfold bSortedV
  dsimp only
  rw [l0]
  show (match H[n]? with | some (.dt kvs) => _ | _ => _) = _
  rw [e]
  unfold dW
  dsimp only
  rw [keysI_P]
  rfl
theorem allM_P : ∀ {P : List (Nat × Nat)}, allM pairI? (P.map tP2) = some (P.map ii)
  | [] => rfl
  | p :: P => by
    rw [List.map_cons, allM, allM_P]
    rfl
theorem sortV_list {P : List (Nat × Nat)} (ne : P ≠ []) : bSortedV [.fl (P.map tP2)] H = .ok (.ref H.length) (H ++ [.lst (srtD P)]) := by
  have l0 : lstOf H (.fl (P.map tP2)) = some (P.map tP2) := rfl
  have l1 : allM D.int? (P.map tP2) = none := by
    cases P with
    | nil => exact absurd rfl ne
    | cons p P => rfl
  unfold bSortedV
  dsimp only
  rw [l0]
  simp only [Option.bind_some]
  rw [l1, allM_P]
  rfl
theorem lo_iiD {p : Int × Int} {n : Nat} : (iiD p).lo n = true := by simp [iiD]
theorem lo_srtD {P : List (Nat × Nat)} {n : Nat} : D.loL n (srtD P) = true := loL_of fun y hy => by
  obtain ⟨p, _, rfl⟩ := List.mem_map.mp hy
  exact lo_iiD
end
section
variable {T U : Tb}
noncomputable def prsD (T U : Tb) : D := match fstP T U T.kinds U.kinds with
  | some _ => .non
  | none => .tup (srtD ((PL T U).map (·.1)))
theorem pairs_call (W : Two T U) (h : IH) : callC 2 m_pairs [T.enc, U.enc] h = .ok (prsD T U) h := by
  have e1 := parted_call W h
  refine callC_same rfl ?_
  unfold m_pairs prsD
  cases ef : fstP T U T.kinds U.kinds with
  | some w =>
    rw [ef] at e1
    have e1 : callC 2 m_parted [T.enc, U.enc] h = .ok (.str (txt T.sig w)) h := e1
    simp [e1, dIsN]
  | none =>
    rw [ef] at e1
    have e1 : callC 2 m_parted [T.enc, U.enc] h = .ok .non h := e1
    have e2 := tog_call W h
    have e3 := sortV_dict (tgH_0 (T := T) (h := h) (L := PL T U))
    have fz : fzR h (.ok (.ref (tgH T h (PL T U)).length) (tgH T h (PL T U) ++ [.lst (srtD ((PL T U).map (·.1)))])) = .ok (.fl (srtD ((PL T U).map (·.1)))) h := by
      rw [fzR_at (xs := srtD ((PL T U).map (·.1))) get_last (by unfold tgH; simp) lo_srtD (by unfold tgH; simp)]
      unfold tgH
      simp
    generalize srtD ((PL T U).map (·.1)) = S at *
    generalize tgH T h (PL T U) = H at *
    simp [e1, dIsN, e2, e3, fz]
/-! all pairs -/
theorem every_call (W : Two T U) (h : IH) : ∃ ps : List (Nat × Nat), callC 2 m__law_every [T.enc, U.enc] h = .ok (.fl (ps.map tP2)) h ∧ ps.length ≤ 1024 ∧ ∀ p ∈ ps, Rm T U p := by
  have g1 := W.a.g2
  have g2 := W.b.g2
  have loop : ∀ (n a : Nat) (acc : List (Nat × Nat)) (x3 x4 : Option D), a + n = T.goes.length → acc.length ≤ 32 * a → (∀ p ∈ acc, Rm T U p) →
      ∃ (ps : List (Nat × Nat)) (y3 y4 : Option D), forL (gSet 3) b__law_every_2 (intsFrom (a : Nat) n) [some T.enc, some U.enc, some (.fl (acc.map tP2)), x3, x4] h = .nx [some T.enc, some U.enc, some (.fl (ps.map tP2)), y3, y4] h ∧ ps.length ≤ 32 * (a + n) ∧ ∀ p ∈ ps, Rm T U p := by
    intro n
    induction n with
    | zero => exact fun a acc x3 x4 _ l r => ⟨acc, x3, x4, rfl, by omega, r⟩
    | succ n ih =>
      intro a acc x3 x4 an l r
      have comp := lcF_map (env := [some T.enc, some U.enc, some (.fl (acc.map tP2)), some (.int (a : Nat)), x4]) (h := h) (it := iRange1 (mCons (mB bLen (mCons (mOp dIx (mVar 1) (mC (.int 1))) (mNil))) (mNil))) (ws := [4]) (gg := gSet 4) (m := e__law_every_1) (ds := intsFrom 0 U.goes.length) (fun d => .tup [.int (a : Nat), d]) (iRange1_of (j := (U.goes.length : Nat)) (k := U.goes.length) (by simp [tT1]) rfl (by omega)) (by simp; omega) (fun d hd => by
        obtain ⟨i, hi⟩ := List.mem_iff_getElem?.mp hd
        obtain ⟨_, rfl⟩ := intsFrom_get hi
        simp) (fun d hd => ⟨_, rfl, fun w => by unfold e__law_every_1; simp [wipeE, gSet]⟩)
      have ce : (intsFrom 0 U.goes.length).map (fun d => D.tup [.int (a : Nat), d]) = ((List.range U.goes.length).map fun b => (a, b)).map tP2 := by
        unfold intsFrom
        rw [List.map_map, List.map_map]
        refine List.map_congr_left fun i _ => ?_
        show D.tup [.int (a : Nat), .int (0 + (i : Int))] = D.tup [.int (a : Nat), .int (i : Int)]
        rw [Int.zero_add]
      rw [ce] at comp
      generalize hq : (List.range U.goes.length).map (fun b => (a, b)) = q at comp
      have ql : q.length = U.goes.length := by rw [← hq]; simp
      have qr : ∀ p ∈ q, Rm T U p := fun p hp => by
        rw [← hq] at hp
        obtain ⟨b, hb, rfl⟩ := List.mem_map.mp hp
        exact ⟨by show a < _; omega, List.mem_range.mp hb⟩
      obtain ⟨ps, y3, y4, e, el, er⟩ := ih (a + 1) (acc ++ q) (some (.int (a : Nat))) x4 (by omega) (by rw [List.length_append]; omega) (fun p hp => by
        rcases List.mem_append.mp hp with hp | hp
        · exact r p hp
        · exact qr p hp)
      refine ⟨ps, y3, y4, ?_, by omega, er⟩
      rw [intsFrom_succ, forL_cons (e1 := [some T.enc, some U.enc, some (.fl (acc.map tP2)), some (.int (a : Nat)), x4]) rfl]
      have ad : dAdd (.fl (acc.map tP2)) (.fl (q.map tP2)) h = newL h ((acc ++ q).map tP2) := by
        rw [dAdd_fl, if_pos (by simp; omega), List.map_append]
      have fz : fzD h h ((acc ++ q).map tP2) = .ok (.fl ((acc ++ q).map tP2)) h := fzD_same (loL_of fun y hy => by
        obtain ⟨p, _, rfl⟩ := List.mem_map.mp hy
        simp)
      have ev : b__law_every_2 [some T.enc, some U.enc, some (.fl (acc.map tP2)), some (.int (a : Nat)), x4] h = .nx [some T.enc, some U.enc, some (.fl ((acc ++ q).map tP2)), some (.int (a : Nat)), x4] h := by
        unfold b__law_every_2
        generalize mFz (mLc (iRange1 (mCons (mB bLen (mCons (mOp dIx (mVar 1) (mC (.int 1))) (mNil))) (mNil))) (gSet 4) mYes e__law_every_1 [4]) = F at *
        generalize (acc ++ q).map tP2 = A1 at *
        generalize acc.map tP2 = A2 at *
        generalize q.map tP2 = A3 at *
        simp [comp, ad, fz_newL, fz]
      rw [ev, on_nx, show ((a : Int) + 1) = ((a + 1 : Nat) : Int) by omega]
      exact e
  obtain ⟨ps, y3, y4, e, el, er⟩ := loop T.goes.length 0 [] none none (by omega) (by simp) (by simp)
  refine ⟨ps, callC_same rfl ?_, by omega, er⟩
  have f0 : fzD h h [] = .ok (.fl []) h := fzD_same (by simp)
  unfold m__law_every
  rw [ap_fnM]
  simp only [List.map_cons, List.map_nil, List.length_cons, List.length_nil, List.cons_append, List.nil_append, Nat.reduceAdd, Nat.reduceSub, List.replicate]
  refine stN (env2 := [some T.enc, some U.enc, some (.fl []), none, none]) (h2 := h) (by simp [f0]) ?_
  refine stN (env2 := [some T.enc, some U.enc, some (.fl (ps.map tP2)), y3, y4]) (h2 := h) ?_ (by simp)
  rw [for_st (ds := intsFrom 0 T.goes.length) (h2 := h) (iRange1_of (j := (T.goes.length : Nat)) (k := T.goes.length) (by simp [tT1]) rfl (by omega))]
  exact e
/-! rows put otherwise -/
theorem el_pair (W : Two T U) {i j : Int} : ElOk T U (.tup [.int i, .int j]) := el_two W (.inl ⟨i, rfl⟩) (.inl ⟨j, rfl⟩) (fun n => rfl) (fun n => rfl)
theorem numq_bl {b : Bool} : NumQ (.bl b) := .inr ⟨rfl, fun h => .inl ⟨b, rfl⟩⟩
theorem numq_str {s : List Nat} : NumQ (.str s) := .inr ⟨rfl, fun h => .inr rfl⟩
theorem numq_tup {s : List D} : NumQ (.tup s) := .inr ⟨rfl, fun h => .inr rfl⟩
theorem el_tups (W : Two T U) {ps : List (Nat × Nat)} (pl : ps.length ≤ 5000) : ElOk T U (.tup (ps.map tP2)) := by
  by_cases q : ps.length = 2
  · match ps, q with
    | [p, r], _ => exact el_two W numq_tup numq_tup (fun n => by simp [tP2]) (fun n => by simp [tP2])
  · exact el_len (fun x hx => by
      obtain ⟨p, _, rfl⟩ := List.mem_map.mp hx
      exact numq_tup) (by rw [List.length_map]; exact q) (by rw [List.length_map]; omega) (fun x hx n => by
      obtain ⟨p, _, rfl⟩ := List.mem_map.mp hx
      simp)
def ThQ (T U : Tb) (X : D) : Prop := ThOk T U X ∧ ∀ n, X.lo n = true
theorem th_tup {l : List D} (ll : l.length ≤ 5000) (hl : ∀ x ∈ l, ElOk T U x) : ThQ T U (.tup l) := ⟨.inl ⟨l, rfl, ll, hl⟩, fun n => by rw [lo_tup]; exact loL_of fun y hy => (hl y hy).lo n⟩
theorem th_rows (W : Two T U) {ps : List (Nat × Nat)} (pl : ps.length ≤ 5000) : ThQ T U (.tup (ps.map tP2)) := th_tup (by rw [List.length_map]; exact pl) fun x hx => by
  obtain ⟨p, _, rfl⟩ := List.mem_map.mp hx
  exact el_pair W
theorem bent_rows_call (W : Two T U) {rp : List (Nat × Nat)} (r1 : 1 ≤ rp.length) (r2 : rp.length ≤ 2000) {b : Nat} {z c : Cell} {g : IH} (hp : Pn (b + 10) c) :
    ∃ (X : D) (c' : Cell), callC 4 m__law_bent_rows [.ref 1, T.enc, U.enc, .tup (rp.map tP2)] (z :: c :: g) = .ok X (z :: c' :: g) ∧ ThQ T U X ∧ Pn b c' := by
  have g1 := W.a.g1
  have g2 := W.a.g2
  have g3 := W.b.g1
  have g4 := W.b.g2
  obtain ⟨road, c1, e1, v1, p1⟩ := draw_call (b := b + 9) (z := z) (c := c) (g := g) (m := 6) (hp.mono (by omega)) (by omega) (by omega)
  obtain ⟨a, c2, e2, v2, p2⟩ := draw_call (b := b + 8) (z := z) (c := c1) (g := g) (m := (rp.length : Nat)) (p1.mono (by omega)) (by omega) (by omega)
  have al : a < rp.length := by omega
  obtain ⟨pf, ps, hat⟩ : ∃ pf ps : Nat, rp[a]? = some (pf, ps) := ⟨rp[a].1, rp[a].2, List.getElem?_eq_getElem al⟩
  obtain ⟨v, c3, e3, v3, p3⟩ := draw_call (b := b + 7) (z := z) (c := c2) (g := g) (m := 4) (p2.mono (by omega)) (by omega) (by omega)
  generalize hl : rp.map tP2 = l
  have ll : l.length = rp.length := by rw [← hl, List.length_map]
  have hel : ∀ x ∈ l, ElOk T U x := fun x hx => by
    rw [← hl] at hx
    obtain ⟨p, _, rfl⟩ := List.mem_map.mp hx
    exact el_pair W
  have bl : ∀ h : IH, bLen [.tup l] h = .ok (.int (rp.length : Nat)) h := fun h => by rw [bLen_tup, ll]
  have ixl : ∀ h : IH, dIx (.tup l) (.int (a : Nat)) h = .ok (.tup [.int (pf : Nat), .int (ps : Nat)]) h := fun h => dIx_nat (xs := l) rfl (by rw [← hl, List.getElem?_map, hat]; rfl)
  obtain ⟨st, es⟩ : ∃ st : Int, [D.int 1, .int (-1), .int 32, .int (-32)][v]? = some (.int st) := by
    have : v = 0 ∨ v = 1 ∨ v = 2 ∨ v = 3 := by omega
    rcases this with rfl | rfl | rfl | rfl <;> exact ⟨_, rfl⟩
  have f1 : ∀ h : IH, fzD h h [.int 1, .int (-1), .int 32, .int (-32)] = .ok (.fl [.int 1, .int (-1), .int 32, .int (-32)]) h := fun h => fzD_same (by simp)
  have ixs : ∀ h : IH, dIx (.fl [.int 1, .int (-1), .int 32, .int (-32)]) (.int (v : Nat)) h = .ok (.int st) h := fun h => dIx_nat (xs := [.int 1, .int (-1), .int 32, .int (-32)]) rfl es
  -- slices
  have s1 : cutD l none (some (a : Nat)) = l.take a := by rw [cutD_to (by omega), Int.toNat_natCast]
  have s2 : ∀ k : Nat, cutD l (some (k : Nat)) none = l.drop k := fun k => by rw [cutD_from (by omega)]; rfl
  have s3 : cutD l (some ((a : Nat) + 1)) none = l.drop (a + 1) := by rw [cutD_from (by omega)]; rfl
  have tl : (l.take a).length ≤ 3000 := by rw [List.length_take]; omega
  have dl : ∀ k, (l.drop k).length ≤ 3000 := fun k => by rw [List.length_drop]; omega
  have ad0 : ∀ h : IH, dAdd (.tup (l.take a)) (.tup (l.drop (a + 1))) h = .ok (.tup (l.take a ++ l.drop (a + 1))) h := fun h => by rw [dAdd_tup, if_pos (by have := dl (a + 1); omega)]
  have ad1 : ∀ (x : D) (h : IH), dAdd (.tup (l.take a)) (.tup [x]) h = .ok (.tup (l.take a ++ [x])) h := fun x h => by rw [dAdd_tup, if_pos (by simp only [List.length_singleton]; omega)]
  have ad2 : ∀ (x : D) (k : Nat) (h : IH), dAdd (.tup (l.take a ++ [x])) (.tup (l.drop k)) h = .ok (.tup (l.take a ++ [x] ++ l.drop k)) h := fun x k h => by rw [dAdd_tup, if_pos (by rw [List.length_append, List.length_singleton]; have := dl k; omega)]
  have thx : ∀ (x : D) (k : Nat), ElOk T U x → ThQ T U (.tup (l.take a ++ [x] ++ l.drop k)) := fun x k hx => th_tup (by rw [List.length_append, List.length_append, List.length_singleton, List.length_take, List.length_drop]; omega) fun y hy => by
    rcases List.mem_append.mp hy with hy | hy
    · rcases List.mem_append.mp hy with hy | hy
      · exact hel y (List.mem_of_mem_take hy)
      · rw [List.mem_singleton] at hy
        rw [hy]
        exact hx
    · exact hel y (List.mem_of_mem_drop hy)
  have th0 : ThQ T U (.tup (l.take a ++ l.drop (a + 1))) := th_tup (by rw [List.length_append, List.length_take, List.length_drop]; omega) fun y hy => by
    rcases List.mem_append.mp hy with hy | hy
    · exact hel y (List.mem_of_mem_take hy)
    · exact hel y (List.mem_of_mem_drop hy)
  have lol : ∀ n, D.loL n l = true := fun n => loL_of fun y hy => (hel y hy).lo n
  let E : EV := [some (.ref 1), some T.enc, some U.enc, some (.tup l), some (.int (road : Nat)), some (.int (a : Nat)), some (.int (pf : Nat)), some (.int (ps : Nat)), some (.int st), none, none, none]
  -- the head of the def
  have head : ∀ (rest : MS) (o : R D), (rest E (z :: c3 :: g)).fin = o → (msCons (msSet 4 (mCall 2 (m__law_take) (mCons (mVar 0) (mCons (mC (.int 6)) (mNil)))))
    (msCons (msSet 5 (mCall 2 (m__law_take) (mCons (mVar 0) (mCons (mB bLen (mCons (mVar 3) (mNil))) (mNil)))))
    (msCons (msSetT (gSets [6, 7]) (mOp dIx (mVar 3) (mVar 5)))
    (msCons (msSet 8 (mOp dIx (mFz (mLst (mCons (mC (.int 1)) (mCons (mNeg (mC (.int 1))) (mCons (mC (.int 32)) (mCons (mNeg (mC (.int 32))) (mNil))))))) (mCall 2 (m__law_take) (mCons (mVar 0) (mCons (mC (.int 4)) (mNil)))))) rest))) [some (.ref 1), some T.enc, some U.enc, some (.tup l), none, none, none, none, none, none, none, none] (z :: c :: g)).fin = o := fun rest o er => by
    refine stN (env2 := [some (.ref 1), some T.enc, some U.enc, some (.tup l), some (.int (road : Nat)), none, none, none, none, none, none, none]) (h2 := z :: c1 :: g) (by simp [e1]) ?_
    refine stN (env2 := [some (.ref 1), some T.enc, some U.enc, some (.tup l), some (.int (road : Nat)), some (.int (a : Nat)), none, none, none, none, none, none]) (h2 := z :: c2 :: g) (by simp only [ap_msSet, ap_mCall, ap_mCons, ap_mNil, ap_mVar, ap_mB, List.getElem?_cons_zero, List.getElem?_cons_succ, bind_ok, bl, e2, bindS_ok]; rfl) ?_
    refine stN (env2 := [some (.ref 1), some T.enc, some U.enc, some (.tup l), some (.int (road : Nat)), some (.int (a : Nat)), some (.int (pf : Nat)), some (.int (ps : Nat)), none, none, none, none]) (h2 := z :: c2 :: g) (by simp [ixl, gSets]) ?_
    refine stN (env2 := E) (h2 := z :: c3 :: g) (by simp [f1, e3, ixs]; rfl) er
  have slf : ∀ (hh : IH), True := fun _ => trivial
  by_cases q01 : road < 2
  · refine ⟨.tup (l.take a ++ l.drop (a + 1)), c3, callC_pen0 rfl ?_, th0, p3.mono (by omega)⟩
    unfold m__law_bent_rows
    rw [ap_fnM]
    simp only [List.map_cons, List.map_nil, List.length_cons, List.length_nil, List.cons_append, List.nil_append, Nat.reduceAdd, Nat.reduceSub, List.replicate]
    refine head _ _ ?_
    have q' : (road : Int) < 2 := by omega
    show (msCons _ _ [some (.ref 1), some T.enc, some U.enc, some (.tup l), some (.int (road : Nat)), some (.int (a : Nat)), some (.int (pf : Nat)), some (.int (ps : Nat)), some (.int st), none, none, none] _).fin = _
    simp [q', s1, s3, ad0]
  · have n01 : ¬ (road : Int) < 2 := by omega
    have n01' : ¬ road < 2 := q01
    by_cases q2 : road = 2
    · subst q2
      obtain ⟨u, c4, e4, v4, p4⟩ := draw_call (b := b + 6) (z := z) (c := c3) (g := g) (m := (T.goes.length : Nat)) (p3.mono (by omega)) (by omega) (by omega)
      obtain ⟨w, c5, e5, v5, p5⟩ := draw_call (b := b + 5) (z := z) (c := c4) (g := g) (m := (U.goes.length : Nat)) (p4.mono (by omega)) (by omega) (by omega)
      refine ⟨.tup (l.take a ++ [.tup [.int (u : Nat), .int (w : Nat)]] ++ l.drop a), c5, callC_pen0 rfl ?_, thx _ _ (el_pair W), p5.mono (by omega)⟩
      unfold m__law_bent_rows
      rw [ap_fnM]
      simp only [List.map_cons, List.map_nil, List.length_cons, List.length_nil, List.cons_append, List.nil_append, Nat.reduceAdd, Nat.reduceSub, List.replicate]
      refine head _ _ ?_
      have x1 := ad1 (.tup [.int (u : Nat), .int (w : Nat)])
      have x2 := ad2 (.tup [.int (u : Nat), .int (w : Nat)]) a
      generalize l.take a ++ [.tup [.int (u : Nat), .int (w : Nat)]] ++ l.drop a = A1 at *
      generalize l.take a ++ [.tup [.int (u : Nat), .int (w : Nat)]] = A2 at *
      show (msCons _ _ [some (.ref 1), some T.enc, some U.enc, some (.tup l), some (.int 2), some (.int (a : Nat)), some (.int (pf : Nat)), some (.int (ps : Nat)), some (.int st), none, none, none] _).fin = _
      simp [tT1, e4, e5, s1, s2, x1, x2]
    · by_cases q3 : road = 3
      · subst q3
        obtain ⟨u, c4, e4, v4, p4⟩ := draw_call (b := b + 6) (z := z) (c := c3) (g := g) (m := 5) (p3.mono (by omega)) (by omega) (by omega)
        obtain ⟨w, c5, e5, v5, p5⟩ := draw_call (b := b + 5) (z := z) (c := c4) (g := g) (m := 2) (p4.mono (by omega)) (by omega) (by omega)
        obtain ⟨L, hL⟩ : ∃ L : List D, L = [.tup [.int ((pf : Nat) + st), .int (ps : Nat)], .tup [.int (pf : Nat), .int ((ps : Nat) + st)], .tup [.int (ps : Nat), .int (pf : Nat)], .tup [.int (pf : Nat), .bl true], .tup [.bl true, .int (ps : Nat)]] := ⟨_, rfl⟩
        obtain ⟨x, ex, ox⟩ : ∃ x, L[u]? = some x ∧ ElOk T U x := by
          have : u = 0 ∨ u = 1 ∨ u = 2 ∨ u = 3 ∨ u = 4 := by omega
          subst hL
          rcases this with rfl | rfl | rfl | rfl | rfl
          · exact ⟨_, rfl, el_pair W⟩
          · exact ⟨_, rfl, el_pair W⟩
          · exact ⟨_, rfl, el_pair W⟩
          · exact ⟨_, rfl, el_two W (.inl ⟨_, rfl⟩) numq_bl (fun n => rfl) (fun n => rfl)⟩
          · exact ⟨_, rfl, el_two W numq_bl (.inl ⟨_, rfl⟩) (fun n => rfl) (fun n => rfl)⟩
        have fL : ∀ h : IH, fzD h h L = .ok (.fl L) h := fun h => fzD_same (by rw [hL]; simp)
        have ixL : ∀ h : IH, dIx (.fl L) (.int (u : Nat)) h = .ok x h := fun h => dIx_nat (xs := L) rfl ex
        refine ⟨.tup (l.take a ++ [x] ++ l.drop (a + w)), c5, callC_pen0 rfl ?_, thx _ _ ox, p5.mono (by omega)⟩
        unfold m__law_bent_rows
        rw [ap_fnM]
        simp only [List.map_cons, List.map_nil, List.length_cons, List.length_nil, List.cons_append, List.nil_append, Nat.reduceAdd, Nat.reduceSub, List.replicate]
        refine head _ _ ?_
        have x1 := ad1 x
        have x2 := ad2 x (a + w)
        have s4 : cutD l (some ((a : Nat) + (w : Nat) : Int)) none = l.drop (a + w) := s2 (a + w)
        generalize l.take a ++ [x] ++ l.drop (a + w) = A1 at *
        generalize l.take a ++ [x] = A2 at *
        show (msCons _ _ [some (.ref 1), some T.enc, some U.enc, some (.tup l), some (.int 3), some (.int (a : Nat)), some (.int (pf : Nat)), some (.int (ps : Nat)), some (.int st), none, none, none] _).fin = _
        have fL' := fL (z :: c3 :: g)
        rw [hL] at fL' ixL
        simp [fL', e4, ixL, e5, s1, s4, x1, x2]
      · by_cases q4 : road = 4
        · subst q4
          obtain ⟨u, c4, e4, v4, p4⟩ := draw_call (b := b + 6) (z := z) (c := c3) (g := g) (m := 6) (p3.mono (by omega)) (by omega) (by omega)
          obtain ⟨L, hL⟩ : ∃ L : List D, L = [.fl [.int (pf : Nat), .int (ps : Nat)], .tup [.int (pf : Nat)], .tup [.int (pf : Nat), .int (ps : Nat), .int 0], .non, .tup [.int (pf : Nat), .str [48]], .int (pf : Nat)] := ⟨_, rfl⟩
          have ng : ∀ x : D, (∀ p, x ≠ tP2 p) → ¬ GoodP T U x := fun x h ⟨p, e, _⟩ => h p e
          obtain ⟨x, ex, ox⟩ : ∃ x, L[u]? = some x ∧ ElOk T U x := by
            have : u = 0 ∨ u = 1 ∨ u = 2 ∨ u = 3 ∨ u = 4 ∨ u = 5 := by omega
            subst hL
            rcases this with rfl | rfl | rfl | rfl | rfl | rfl
            · exact ⟨_, rfl, el_notup (fun h => rfl) (ng _ fun p e => by cases e) (fun n => by simp)⟩
            · exact ⟨_, rfl, el_len (fun x hx => by rw [List.mem_singleton] at hx; rw [hx]; exact .inl ⟨_, rfl⟩) (by simp) (by simp) (fun x hx n => by rw [List.mem_singleton] at hx; rw [hx]; rfl)⟩
            · refine ⟨_, rfl, el_len (fun x hx => ?_) (by simp) (by simp) (fun x hx n => ?_)⟩
              · rcases List.mem_cons.mp hx with rfl | hx
                · exact .inl ⟨_, rfl⟩
                rcases List.mem_cons.mp hx with rfl | hx
                · exact .inl ⟨_, rfl⟩
                rw [List.mem_singleton] at hx
                rw [hx]
                exact .inl ⟨_, rfl⟩
              · rcases List.mem_cons.mp hx with rfl | hx
                · rfl
                rcases List.mem_cons.mp hx with rfl | hx
                · rfl
                rw [List.mem_singleton] at hx
                rw [hx]
                rfl
            · exact ⟨_, rfl, el_notup (fun h => rfl) (ng _ fun p e => by cases e) (fun n => rfl)⟩
            · exact ⟨_, rfl, el_two W (.inl ⟨_, rfl⟩) numq_str (fun n => rfl) (fun n => rfl)⟩
            · exact ⟨_, rfl, el_notup (fun h => rfl) (ng _ fun p e => by cases e) (fun n => rfl)⟩
          have fL : ∀ h : IH, fzD h h L = .ok (.fl L) h := fun h => fzD_same (by rw [hL]; simp)
          have f2 : ∀ h : IH, fzD h h [.int (pf : Nat), .int (ps : Nat)] = .ok (.fl [.int (pf : Nat), .int (ps : Nat)]) h := fun h => fzD_same (by simp)
          have ixL : ∀ h : IH, dIx (.fl L) (.int (u : Nat)) h = .ok x h := fun h => dIx_nat (xs := L) rfl ex
          refine ⟨.tup (l.take a ++ [x] ++ l.drop a), c4, callC_pen0 rfl ?_, thx _ _ ox, p4.mono (by omega)⟩
          unfold m__law_bent_rows
          rw [ap_fnM]
          simp only [List.map_cons, List.map_nil, List.length_cons, List.length_nil, List.cons_append, List.nil_append, Nat.reduceAdd, Nat.reduceSub, List.replicate]
          refine head _ _ ?_
          have x1 := ad1 x
          have x2 := ad2 x a
          generalize l.take a ++ [x] ++ l.drop a = A1 at *
          generalize l.take a ++ [x] = A2 at *
          show (msCons _ _ [some (.ref 1), some T.enc, some U.enc, some (.tup l), some (.int 4), some (.int (a : Nat)), some (.int (pf : Nat)), some (.int (ps : Nat)), some (.int st), none, none, none] _).fin = _
          have fL' := fL (z :: c3 :: g)
          rw [hL] at fL' ixL
          simp [f2, fL', e4, ixL, s1, s2, x1, x2]
        · have q5 : road = 5 := by omega
          subst q5
          obtain ⟨u, c4, e4, v4, p4⟩ := draw_call (b := b + 6) (z := z) (c := c3) (g := g) (m := 8) (p3.mono (by omega)) (by omega) (by omega)
          obtain ⟨L, hL⟩ : ∃ L : List D, L = [.fl l, .non, .tup [], .int 0, .str [], .fd [] [], .bl true, .tup [.tup l]] := ⟨_, rfl⟩
          obtain ⟨x, ex, ox⟩ : ∃ x, L[u]? = some x ∧ ThQ T U x := by
            have : u = 0 ∨ u = 1 ∨ u = 2 ∨ u = 3 ∨ u = 4 ∨ u = 5 ∨ u = 6 ∨ u = 7 := by omega
            subst hL
            rcases this with rfl | rfl | rfl | rfl | rfl | rfl | rfl | rfl
            · exact ⟨_, rfl, .inr fun h => rfl, fun n => by rw [lo_fl]; exact lol n⟩
            · exact ⟨_, rfl, .inr fun h => rfl, fun n => rfl⟩
            · exact ⟨_, rfl, th_tup (by simp) (by simp)⟩
            · exact ⟨_, rfl, .inr fun h => rfl, fun n => rfl⟩
            · exact ⟨_, rfl, .inr fun h => rfl, fun n => rfl⟩
            · exact ⟨_, rfl, .inr fun h => rfl, fun n => rfl⟩
            · exact ⟨_, rfl, .inr fun h => rfl, fun n => rfl⟩
            · exact ⟨_, rfl, th_tup (by simp) fun y hy => by
                rw [List.mem_singleton] at hy
                rw [hy, ← hl]
                exact el_tups W (by omega)⟩
          have fl1 : ∀ h : IH, fzD h h l = .ok (.fl l) h := fun h => fzD_same (lol _)
          have fL : ∀ h : IH, fzD h h L = .ok (.fl L) h := fun h => fzD_same (by rw [hL]; simp [lol])
          have ixL : ∀ h : IH, dIx (.fl L) (.int (u : Nat)) h = .ok x h := fun h => dIx_nat (xs := L) rfl ex
          refine ⟨x, c4, callC_pen0 rfl ?_, ox, p4.mono (by omega)⟩
          unfold m__law_bent_rows
          rw [ap_fnM]
          simp only [List.map_cons, List.map_nil, List.length_cons, List.length_nil, List.cons_append, List.nil_append, Nat.reduceAdd, Nat.reduceSub, List.replicate]
          refine head _ _ ?_
          show (msCons _ _ [some (.ref 1), some T.enc, some U.enc, some (.tup l), some (.int 5), some (.int (a : Nat)), some (.int (pf : Nat)), some (.int (ps : Nat)), some (.int st), none, none, none] _).fin = _
          have fL' := fL (z :: c3 :: g)
          rw [hL] at fL' ixL
          have bx : ∀ h : IH, bListX [.tup l] h = newL h l := fun h => bListX_tup
          simp [bx, fz_newL, fl1, fL', e4, ixL]
end
end NR

set_option Elab.async false
set_option linter.all false
set_option maxRecDepth 100000
set_option maxHeartbeats 4000000
namespace NR
open PySem PySem.Spec PyProof.Rows L2
/-! ### the same -/
def Tq : Nat → D → Prop
  | 0, _ => False
  | k + 1, x => (∃ l, x = .tup l ∧ l.length ≤ 100000 ∧ ∀ y ∈ l, Tq k y) ∨ (∃ i, x = .int i) ∨ ∃ s, x = .str s
theorem sameq_loop {k n : Nat} {h : IH} {e0 e1 : Option D} (call : ∀ y, Tq k y → ∀ h : IH, callC 2 (m__law_same n) [y, y] h = .ok (.bl true) h) : ∀ (l : List D) (x y : Option D), (∀ z ∈ l, Tq k z) →
    ∃ x' y', forL (gSets [2, 3]) (b__law_same_1 (m__law_same n)) (List.zipWith (fun x y : D => D.tup [x, y]) l l) [e0, e1, x, y] h = .nx [e0, e1, x', y'] h
  | [], x, y, _ => ⟨x, y, rfl⟩
  | z :: l, x, y, hl => by
    obtain ⟨x', y', ih⟩ := sameq_loop (h := h) (e0 := e0) (e1 := e1) call l (some z) (some z) fun w hw => hl w (List.mem_cons_of_mem _ hw)
    refine ⟨x', y', ?_⟩
    have c := call z (hl z List.mem_cons_self) h
    rw [List.zipWith_cons_cons, forL_cons (e1 := [e0, e1, some z, some z]) rfl]
    have e : b__law_same_1 (m__law_same n) [e0, e1, some z, some z] h = .nx [e0, e1, some z, some z] h := by
      unfold b__law_same_1
      simp [c]
    rw [e, on_nx]
    exact ih
theorem sameq_call : ∀ (k n : Nat) (x : D), Tq k x → k ≤ n → ∀ h : IH, callC 2 (m__law_same n) [x, x] h = .ok (.bl true) h
  | 0, _, _, s, _, _ => s.elim
  | k + 1, 0, _, _, l, _ => by omega
  | k + 1, n + 1, x, s, l, h => by
    rw [m__law_same_succ]
    refine callC_same rfl ?_
    unfold B__law_same
    rcases s with ⟨l', rfl, ll, hl⟩ | ⟨i, rfl⟩ | ⟨i, rfl⟩
    · obtain ⟨x', y', lp⟩ := sameq_loop (k := k) (n := n) (h := h) (e0 := some (.tup l')) (e1 := some (.tup l')) (fun y ty h => sameq_call k n y ty (by omega) h) l' none none hl
      have e1 : msFor (iZip (mCons (mVar 0) (mCons (mVar 1) (mNil)))) (gSets [2, 3]) (b__law_same_1 (m__law_same n)) [some (.tup l'), some (.tup l'), none, none] h = .nx [some (.tup l'), some (.tup l'), x', y'] h := (for_st (ds := List.zipWith (fun x y : D => D.tup [x, y]) l' l') (h2 := h) rfl).trans lp
      generalize msFor (iZip (mCons (mVar 0) (mCons (mVar 1) (mNil)))) (gSets [2, 3]) (b__law_same_1 (m__law_same n)) = F at e1
      simp [e1]
    · simp
    · simp
section
variable {T U : Tb}
theorem lpt_loop {K M : List Int} {h : IH} (tk : T.kinds.length = T.goes.length) (uk : U.kinds.length = U.goes.length) : ∀ (L : List Ent) (x4 x5 : Option D), (∀ e ∈ L, e.1.1 < T.kinds.length ∧ e.1.2 < U.kinds.length) →
    ((forL (gSets [2, 3]) b__law_parted_1 (L.map (eDW T.sig)) [some T.enc, some U.enc, x4, x5] h).then (msRet (mC .non))).fin = .ok (wD T.sig ((L.find? fun e => !decide (T.kinds.getD e.1.1 0 = U.kinds.getD e.1.2 0)).map (·.2))) h
  | [], x4, x5, _ => by
    show ((forL _ _ [] _ _).then _).fin = _
    simp [wD]
  | e :: L, x4, x5, hl => by
    have ih := lpt_loop (K := K) (M := M) (h := h) tk uk L (some (tP2 e.1)) (some (.str (txt T.sig e.2))) fun x hx => hl x (List.mem_cons_of_mem _ hx)
    obtain ⟨l1, l2⟩ := hl e List.mem_cons_self
    have p0 : ∀ h : IH, dIx (tP2 e.1) (.int 0) h = .ok (.int (e.1.1 : Nat)) h := fun h => dIx_seq (xs := [.int (e.1.1 : Nat), .int (e.1.2 : Nat)]) rfl (by omega) rfl
    have p1 : ∀ h : IH, dIx (tP2 e.1) (.int 1) h = .ok (.int (e.1.2 : Nat)) h := fun h => dIx_seq (xs := [.int (e.1.1 : Nat), .int (e.1.2 : Nat)]) rfl (by omega) rfl
    have k1 : ∀ h : IH, dIx (.tup (T.kinds.map D.int)) (.int (e.1.1 : Nat)) h = .ok (.int (T.kinds.getD e.1.1 0)) h := fun h => dIx_nat (xs := T.kinds.map D.int) rfl (by rw [List.getElem?_map, List.getD_eq_getElem?_getD, List.getElem?_eq_getElem l1]; rfl)
    have k2 : ∀ h : IH, dIx (.tup (U.kinds.map D.int)) (.int (e.1.2 : Nat)) h = .ok (.int (U.kinds.getD e.1.2 0)) h := fun h => dIx_nat (xs := U.kinds.map D.int) rfl (by rw [List.getElem?_map, List.getD_eq_getElem?_getD, List.getElem?_eq_getElem l2]; rfl)
    rw [List.map_cons, forL_cons (e1 := [some T.enc, some U.enc, some (tP2 e.1), some (.str (txt T.sig e.2))]) rfl, List.find?_cons]
    have i1 : ∀ h : IH, dIx T.enc (.int 2) h = .ok (.tup (T.kinds.map D.int)) h := fun h => tT2
    have i2 : ∀ h : IH, dIx U.enc (.int 2) h = .ok (.tup (U.kinds.map D.int)) h := fun h => tT2
    generalize T.kinds.getD e.1.1 0 = a at *
    generalize U.kinds.getD e.1.2 0 = b at *
    generalize T.kinds.map D.int = KD at *
    generalize U.kinds.map D.int = MD at *
    by_cases q : a = b
    · have ev : b__law_parted_1 [some T.enc, some U.enc, some (tP2 e.1), some (.str (txt T.sig e.2))] h = .nx [some T.enc, some U.enc, some (tP2 e.1), some (.str (txt T.sig e.2))] h := by
        unfold b__law_parted_1
        generalize tP2 e.1 = P at *
        simp [i1, i2, p0, p1, k1, k2, q]
      rw [ev, on_nx, ih]
      simp [q]
    · have ev : b__law_parted_1 [some T.enc, some U.enc, some (tP2 e.1), some (.str (txt T.sig e.2))] h = .rt (.str (txt T.sig e.2)) h := by
        unfold b__law_parted_1
        generalize tP2 e.1 = P at *
        simp [i1, i2, p0, p1, k1, k2, q]
      rw [ev]
      simp [q, wD]
theorem lparted_call (W : Two T U) (h : IH) : callC 2 m__law_parted [T.enc, U.enc] h = .ok (wD T.sig (fstP T U T.kinds U.kinds)) h := by
  refine callC_same rfl ?_
  have lp := lpt_loop (T := T) (U := U) (K := []) (M := []) (h := h) W.a.kl W.b.kl (PL T U) none none fun e he => by
    have := W.pl_rm he
    exact ⟨by rw [W.a.kl]; exact this.1, by rw [W.b.kl]; exact this.2⟩
  have it : iSeq (mCall 2 (m__law_met) (mCons (mVar 0) (mCons (mVar 1) (mNil)))) [some T.enc, some U.enc, none, none] h = .ok (.st ((PL T U).map (eDW T.sig))) h := by
    simp [lmet_call W h]
  unfold m__law_parted
  rw [ap_fnM]
  simp only [List.map_cons, List.map_nil, List.length_cons, List.length_nil, List.cons_append, List.nil_append, Nat.reduceAdd, Nat.reduceSub, List.replicate]
  rw [ap_msCons, for_st it]
  exact lp
end
theorem prsD_some {T U : Tb} {w : List Nat} (h : fstP T U T.kinds U.kinds = some w) : prsD T U = .non := by
  unfold prsD
  rw [h]
theorem prsD_none {T U : Tb} (h : fstP T U T.kinds U.kinds = none) : prsD T U = .tup (srtD ((PL T U).map (·.1))) := by
  unfold prsD
  rw [h]
theorem c5_eq (t : List Nat) (L : List Ent) : (L.map (eDW t)).map (fun d => match d with | .tup [p, _] => p | d => d) = (L.map (·.1)).map tP2 := by
  rw [List.map_map, List.map_map]
  rfl
theorem hd_ne {L : List Ent} {e : Ent} (h : L[0]? = some e) : L.map (·.1) ≠ [] := fun z => by
  have : L = [] := List.map_eq_nil_iff.mp z
  rw [this] at h
  cases h
theorem met_1 {T U : Tb} (W : Two T U) : (PL T U).map (·.1) ≠ [] := hd_ne (PL_I T U).hd
theorem met_2 {T U : Tb} (W : Two T U) : ((PL T U).map (·.1)).length ≤ 1024 := by
  have := W.pl_len
  rwa [← List.length_map (f := fun e : Ent => e.1)] at this
theorem met_3 {T U : Tb} (W : Two T U) : ∀ p ∈ (PL T U).map (·.1), Rm T U p := fun p hp => by
  obtain ⟨e, he, rfl⟩ := List.mem_map.mp hp
  exact W.pl_rm he
/-- what the law needs of the pairs that are met -/
def MetF (T U : Tb) (L : List Ent) : Prop := L.map (·.1) ≠ [] ∧ (L.map (·.1)).length ≤ 1024 ∧ (∀ p ∈ L.map (·.1), Rm T U p) ∧ (fstP T U T.kinds U.kinds = none → prsD T U = .tup (srtD (L.map (·.1)))) ∧ (∀ h : IH, callC 2 m__law_met [T.enc, U.enc] h = .ok (.fl (L.map (eDW T.sig))) h) ∧ L.length ≤ 1024
theorem metF {T U : Tb} (W : Two T U) : MetF T U (PL T U) := And.intro (met_1 W) (And.intro (met_2 W) (And.intro (met_3 W) (And.intro prsD_none (And.intro (lmet_call W) W.pl_len))))
theorem met_facts {T U : Tb} (W : Two T U) : ∃ L : List Ent, MetF T U L := Exists.intro (PL T U) (metF W)
theorem dEq_bls {a b : Bool} {h : IH} : dEq true (.bl a) (.bl b) h = .ok (.bl (!decide (a = b))) h := by
  rw [dEq_pl rfl rfl]
  cases a <;> cases b <;> simp
/-! refused -/
theorem refused_call {A B X : D} {t u : List Nat} {k : Int} {h : IH} (a : ∀ h, dIx A (.int 0) h = .ok (.str t) h) (b : ∀ h, dIx B (.int 0) h = .ok (.str u) h) (n : t ≠ u) (k01 : k = 0 ∨ k = 1) : callC 4 m__law_refused [A, B, .int k, X] h = .ok (.bl true) h := by
  refine callC_same rfl ?_
  have al := alike_no (h := h) a b n
  have pn := parted_no (h := h) a b n
  have p1 : callC 2 m_pairs [A, B] h = .ex "Unlike" none h := by
    refine callC_ex (g := []) rfl ?_
    unfold m_pairs
    simp [pn]
  have p2 : callC 3 m_pairs_hold [A, B, X] h = .ex "Unlike" none h := by
    refine callC_ex (g := []) rfl ?_
    unfold m_pairs_hold
    simp [al]
  have body : b__law_refused_1 [some A, some B, some (.int k), some X, some (.bl false), none] h = .ex "Unlike" none [some A, some B, some (.int k), some X, some (.bl false), none] h := by
    unfold b__law_refused_1
    rcases k01 with rfl | rfl
    · simp [p1]
    · simp [p2]
  have tr : msTryAs hT "ReachError" 5 b__law_refused_1 s__law_refused_2 [some A, some B, some (.int k), some X, some (.bl false), none] h = .nx [some A, some B, some (.int k), some X, some (.bl true), none] h := by
    unfold msTryAs
    rw [body]
    dsimp only
    rw [show hT.get "Unlike" "ReachError" = some true by decide +kernel]
    dsimp only
    refine anyA_eq fun k => ?_
    unfold s__law_refused_2
    simp [mIsE, mIsET, show iT.get "Unlike" "Unlike" = some true by decide +kernel, show iT.get "Unlike" "ValueError" = some true by decide +kernel, show mIsET.allM' (iT.get "Unlike") ["Closed", "NoBook", "NoModes", "NoPlace", "NoTable", "NoText", "TooHeavy", "TooMany"] = some [false, false, false, false, false, false, false, false] by decide +kernel, RS.unset]
  unfold m__law_refused
  simp [tr]
abbrev lV (e0 e1 e2 e3 e4 e5 e6 e7 e8 e9 e10 e11 e12 : Option D) : EV := [e0, e1, e2, e3, e4, e5, e6, e7, e8, e9, e10, e11, e12, none, none, none, none, none]
/-- the rows, turned, one told twice -/
theorem rows_ev {P : List (Nat × Nat)} {a : Nat} {e0 e1 e2 e3 e4 e6 e8 e9 e10 e11 e12 : Option D} {h : IH} (pl : P.length ≤ 2000) (ha : a < P.length) :
    (mB bTupleX (mCons (mFz (mOp dAdd (mFz (mSlice (mVar 5) (moSome (mVar 7)) (moNone))) (mFz (mSlice (mVar 5) (moNone) (moSome (mOp dAdd (mVar 7) (mC (.int 1)))))))) (mNil))) (lV e0 e1 e2 e3 e4 (some (.fl (P.map tP2))) e6 (some (.int (a : Nat))) e8 e9 e10 e11 e12) h = .ok (.tup ((P.drop a ++ P.take (a + 1)).map tP2)) h := by
  generalize hl : P.map tP2 = l
  have lo : ∀ (k : List (Nat × Nat)) (n : Nat), D.loL n (k.map tP2) = true := fun k n => loL_of fun y hy => by
    obtain ⟨p, _, rfl⟩ := List.mem_map.mp hy
    simp
  have c1 : cutD l (some (a : Nat)) none = (P.drop a).map tP2 := by rw [cutD_from (by omega), ← hl, List.map_drop]; rfl
  have c2 : cutD l none (some ((a : Nat) + 1)) = (P.take (a + 1)).map tP2 := by rw [cutD_to (by omega), ← hl, List.map_take]; rfl
  have s1 : ∀ h : IH, sliceD (.fl l) (some (a : Nat)) none h = newL h ((P.drop a).map tP2) := fun h => by rw [sliceD_fl, c1]
  have s2 : ∀ h : IH, sliceD (.fl l) none (some ((a : Nat) + 1)) h = newL h ((P.take (a + 1)).map tP2) := fun h => by rw [sliceD_fl, c2]
  have f : ∀ (k : List (Nat × Nat)) (h : IH), fzD h h (k.map tP2) = .ok (.fl (k.map tP2)) h := fun k h => fzD_same (lo k _)
  have ad : ∀ h : IH, dAdd (.fl ((P.drop a).map tP2)) (.fl ((P.take (a + 1)).map tP2)) h = newL h ((P.drop a ++ P.take (a + 1)).map tP2) := fun h => by
    rw [dAdd_fl, if_pos (by rw [List.length_map, List.length_map, List.length_drop, List.length_take]; omega), List.map_append]
  have f1 := f (P.drop a)
  have f2 := f (P.take (a + 1))
  have f3 := f (P.drop a ++ P.take (a + 1))
  generalize (P.drop a ++ P.take (a + 1)).map tP2 = A1 at *
  generalize (P.drop a).map tP2 = A2 at *
  generalize (P.take (a + 1)).map tP2 = A3 at *
  simp [s1, s2, fz_newL, f1, f2, ad, f3]
theorem law_true : LawOk m_law := by
  intro ns l
  obtain ⟨c0, e0, p0⟩ := source_eq ns l
  generalize Cell.frz (ns.map D.int) = z at *
  obtain ⟨T, U, c1, e1, okT, okU, sg, p1⟩ := two_call (b := 100000) (z := z) (c := c0) (g := []) (p0.mono (by omega))
  have W : Two T U := ⟨okT, okU, sg⟩
  obtain ⟨t', A, B, c2, e2, n1, n2, lA, lB, p2⟩ := other_call okU (b := 90000) (z := z) (c := c1) (g := []) (p1.mono (by omega))
  rw [sg] at n1
  have x0 : ∀ h : IH, dIx (.tup [.str t', A, B]) (.int 0) h = .ok (.str t') h := fun h => dIx_seq (xs := [.str t', A, B]) rfl (by omega) rfl
  generalize D.tup [.str t', A, B] = X at *
  -- the pairs that are met
  obtain ⟨L, pne, pl, prm, prn, lmc, Ll⟩ := met_facts W
  have c5e := c5_eq T.sig L
  generalize L.map (·.1) = P at pne pl prm prn c5e
  have comp5 := lcF_map (env := lV (some (.ref 0)) (some (.ref 1)) (some T.enc) (some U.enc) (some X) none none none none none none none none) (h := [z, c2]) (it := iSeq (mCall 2 (m__law_met) (mCons (mVar 2) (mCons (mVar 3) (mNil))))) (ws := [13, 14]) (gg := gSets [13, 14]) (m := e_law_1) (ds := L.map (eDW T.sig)) (fun d => match d with | .tup [p, _] => p | d => d) (by simp [lmc [z, c2]]) (by simp; omega) (fun d hd => by
    obtain ⟨e, _, rfl⟩ := List.mem_map.mp hd
    simp [eDW]) (fun d hd => by
    obtain ⟨e, _, rfl⟩ := List.mem_map.mp hd
    exact ⟨_, rfl, fun w => by unfold e_law_1; simp [wipeE, eDW]⟩)
  rw [c5e] at comp5
  have pc := pairs_call W [z, c2]
  have pc2 := pairs_call W.swap [z, c2]
  have lpa := lparted_call W [z, c2]
  have p1' : 1 ≤ P.length := List.length_pos_iff.mpr pne
  -- the two ways of telling pairs
  have step6 : (msIf (mTb (mOp (dIsN true) (mCall 2 (m__law_parted) (mCons (mVar 2) (mCons (mVar 3) (mNil)))) (mC .non))) (msIf (mOr (mTb (mOp (dIsN true) (mVar 6) (mC .non))) (mTb (mOp (dIsN true) (mCall 2 (m_pairs) (mCons (mVar 3) (mCons (mVar 2) (mNil)))) (mC .non)))) (msRet (mC (.bl false))) (msNil)) (msIf (mNot (mTr (mCall 2 ((m__law_same 24)) (mCons (mVar 6) (mCons (mB bTupleX (mCons (mFz (mB bSortedV (mCons (mVar 5) (mNil)))) (mNil))) (mNil)))))) (msRet (mC (.bl false))) (msNil))) (lV (some (.ref 0)) (some (.ref 1)) (some T.enc) (some U.enc) (some X) (some (.fl (P.map tP2))) (some (prsD T U)) none none none none none none) [z, c2] = .nx (lV (some (.ref 0)) (some (.ref 1)) (some T.enc) (some U.enc) (some X) (some (.fl (P.map tP2))) (some (prsD T U)) none none none none none none) [z, c2] := by
    cases ef : fstP T U T.kinds U.kinds with
    | some w =>
      rw [ef] at lpa
      have lpa : callC 2 m__law_parted [T.enc, U.enc] [z, c2] = .ok (.str (txt T.sig w)) [z, c2] := lpa
      have prd : prsD T U = .non := prsD_some ef
      have prd2 : prsD U T = .non := prsD_some (w := w) (by rw [fst_swap W]; exact ef)
      rw [prd2] at pc2
      rw [prd]
      generalize P.map tP2 = PD at *
      simp [lpa, dIsN, pc2]
    | none =>
      rw [ef] at lpa
      have lpa : callC 2 m__law_parted [T.enc, U.enc] [z, c2] = .ok .non [z, c2] := lpa
      have prd : prsD T U = .tup (srtD P) := prn ef
      rw [prd]
      have so := sortV_list (H := [z, c2]) pne
      have fz : fzR [z, c2] (.ok (.ref [z, c2].length) ([z, c2] ++ [.lst (srtD P)])) = .ok (.fl (srtD P)) [z, c2] := by
        rw [fzR_at (xs := srtD P) get_last (Nat.le_refl _) lo_srtD (by simp)]
        simp
      rw [← so] at fz
      have sm := sameq_call 3 24 (.tup (srtD P)) (.inl ⟨_, rfl, by rw [srtD_len]; omega, fun y hy => by
        obtain ⟨p, _, rfl⟩ := List.mem_map.mp hy
        refine .inl ⟨_, rfl, by simp, fun x hx => ?_⟩
        rcases List.mem_cons.mp hx with rfl | hx
        · exact .inr (.inl ⟨_, rfl⟩)
        · rw [List.mem_singleton] at hx
          rw [hx]
          exact .inr (.inl ⟨_, rfl⟩)⟩) (by omega) [z, c2]
      generalize srtD P = SD at *
      generalize P.map tP2 = PD at *
      simp [lpa, dIsN, fz, sm]
  obtain ⟨a, c3, e3, v3, p3⟩ := draw_call (b := 80000) (z := z) (c := c2) (g := []) (m := (P.length : Nat)) (p2.mono (by omega)) (by omega) (by omega)
  have al : a < P.length := by omega
  have re := fun (e0 e1 e2 e3 e4 e6 e8 e9 e10 e11 e12 : Option D) (h : IH) => rows_ev (e0 := e0) (e1 := e1) (e2 := e2) (e3 := e3) (e4 := e4) (e6 := e6) (e8 := e8) (e9 := e9) (e10 := e10) (e11 := e11) (e12 := e12) (h := h) (by omega : P.length ≤ 2000) al
  generalize hrp : P.drop a ++ P.take (a + 1) = rp at *
  have rl : rp.length = P.length + 1 := by rw [← hrp, List.length_append, List.length_drop, List.length_take]; omega
  have thR := th_rows W (ps := rp) (by omega)
  -- all pairs of like kinds
  obtain ⟨ev, eev, evl, evr⟩ := every_call W [z, c3]
  have comp9 := lcF_filter (env := lV (some (.ref 0)) (some (.ref 1)) (some T.enc) (some U.enc) (some X) (some (.fl (P.map tP2))) (some (prsD T U)) (some (.int (a : Nat))) (some (.tup (rp.map tP2))) none none none none) (h := [z, c3]) (it := iSeq (mCall 2 (m__law_every) (mCons (mVar 2) (mCons (mVar 3) (mNil))))) (ws := [15, 16]) (gg := gSets [15, 16]) (t := t_law_2) (m := e_law_3) (ds := ev.map tP2) id (fun d => match d with | .tup [.int i, .int j] => decide (T.kind i.toNat = U.kind j.toNat) | _ => false) (by simp [eev]) (by simp; omega) (fun d hd _ => by
    obtain ⟨p, _, rfl⟩ := List.mem_map.mp hd
    simp) (fun d hd => by
    obtain ⟨p, hp, rfl⟩ := List.mem_map.mp hd
    have rm := evr p hp
    have k1 : ∀ h : IH, dIx (.tup (T.kinds.map D.int)) (.int (p.1 : Nat)) h = .ok (.int (T.kind p.1)) h := fun h => ix_kind W.a rm.1
    have k2 : ∀ h : IH, dIx (.tup (U.kinds.map D.int)) (.int (p.2 : Nat)) h = .ok (.int (U.kind p.2)) h := fun h => ix_kind W.b rm.2
    refine ⟨_, rfl, fun w => ?_, fun w _ => by unfold e_law_3; simp [wipeE, tP2]⟩
    unfold t_law_2
    generalize hK : T.kinds.map D.int = KD at *
    generalize hM : U.kinds.map D.int = MD at *
    have t2 : ∀ h : IH, dIx T.enc (.int 2) h = .ok (.tup KD) h := fun h => by rw [tT2, hK]
    have u2 : ∀ h : IH, dIx U.enc (.int 2) h = .ok (.tup MD) h := fun h => by rw [tT2, hM]
    simp [wipeE, tP2, t2, u2, k1, k2])
  generalize hel : List.map id ((ev.map tP2).filter (fun d => match d with | .tup [.int i, .int j] => decide (T.kind i.toNat = U.kind j.toNat) | _ => false)) = el at comp9
  have elm : ∀ x ∈ el, ElOk T U x := fun x hx => by
    rw [← hel, List.map_id] at hx
    obtain ⟨p, _, rfl⟩ := List.mem_map.mp (List.mem_filter.mp hx).1
    exact el_pair W
  have ell : el.length ≤ 1024 := by
    rw [← hel, List.length_map]
    have := List.length_filter_le (fun d => match d with | .tup [.int i, .int j] => decide (T.kind i.toNat = U.kind j.toNat) | _ => false) (ev.map tP2)
    rw [List.length_map] at this
    omega
  have thE := th_tup (T := T) (U := U) (l := el.take 1000) (by rw [List.length_take]; omega) fun x hx => elm x (List.mem_of_mem_take hx)
  -- bent rows
  obtain ⟨ys, c4, e4, yl, yp, p4⟩ := lcF_penI (Pn := Pn) (b := 1000) (K := 10) (z := z) (cc := c3) (c0 := c3) (g := []) (ds := intsFrom 0 5) (env := lV (some (.ref 0)) (some (.ref 1)) (some T.enc) (some U.enc) (some X) (some (.fl (P.map tP2))) (some (prsD T U)) (some (.int (a : Nat))) (some (.tup (rp.map tP2))) (some (.fl el)) none none none) (it := iRange1 (mCons (mC (.int 5)) (mNil))) (gg := gSet 17) (ws := [17]) (m := e_law_4) Pn_lo (fun _ y => ThQ T U y) (iRange1_of (j := 5) (k := 5) (by simp) rfl (by omega)) (by simp) (p3.mono (by simp)) (fun i y k hy => hy.2 k) (fun j d hd => ⟨_, rfl, fun b c g hb => by
    obtain ⟨Y, c', e, th, p⟩ := bent_rows_call W (rp := rp) (by omega) (by omega) (b := b) (z := z) (c := c) (g := g) hb
    refine ⟨Y, c', ?_, p, th⟩
    unfold e_law_4
    generalize rp.map tP2 = RP at *
    simp [wipeE, e]⟩)
  have ysl : ys.length = 5 := by rw [yl]; simp
  have yth : ∀ y ∈ ys, ThQ T U y := fun y hy => by
    obtain ⟨j, hj⟩ := List.mem_iff_getElem?.mp hy
    exact yp j y hj
  generalize hR : D.tup (rp.map tP2) = R0 at *
  generalize hE : D.tup (el.take 1000) = E0 at *
  have all7 : ∀ x ∈ [R0, E0] ++ ys, ThQ T U x := fun x hx => by
    rcases List.mem_append.mp hx with hx | hx
    · rcases List.mem_cons.mp hx with rfl | hx
      · exact thR
      · rw [List.mem_singleton] at hx
        rw [hx]
        exact thE
    · exact yth x hx
  have lo7 : ∀ n, D.loL n ([R0, E0] ++ ys) = true := fun n => loL_of fun x hx => (all7 x hx).2 n
  obtain ⟨S, hS⟩ : ∃ S, S = [R0, E0] ++ ys := ⟨_, rfl⟩
  rw [← hS] at all7 lo7
  have Sl : S.length = 7 := by rw [hS]; simp [ysl]
  obtain ⟨u, c5, e5, v5, p5⟩ := draw_call (b := 500) (z := z) (c := c4) (g := []) (m := 7) (p4.mono (by omega)) (by omega) (by omega)
  obtain ⟨S7, hS7, ixS⟩ : ∃ x, S[u]? = some x ∧ ∀ h : IH, dIx (.fl S) (.int (u : Nat)) h = .ok x h := by
    have : S[u]? = some (S[u]'(by omega)) := List.getElem?_eq_getElem _
    exact ⟨_, this, fun h => dIx_nat (xs := S) rfl this⟩
  let E : Option D → Option D → EV := fun x y => lV (some (.ref 0)) (some (.ref 1)) (some T.enc) (some U.enc) (some X) (some (.fl (P.map tP2))) (some (prsD T U)) (some (.int (a : Nat))) (some R0) (some (.fl el)) (some (.fl S)) x y
  have loop11 := forL_chk (gg := gSet 11) (b := b_law_5) (h := [z, c4]) (ds := S ++ [R0]) (fun env => ∃ x y, env = E x y) (fun _ => true) (fun d hd env ⟨x, y, ee⟩ => by
    subst ee
    have th : ThQ T U d := by
      rcases List.mem_append.mp hd with hd | hd
      · exact all7 d hd
      · rw [List.mem_singleton] at hd
        rw [hd]
        exact thR
    have k1 := phold_call W th.1 [z, c4]
    have k2 := lhold_call W th.1 [z, c4]
    refine ⟨E (some d) y, rfl, .inl ⟨rfl, E (some d) (some (.bl (holdsB T U d))), ?_, _, _, rfl⟩⟩
    show b_law_5 (lV (some (.ref 0)) (some (.ref 1)) (some T.enc) (some U.enc) (some X) (some (.fl (P.map tP2))) (some (prsD T U)) (some (.int (a : Nat))) (some R0) (some (.fl el)) (some (.fl S)) (some d) y) _ = .nx (lV (some (.ref 0)) (some (.ref 1)) (some T.enc) (some U.enc) (some X) (some (.fl (P.map tP2))) (some (prsD T U)) (some (.int (a : Nat))) (some R0) (some (.fl el)) (some (.fl S)) (some d) (some (.bl (holdsB T U d)))) _
    unfold b_law_5
    generalize holdsB T U d = HB at *
    simp [k1, k2, dEq_bls]) (E none none) ⟨none, none, rfl⟩
  obtain ⟨f11, l11, x11, x12, rfl⟩ : ∃ e2, forL (gSet 11) b_law_5 (S ++ [R0]) (E none none) [z, c4] = .nx e2 [z, c4] ∧ ∃ x y, e2 = E x y := by
    rcases loop11 with ⟨_, e2, e, i⟩ | ⟨q, _⟩
    · exact ⟨e2, e, i⟩
    · rw [List.all_eq_true.mpr (fun _ _ => rfl)] at q
      cases q
  have rf1 : ∀ (Y : D) (k : Int), (k = 0 ∨ k = 1) → callC 4 m__law_refused [T.enc, X, .int k, Y] [z, c5] = .ok (.bl true) [z, c5] := fun Y k hk => refused_call (fun _ => tT0) x0 n1.symm hk
  have rf2 : ∀ (Y : D), callC 4 m__law_refused [X, T.enc, .int 1, Y] [z, c5] = .ok (.bl true) [z, c5] := fun Y => refused_call x0 (fun _ => tT0) n1 (.inr rfl)
  have loop12 := forL_chk (gg := gSet 11) (b := b_law_6) (h := [z, c5]) (ds := [S7, .non, R0, .tup [.tup [.int 0, .int 0]]]) (fun env => ∃ x y, env = E x y) (fun _ => true) (fun d hd env ⟨x, y, ee⟩ => by
    subst ee
    refine ⟨E (some d) y, rfl, .inl ⟨rfl, E (some d) y, ?_, _, _, rfl⟩⟩
    have r1 := rf1 d 1 (.inr rfl)
    have r2 := rf2 d
    show b_law_6 (lV (some (.ref 0)) (some (.ref 1)) (some T.enc) (some U.enc) (some X) (some (.fl (P.map tP2))) (some (prsD T U)) (some (.int (a : Nat))) (some R0) (some (.fl el)) (some (.fl S)) (some d) y) _ = .nx (lV (some (.ref 0)) (some (.ref 1)) (some T.enc) (some U.enc) (some X) (some (.fl (P.map tP2))) (some (prsD T U)) (some (.int (a : Nat))) (some R0) (some (.fl el)) (some (.fl S)) (some d) y) _
    unfold b_law_6
    simp [r1, r2]) (E x11 x12) ⟨_, _, rfl⟩
  obtain ⟨f12, l12, y11, y12, rfl⟩ : ∃ e2, forL (gSet 11) b_law_6 [S7, .non, R0, .tup [.tup [.int 0, .int 0]]] (E x11 x12) [z, c5] = .nx e2 [z, c5] ∧ ∃ x y, e2 = E x y := by
    rcases loop12 with ⟨_, e2, e, i⟩ | ⟨q, _⟩
    · exact ⟨e2, e, i⟩
    · rw [List.all_eq_true.mpr (fun _ _ => rfl)] at q
      cases q
  have pR : R0.pl 50 = true := by
    rw [← hR]
    show (rp.map tP2).all (D.pl 49) = true
    rw [List.all_map, List.all_eq_true]
    intro p _
    rfl
  have dR : dEq false R0 R0 [z, c5] = .ok (.bl true) [z, c5] := dEq_self pR
  show ∃ h', m_law _ _ = _
  refine ⟨[z, c5], ?_⟩
  unfold m_law
  rw [ap_fnM]
  simp only [List.map_cons, List.map_nil, List.length_cons, List.length_nil, List.cons_append, List.nil_append, Nat.reduceAdd, Nat.reduceSub, List.replicate]
  refine stN (env2 := lV (some (.ref 0)) (some (.ref 1)) none none none none none none none none none none none) (h2 := [z, c0]) (by simp [e0]) ?_
  refine stN (env2 := lV (some (.ref 0)) (some (.ref 1)) (some T.enc) (some U.enc) none none none none none none none none none) (h2 := [z, c1]) (by simp [e1, gSets]) ?_
  refine stN (env2 := lV (some (.ref 0)) (some (.ref 1)) (some T.enc) (some U.enc) (some X) none none none none none none none none) (h2 := [z, c2]) (by simp [e2]) ?_
  refine stN (env2 := lV (some (.ref 0)) (some (.ref 1)) (some T.enc) (some U.enc) (some X) (some (.fl (P.map tP2))) none none none none none none none) (h2 := [z, c2]) (by
    generalize mFz (mLc (iSeq (mCall 2 (m__law_met) (mCons (mVar 2) (mCons (mVar 3) (mNil))))) (gSets [13, 14]) mYes e_law_1 [13, 14]) = F at *
    generalize P.map tP2 = PD at *
    simp [comp5]) ?_
  refine stN (env2 := lV (some (.ref 0)) (some (.ref 1)) (some T.enc) (some U.enc) (some X) (some (.fl (P.map tP2))) (some (prsD T U)) none none none none none none) (h2 := [z, c2]) (by
    generalize P.map tP2 = PD at *
    generalize prsD T U = Q at *
    simp [pc]) ?_
  refine stN step6 ?_
  refine stN (env2 := lV (some (.ref 0)) (some (.ref 1)) (some T.enc) (some U.enc) (some X) (some (.fl (P.map tP2))) (some (prsD T U)) (some (.int (a : Nat))) none none none none none) (h2 := [z, c3]) (by
    have bl : ∀ h : IH, bLen [.fl (P.map tP2)] h = .ok (.int (P.length : Nat)) h := fun h => by rw [show bLen [.fl (P.map tP2)] h = .ok (.int ((P.map tP2).length : Nat)) h by simp, List.length_map]
    generalize P.map tP2 = PD at *
    generalize prsD T U = Q at *
    generalize P.length = PN at *
    simp [bl, e3]) ?_
  refine stN (env2 := lV (some (.ref 0)) (some (.ref 1)) (some T.enc) (some U.enc) (some X) (some (.fl (P.map tP2))) (some (prsD T U)) (some (.int (a : Nat))) (some R0) none none none none) (h2 := [z, c3]) (by
    rw [ap_msSet, re]
    rfl) ?_
  refine stN (env2 := lV (some (.ref 0)) (some (.ref 1)) (some T.enc) (some U.enc) (some X) (some (.fl (P.map tP2))) (some (prsD T U)) (some (.int (a : Nat))) (some R0) (some (.fl el)) none none none) (h2 := [z, c3]) (by
    rw [ap_msSet, comp9]
    rfl) ?_
  refine stN (env2 := E none none) (h2 := [z, c4]) (by
    have c9 : cutD el none (some 1000) = el.take 1000 := by rw [cutD_to (by omega)]; rfl
    have f9 : ∀ h : IH, fzD h h (el.take 1000) = .ok (.fl (el.take 1000)) h := fun h => fzD_same (loL_of fun y hy => (elm y (List.mem_of_mem_take hy)).lo _)
    have fRE : fzD [z, c3] [z, c3] [R0, E0] = .ok (.fl [R0, E0]) [z, c3] := fzD_same (loL_of fun y hy => (all7 y (by rw [hS]; exact List.mem_append_left _ hy)).2 _)
    have adS : dAdd (.fl [R0, E0]) (.fl ys) [z, c4] = newL [z, c4] S := by rw [dAdd_fl, if_pos (by simp; omega), hS]
    have fS : fzR [z, c3] (newL [z, c4] S) = .ok (.fl S) [z, c4] := by
      show fzR [z, c3] (.ok (.ref [z, c4].length) ([z, c4] ++ [.lst S])) = _
      rw [fzR_at (xs := S) get_last (by simp) (lo7 _) (by simp [Pn_lo _ _ _ p4])]
      simp
    show _ = RS.nx (lV (some (.ref 0)) (some (.ref 1)) (some T.enc) (some U.enc) (some X) (some (.fl (P.map tP2))) (some (prsD T U)) (some (.int (a : Nat))) (some R0) (some (.fl el)) (some (.fl S)) none none) _
    generalize mFz (mLc (iRange1 (mCons (mC (.int 5)) (mNil))) (gSet 17) mYes e_law_4 [17]) = F at *
    generalize P.map tP2 = PD at *
    generalize prsD T U = Q at *
    have tE : ∀ h : IH, bTupleX [.fl (el.take 1000)] h = .ok E0 h := fun h => by rw [bTupleX_fl, hE]
    have sE : ∀ h : IH, sliceD (.fl el) none (some 1000) h = newL h (el.take 1000) := fun h => by rw [sliceD_fl, c9]
    generalize el.take 1000 = ET at *
    simp [sE, fz_newL, f9, tE, fRE, e4, adS, fS]) ?_
  refine stN (env2 := E x11 x12) (h2 := [z, c4]) (by
    have f1 : ∀ h : IH, fzD h h [R0] = .ok (.fl [R0]) h := fun h => fzD_same (loL_of fun y hy => by rw [List.mem_singleton] at hy; rw [hy]; exact thR.2 _)
    have adS : ∀ h : IH, dAdd (.fl S) (.fl [R0]) h = newL h (S ++ [R0]) := fun h => by rw [dAdd_fl, if_pos (by simp; omega)]
    have fS : ∀ h : IH, fzD h h (S ++ [R0]) = .ok (.fl (S ++ [R0])) h := fun h => fzD_same (loL_of fun y hy => by
      rcases List.mem_append.mp hy with hy | hy
      · exact (all7 y hy).2 _
      · rw [List.mem_singleton] at hy
        rw [hy]
        exact thR.2 _)
    rw [for_st (ds := S ++ [R0]) (h2 := [z, c4]) (by
      show iSeq _ (lV (some (.ref 0)) (some (.ref 1)) (some T.enc) (some U.enc) (some X) (some (.fl (P.map tP2))) (some (prsD T U)) (some (.int (a : Nat))) (some R0) (some (.fl el)) (some (.fl S)) none none) _ = _
      generalize S ++ [R0] = SR at *
      simp [f1, adS, fz_newL, fS])]
    exact l11) ?_
  refine stN (env2 := E y11 y12) (h2 := [z, c5]) (by
    rw [for_st (ds := [S7, .non, R0, .tup [.tup [.int 0, .int 0]]]) (h2 := [z, c5]) (by
      show iSeq _ (lV (some (.ref 0)) (some (.ref 1)) (some T.enc) (some U.enc) (some X) (some (.fl (P.map tP2))) (some (prsD T U)) (some (.int (a : Nat))) (some R0) (some (.fl el)) (some (.fl S)) x11 x12) _ = _
      simp [e5, ixS])]
    exact l12) ?_
  refine stN (env2 := E y11 y12) (h2 := [z, c5]) (by
    have r0 := rf1 (.tup []) 0 (.inl rfl)
    show msIf _ _ _ (lV (some (.ref 0)) (some (.ref 1)) (some T.enc) (some U.enc) (some X) (some (.fl (P.map tP2))) (some (prsD T U)) (some (.int (a : Nat))) (some R0) (some (.fl el)) (some (.fl S)) y11 y12) _ = .nx (lV (some (.ref 0)) (some (.ref 1)) (some T.enc) (some U.enc) (some X) (some (.fl (P.map tP2))) (some (prsD T U)) (some (.int (a : Nat))) (some R0) (some (.fl el)) (some (.fl S)) y11 y12) _
    simp [r0]) ?_
  show (msRet (mOp (dEq false) (mVar 8) _) (lV (some (.ref 0)) (some (.ref 1)) (some T.enc) (some U.enc) (some X) (some (.fl (P.map tP2))) (some (prsD T U)) (some (.int (a : Nat))) (some R0) (some (.fl el)) (some (.fl S)) y11 y12) [z, c5]).fin = _
  have re2 := re (some (.ref 0)) (some (.ref 1)) (some T.enc) (some U.enc) (some X) (some (prsD T U)) (some R0) (some (.fl el)) (some (.fl S)) y11 y12 [z, c5]
  generalize (mB bTupleX (mCons (mFz (mOp dAdd (mFz (mSlice (mVar 5) (moSome (mVar 7)) (moNone))) (mFz (mSlice (mVar 5) (moNone) (moSome (mOp dAdd (mVar 7) (mC (.int 1)))))))) (mNil))) = RE at *
  generalize P.map tP2 = PD at *
  generalize prsD T U = Q at *
  simp [re2, dR]
end NR

set_option Elab.async false
set_option linter.all false
set_option maxRecDepth 100000
set_option maxHeartbeats 4000000
namespace NR
open PySem PySem.Spec PyProof.Rows L2
theorem all_mk {l : PySem.W.OpenLaw} {w : World} {K : PySem.W.Frag} {h : Heap} {mg : Str → Option Value} {fa : Addr} (X : K.In h) (Gn : h.Ns mainGlobals mg) (hfa : mg "law" = some (.ref fa))
    (z_ValueError : PySem.W.nsIn K mainGlobals "ValueError" = some none)
    (z_abs : PySem.W.nsIn K mainGlobals "abs" = some none)
    (z_all : PySem.W.nsIn K mainGlobals "all" = some none)
    (z_bool : PySem.W.nsIn K mainGlobals "bool" = some none)
    (z_enumerate : PySem.W.nsIn K mainGlobals "enumerate" = some none)
    (z_int : PySem.W.nsIn K mainGlobals "int" = some none)
    (z_isinstance : PySem.W.nsIn K mainGlobals "isinstance" = some none)
    (z_len : PySem.W.nsIn K mainGlobals "len" = some none)
    (z_list : PySem.W.nsIn K mainGlobals "list" = some none)
    (z_min : PySem.W.nsIn K mainGlobals "min" = some none)
    (z_range : PySem.W.nsIn K mainGlobals "range" = some none)
    (z_sorted : PySem.W.nsIn K mainGlobals "sorted" = some none)
    (z_str : PySem.W.nsIn K mainGlobals "str" = some none)
    (z_tuple : PySem.W.nsIn K mainGlobals "tuple" = some none)
    (z_zip : PySem.W.nsIn K mainGlobals "zip" = some none)
    {c_Closed : Addr} (ca_Closed : PySem.W.nsIn K mainGlobals "Closed" = some (some (.ref c_Closed)))
    {c_NoBook : Addr} (ca_NoBook : PySem.W.nsIn K mainGlobals "NoBook" = some (some (.ref c_NoBook)))
    {c_NoModes : Addr} (ca_NoModes : PySem.W.nsIn K mainGlobals "NoModes" = some (some (.ref c_NoModes)))
    {c_NoPlace : Addr} (ca_NoPlace : PySem.W.nsIn K mainGlobals "NoPlace" = some (some (.ref c_NoPlace)))
    {c_NoTable : Addr} (ca_NoTable : PySem.W.nsIn K mainGlobals "NoTable" = some (some (.ref c_NoTable)))
    {c_NoText : Addr} (ca_NoText : PySem.W.nsIn K mainGlobals "NoText" = some (some (.ref c_NoText)))
    {c_ReachError : Addr} (ca_ReachError : PySem.W.nsIn K mainGlobals "ReachError" = some (some (.ref c_ReachError)))
    {c_TooHeavy : Addr} (ca_TooHeavy : PySem.W.nsIn K mainGlobals "TooHeavy" = some (some (.ref c_TooHeavy)))
    {c_TooMany : Addr} (ca_TooMany : PySem.W.nsIn K mainGlobals "TooMany" = some (some (.ref c_TooMany)))
    {c_Unlike : Addr} (ca_Unlike : PySem.W.nsIn K mainGlobals "Unlike" = some (some (.ref c_Unlike)))
    (cq_Unlike : PySem.W.excIn K c_Unlike [.type "ValueError", .type "Exception", .type "BaseException", .type "object"] "ValueError.__new__" = true)
    (ck_Unlike : PySem.W.keepIn K (.ref c_Unlike) = true)
    (cb_Unlike : PySem.W.subIn K (.ref c_Unlike) (.type "BaseException") = some true)
    (ct_Unlike : PySem.W.typeIn K (.ref c_Unlike) = some (.type "type"))
    (cg_Unlike : PySem.W.findIn K (.ref c_Unlike) "__getattribute__" = some (some (.builtin "BaseException.__getattribute__")))
    (ch_Unlike : PySem.W.findIn K (.ref c_Unlike) "__getattr__" = some none)
    (cd_Unlike : PySem.W.hasDictIn K c_Unlike = true)
    (cc_Unlike : PySem.W.findIn K (.ref c_Unlike) "__class__" = some (some (.builtin "object.__class__")))
    (cm_Unlike : PySem.W.mroIn K c_Unlike (.type "object") = some true)
    (cn : PySem.W.specialIn K (.builtin "object.__class__") "__get__" = some (some (.builtin "getset_descriptor.__get__")))
    (cx : PySem.W.takesIn K (.builtin "object.__class__") = some true)
    (r_Closed : PySem.W.subIn K (.ref c_Closed) (.ref c_Closed) = some true)
    (r_NoBook : PySem.W.subIn K (.ref c_NoBook) (.ref c_NoBook) = some true)
    (r_NoModes : PySem.W.subIn K (.ref c_NoModes) (.ref c_NoModes) = some true)
    (r_NoPlace : PySem.W.subIn K (.ref c_NoPlace) (.ref c_NoPlace) = some true)
    (r_NoTable : PySem.W.subIn K (.ref c_NoTable) (.ref c_NoTable) = some true)
    (r_NoText : PySem.W.subIn K (.ref c_NoText) (.ref c_NoText) = some true)
    (r_TooHeavy : PySem.W.subIn K (.ref c_TooHeavy) (.ref c_TooHeavy) = some true)
    (r_TooMany : PySem.W.subIn K (.ref c_TooMany) (.ref c_TooMany) = some true)
    (r_Unlike : PySem.W.subIn K (.ref c_Unlike) (.ref c_Unlike) = some true)
    (hb_Closed : PySem.W.subIn K (.ref c_Closed) (.type "BaseException") = some true)
    (hd_Closed : PySem.W.hasDictIn K c_Closed = true)
    (ht_Closed : PySem.W.typeIn K (.ref c_Closed) = some (.type "type"))
    (hb_NoBook : PySem.W.subIn K (.ref c_NoBook) (.type "BaseException") = some true)
    (hd_NoBook : PySem.W.hasDictIn K c_NoBook = true)
    (ht_NoBook : PySem.W.typeIn K (.ref c_NoBook) = some (.type "type"))
    (hb_NoModes : PySem.W.subIn K (.ref c_NoModes) (.type "BaseException") = some true)
    (hd_NoModes : PySem.W.hasDictIn K c_NoModes = true)
    (ht_NoModes : PySem.W.typeIn K (.ref c_NoModes) = some (.type "type"))
    (hb_NoPlace : PySem.W.subIn K (.ref c_NoPlace) (.type "BaseException") = some true)
    (hd_NoPlace : PySem.W.hasDictIn K c_NoPlace = true)
    (ht_NoPlace : PySem.W.typeIn K (.ref c_NoPlace) = some (.type "type"))
    (hb_NoTable : PySem.W.subIn K (.ref c_NoTable) (.type "BaseException") = some true)
    (hd_NoTable : PySem.W.hasDictIn K c_NoTable = true)
    (ht_NoTable : PySem.W.typeIn K (.ref c_NoTable) = some (.type "type"))
    (hb_NoText : PySem.W.subIn K (.ref c_NoText) (.type "BaseException") = some true)
    (hd_NoText : PySem.W.hasDictIn K c_NoText = true)
    (ht_NoText : PySem.W.typeIn K (.ref c_NoText) = some (.type "type"))
    (hb_ReachError : PySem.W.subIn K (.ref c_ReachError) (.type "BaseException") = some true)
    (hd_ReachError : PySem.W.hasDictIn K c_ReachError = true)
    (ht_ReachError : PySem.W.typeIn K (.ref c_ReachError) = some (.type "type"))
    (hb_TooHeavy : PySem.W.subIn K (.ref c_TooHeavy) (.type "BaseException") = some true)
    (hd_TooHeavy : PySem.W.hasDictIn K c_TooHeavy = true)
    (ht_TooHeavy : PySem.W.typeIn K (.ref c_TooHeavy) = some (.type "type"))
    (hb_TooMany : PySem.W.subIn K (.ref c_TooMany) (.type "BaseException") = some true)
    (hd_TooMany : PySem.W.hasDictIn K c_TooMany = true)
    (ht_TooMany : PySem.W.typeIn K (.ref c_TooMany) = some (.type "type"))
    (hb_Unlike : PySem.W.subIn K (.ref c_Unlike) (.type "BaseException") = some true)
    (hd_Unlike : PySem.W.hasDictIn K c_Unlike = true)
    (ht_Unlike : PySem.W.typeIn K (.ref c_Unlike) = some (.type "type"))
    (h_Unlike_ReachError : PySem.W.subIn K (.ref c_Unlike) (.ref c_ReachError) = some true)
    (i_Unlike_Closed : PySem.W.subIn K (.ref c_Unlike) (.ref c_Closed) = some false)
    (i_Unlike_NoBook : PySem.W.subIn K (.ref c_Unlike) (.ref c_NoBook) = some false)
    (i_Unlike_NoModes : PySem.W.subIn K (.ref c_Unlike) (.ref c_NoModes) = some false)
    (i_Unlike_NoPlace : PySem.W.subIn K (.ref c_Unlike) (.ref c_NoPlace) = some false)
    (i_Unlike_NoTable : PySem.W.subIn K (.ref c_Unlike) (.ref c_NoTable) = some false)
    (i_Unlike_NoText : PySem.W.subIn K (.ref c_Unlike) (.ref c_NoText) = some false)
    (i_Unlike_TooHeavy : PySem.W.subIn K (.ref c_Unlike) (.ref c_TooHeavy) = some false)
    (i_Unlike_TooMany : PySem.W.subIn K (.ref c_Unlike) (.ref c_TooMany) = some false)
    (i_Unlike_Unlike : PySem.W.subIn K (.ref c_Unlike) (.ref c_Unlike) = some true)
    (i_Unlike_ValueError : PySem.W.subIn K (.ref c_Unlike) (.type "ValueError") = some true)
    {f0 : Addr} {od0 an0 : Option Addr} {sl0 : Array (Option Value)} {oc0 kV0 dc0 pm0 cd0 ct0 : Value} (a0 : PySem.W.nsIn K mainGlobals "is_number" = some (some (.ref f0))) (l0 : K.lookup f0 = some ⟨oc0, od0, .func (PySem.W.fnOf "is_number" "is_number" (defArgs (topS 12)) (defBody (topS 12)) (defScope (topS 12)) .none kV0 dc0 pm0 an0 cd0 ct0), sl0⟩) (b0 : PySem.W.codeIn K cd0 "is_number" = true) (k0 : PySem.W.keepIn K (.ref f0) = true)
    {f1 : Addr} {od1 an1 : Option Addr} {sl1 : Array (Option Value)} {oc1 kV1 dc1 pm1 cd1 ct1 : Value} (a1 : PySem.W.nsIn K mainGlobals "asked_alike" = some (some (.ref f1))) (l1 : K.lookup f1 = some ⟨oc1, od1, .func (PySem.W.fnOf "asked_alike" "asked_alike" (defArgs (topS 15)) (defBody (topS 15)) (defScope (topS 15)) .none kV1 dc1 pm1 an1 cd1 ct1), sl1⟩) (b1 : PySem.W.codeIn K cd1 "asked_alike" = true) (k1 : PySem.W.keepIn K (.ref f1) = true)
    {f2 : Addr} {od2 an2 : Option Addr} {sl2 : Array (Option Value)} {oc2 kV2 dc2 pm2 cd2 ct2 : Value} (a2 : PySem.W.nsIn K mainGlobals "together" = some (some (.ref f2))) (l2 : K.lookup f2 = some ⟨oc2, od2, .func (PySem.W.fnOf "together" "together" (defArgs (topS 16)) (defBody (topS 16)) (defScope (topS 16)) .none kV2 dc2 pm2 an2 cd2 ct2), sl2⟩) (b2 : PySem.W.codeIn K cd2 "together" = true) (k2 : PySem.W.keepIn K (.ref f2) = true)
    {f3 : Addr} {od3 an3 : Option Addr} {sl3 : Array (Option Value)} {oc3 kV3 dc3 pm3 cd3 ct3 : Value} (a3 : PySem.W.nsIn K mainGlobals "_law_pen" = some (some (.ref f3))) (l3 : K.lookup f3 = some ⟨oc3, od3, .func (PySem.W.fnOf "_law_pen" "_law_pen" (defArgs (topS 23)) (defBody (topS 23)) (defScope (topS 23)) .none kV3 dc3 pm3 an3 cd3 ct3), sl3⟩) (b3 : PySem.W.codeIn K cd3 "_law_pen" = true) (k3 : PySem.W.keepIn K (.ref f3) = true)
    {f4 : Addr} {od4 an4 : Option Addr} {sl4 : Array (Option Value)} {oc4 kV4 dc4 pm4 cd4 ct4 : Value} (a4 : PySem.W.nsIn K mainGlobals "_law_take" = some (some (.ref f4))) (l4 : K.lookup f4 = some ⟨oc4, od4, .func (PySem.W.fnOf "_law_take" "_law_take" (defArgs (topS 24)) (defBody (topS 24)) (defScope (topS 24)) .none kV4 dc4 pm4 an4 cd4 ct4), sl4⟩) (b4 : PySem.W.codeIn K cd4 "_law_take" = true) (k4 : PySem.W.keepIn K (.ref f4) = true)
    {f5 : Addr} {od5 an5 : Option Addr} {sl5 : Array (Option Value)} {oc5 kV5 dc5 pm5 cd5 ct5 : Value} (a5 : PySem.W.nsIn K mainGlobals "_law_signs" = some (some (.ref f5))) (l5 : K.lookup f5 = some ⟨oc5, od5, .func (PySem.W.fnOf "_law_signs" "_law_signs" (defArgs (topS 25)) (defBody (topS 25)) (defScope (topS 25)) .none kV5 dc5 pm5 an5 cd5 ct5), sl5⟩) (b5 : PySem.W.codeIn K cd5 "_law_signs" = true) (k5 : PySem.W.keepIn K (.ref f5) = true)
    {f6 : Addr} {od6 an6 : Option Addr} {sl6 : Array (Option Value)} {oc6 kV6 dc6 pm6 cd6 ct6 : Value} (a6 : PySem.W.nsIn K mainGlobals "_law_cut_down" = some (some (.ref f6))) (l6 : K.lookup f6 = some ⟨oc6, od6, .func (PySem.W.fnOf "_law_cut_down" "_law_cut_down" (defArgs (topS 27)) (defBody (topS 27)) (defScope (topS 27)) .none kV6 dc6 pm6 an6 cd6 ct6), sl6⟩) (b6 : PySem.W.codeIn K cd6 "_law_cut_down" = true) (k6 : PySem.W.keepIn K (.ref f6) = true)
    {f7 : Addr} {od7 an7 : Option Addr} {sl7 : Array (Option Value)} {oc7 kV7 dc7 pm7 cd7 ct7 : Value} (a7 : PySem.W.nsIn K mainGlobals "_law_met" = some (some (.ref f7))) (l7 : K.lookup f7 = some ⟨oc7, od7, .func (PySem.W.fnOf "_law_met" "_law_met" (defArgs (topS 32)) (defBody (topS 32)) (defScope (topS 32)) .none kV7 dc7 pm7 an7 cd7 ct7), sl7⟩) (b7 : PySem.W.codeIn K cd7 "_law_met" = true) (k7 : PySem.W.keepIn K (.ref f7) = true)
    {f8 : Addr} {od8 an8 : Option Addr} {sl8 : Array (Option Value)} {oc8 kV8 dc8 pm8 cd8 ct8 : Value} (a8 : PySem.W.nsIn K mainGlobals "_law_is_pair" = some (some (.ref f8))) (l8 : K.lookup f8 = some ⟨oc8, od8, .func (PySem.W.fnOf "_law_is_pair" "_law_is_pair" (defArgs (topS 37)) (defBody (topS 37)) (defScope (topS 37)) .none kV8 dc8 pm8 an8 cd8 ct8), sl8⟩) (b8 : PySem.W.codeIn K cd8 "_law_is_pair" = true) (k8 : PySem.W.keepIn K (.ref f8) = true)
    {f9 : Addr} {od9 an9 : Option Addr} {sl9 : Array (Option Value)} {oc9 kV9 dc9 pm9 cd9 ct9 : Value} (a9 : PySem.W.nsIn K mainGlobals "_law_every" = some (some (.ref f9))) (l9 : K.lookup f9 = some ⟨oc9, od9, .func (PySem.W.fnOf "_law_every" "_law_every" (defArgs (topS 40)) (defBody (topS 40)) (defScope (topS 40)) .none kV9 dc9 pm9 an9 cd9 ct9), sl9⟩) (b9 : PySem.W.codeIn K cd9 "_law_every" = true) (k9 : PySem.W.keepIn K (.ref f9) = true)
    {f10 : Addr} {od10 an10 : Option Addr} {sl10 : Array (Option Value)} {oc10 kV10 dc10 pm10 cd10 ct10 : Value} (a10 : PySem.W.nsIn K mainGlobals "is_numbers" = some (some (.ref f10))) (l10 : K.lookup f10 = some ⟨oc10, od10, .func (PySem.W.fnOf "is_numbers" "is_numbers" (defArgs (topS 13)) (defBody (topS 13)) (defScope (topS 13)) .none kV10 dc10 pm10 an10 cd10 ct10), sl10⟩) (b10 : PySem.W.codeIn K cd10 "is_numbers" = true) (k10 : PySem.W.keepIn K (.ref f10) = true)
    {f11 : Addr} {od11 an11 : Option Addr} {sl11 : Array (Option Value)} {oc11 kV11 dc11 pm11 cd11 ct11 : Value} (a11 : PySem.W.nsIn K mainGlobals "first_parted" = some (some (.ref f11))) (l11 : K.lookup f11 = some ⟨oc11, od11, .func (PySem.W.fnOf "first_parted" "first_parted" (defArgs (topS 17)) (defBody (topS 17)) (defScope (topS 17)) .none kV11 dc11 pm11 an11 cd11 ct11), sl11⟩) (b11 : PySem.W.codeIn K cd11 "first_parted" = true) (k11 : PySem.W.keepIn K (.ref f11) = true)
    {f12 : Addr} {od12 an12 : Option Addr} {sl12 : Array (Option Value)} {oc12 kV12 dc12 pm12 cd12 ct12 : Value} (a12 : PySem.W.nsIn K mainGlobals "_law_some" = some (some (.ref f12))) (l12 : K.lookup f12 = some ⟨oc12, od12, .func (PySem.W.fnOf "_law_some" "_law_some" (defArgs (topS 26)) (defBody (topS 26)) (defScope (topS 26)) .none kV12 dc12 pm12 an12 cd12 ct12), sl12⟩) (b12 : PySem.W.codeIn K cd12 "_law_some" = true) (k12 : PySem.W.keepIn K (.ref f12) = true)
    {f13 : Addr} {od13 an13 : Option Addr} {sl13 : Array (Option Value)} {oc13 kV13 dc13 pm13 cd13 ct13 : Value} (a13 : PySem.W.nsIn K mainGlobals "_law_table" = some (some (.ref f13))) (l13 : K.lookup f13 = some ⟨oc13, od13, .func (PySem.W.fnOf "_law_table" "_law_table" (defArgs (topS 28)) (defBody (topS 28)) (defScope (topS 28)) .none kV13 dc13 pm13 an13 cd13 ct13), sl13⟩) (b13 : PySem.W.codeIn K cd13 "_law_table" = true) (k13 : PySem.W.keepIn K (.ref f13) = true)
    {f14 : Addr} {od14 an14 : Option Addr} {sl14 : Array (Option Value)} {oc14 kV14 dc14 pm14 cd14 ct14 : Value} (a14 : PySem.W.nsIn K mainGlobals "_law_doubled" = some (some (.ref f14))) (l14 : K.lookup f14 = some ⟨oc14, od14, .func (PySem.W.fnOf "_law_doubled" "_law_doubled" (defArgs (topS 29)) (defBody (topS 29)) (defScope (topS 29)) .none kV14 dc14 pm14 an14 cd14 ct14), sl14⟩) (b14 : PySem.W.codeIn K cd14 "_law_doubled" = true) (k14 : PySem.W.keepIn K (.ref f14) = true)
    {f15 : Addr} {od15 an15 : Option Addr} {sl15 : Array (Option Value)} {oc15 kV15 dc15 pm15 cd15 ct15 : Value} (a15 : PySem.W.nsIn K mainGlobals "_law_bent" = some (some (.ref f15))) (l15 : K.lookup f15 = some ⟨oc15, od15, .func (PySem.W.fnOf "_law_bent" "_law_bent" (defArgs (topS 30)) (defBody (topS 30)) (defScope (topS 30)) .none kV15 dc15 pm15 an15 cd15 ct15), sl15⟩) (b15 : PySem.W.codeIn K cd15 "_law_bent" = true) (k15 : PySem.W.keepIn K (.ref f15) = true)
    {f16 : Addr} {od16 an16 : Option Addr} {sl16 : Array (Option Value)} {oc16 kV16 dc16 pm16 cd16 ct16 : Value} (a16 : PySem.W.nsIn K mainGlobals "_law_parted" = some (some (.ref f16))) (l16 : K.lookup f16 = some ⟨oc16, od16, .func (PySem.W.fnOf "_law_parted" "_law_parted" (defArgs (topS 33)) (defBody (topS 33)) (defScope (topS 33)) .none kV16 dc16 pm16 an16 cd16 ct16), sl16⟩) (b16 : PySem.W.codeIn K cd16 "_law_parted" = true) (k16 : PySem.W.keepIn K (.ref f16) = true)
    {f17 : Addr} {od17 an17 : Option Addr} {sl17 : Array (Option Value)} {oc17 kV17 dc17 pm17 cd17 ct17 : Value} (a17 : PySem.W.nsIn K mainGlobals "_law_other_tongue" = some (some (.ref f17))) (l17 : K.lookup f17 = some ⟨oc17, od17, .func (PySem.W.fnOf "_law_other_tongue" "_law_other_tongue" (defArgs (topS 34)) (defBody (topS 34)) (defScope (topS 34)) .none kV17 dc17 pm17 an17 cd17 ct17), sl17⟩) (b17 : PySem.W.codeIn K cd17 "_law_other_tongue" = true) (k17 : PySem.W.keepIn K (.ref f17) = true)
    {f18 : Addr} {od18 an18 : Option Addr} {sl18 : Array (Option Value)} {oc18 kV18 dc18 pm18 cd18 ct18 : Value} (a18 : PySem.W.nsIn K mainGlobals "_law_holds" = some (some (.ref f18))) (l18 : K.lookup f18 = some ⟨oc18, od18, .func (PySem.W.fnOf "_law_holds" "_law_holds" (defArgs (topS 38)) (defBody (topS 38)) (defScope (topS 38)) .none kV18 dc18 pm18 an18 cd18 ct18), sl18⟩) (b18 : PySem.W.codeIn K cd18 "_law_holds" = true) (k18 : PySem.W.keepIn K (.ref f18) = true)
    {f19 : Addr} {od19 an19 : Option Addr} {sl19 : Array (Option Value)} {oc19 kV19 dc19 pm19 cd19 ct19 : Value} (a19 : PySem.W.nsIn K mainGlobals "_law_bent_rows" = some (some (.ref f19))) (l19 : K.lookup f19 = some ⟨oc19, od19, .func (PySem.W.fnOf "_law_bent_rows" "_law_bent_rows" (defArgs (topS 39)) (defBody (topS 39)) (defScope (topS 39)) .none kV19 dc19 pm19 an19 cd19 ct19), sl19⟩) (b19 : PySem.W.codeIn K cd19 "_law_bent_rows" = true) (k19 : PySem.W.keepIn K (.ref f19) = true)
    {f20 : Addr} {od20 an20 : Option Addr} {sl20 : Array (Option Value)} {oc20 kV20 dc20 pm20 cd20 ct20 : Value} (a20 : PySem.W.nsIn K mainGlobals "parted" = some (some (.ref f20))) (l20 : K.lookup f20 = some ⟨oc20, od20, .func (PySem.W.fnOf "parted" "parted" (defArgs (topS 18)) (defBody (topS 18)) (defScope (topS 18)) .none kV20 dc20 pm20 an20 cd20 ct20), sl20⟩) (b20 : PySem.W.codeIn K cd20 "parted" = true) (k20 : PySem.W.keepIn K (.ref f20) = true)
    {f21 : Addr} {od21 an21 : Option Addr} {sl21 : Array (Option Value)} {oc21 kV21 dc21 pm21 cd21 ct21 : Value} (a21 : PySem.W.nsIn K mainGlobals "is_pair" = some (some (.ref f21))) (l21 : K.lookup f21 = some ⟨oc21, od21, .func (PySem.W.fnOf "is_pair" "is_pair" (defArgs (topS 20)) (defBody (topS 20)) (defScope (topS 20)) .none kV21 dc21 pm21 an21 cd21 ct21), sl21⟩) (b21 : PySem.W.codeIn K cd21 "is_pair" = true) (k21 : PySem.W.keepIn K (.ref f21) = true)
    {f22 : Addr} {od22 an22 : Option Addr} {sl22 : Array (Option Value)} {oc22 kV22 dc22 pm22 cd22 ct22 : Value} (a22 : PySem.W.nsIn K mainGlobals "_law_two" = some (some (.ref f22))) (l22 : K.lookup f22 = some ⟨oc22, od22, .func (PySem.W.fnOf "_law_two" "_law_two" (defArgs (topS 31)) (defBody (topS 31)) (defScope (topS 31)) .none kV22 dc22 pm22 an22 cd22 ct22), sl22⟩) (b22 : PySem.W.codeIn K cd22 "_law_two" = true) (k22 : PySem.W.keepIn K (.ref f22) = true)
    {f23 : Addr} {od23 an23 : Option Addr} {sl23 : Array (Option Value)} {oc23 kV23 dc23 pm23 cd23 ct23 : Value} (a23 : PySem.W.nsIn K mainGlobals "pairs" = some (some (.ref f23))) (l23 : K.lookup f23 = some ⟨oc23, od23, .func (PySem.W.fnOf "pairs" "pairs" (defArgs (topS 19)) (defBody (topS 19)) (defScope (topS 19)) .none kV23 dc23 pm23 an23 cd23 ct23), sl23⟩) (b23 : PySem.W.codeIn K cd23 "pairs" = true) (k23 : PySem.W.keepIn K (.ref f23) = true)
    {f24 : Addr} {od24 an24 : Option Addr} {sl24 : Array (Option Value)} {oc24 kV24 dc24 pm24 cd24 ct24 : Value} (a24 : PySem.W.nsIn K mainGlobals "pairs_hold" = some (some (.ref f24))) (l24 : K.lookup f24 = some ⟨oc24, od24, .func (PySem.W.fnOf "pairs_hold" "pairs_hold" (defArgs (topS 21)) (defBody (topS 21)) (defScope (topS 21)) .none kV24 dc24 pm24 an24 cd24 ct24), sl24⟩) (b24 : PySem.W.codeIn K cd24 "pairs_hold" = true) (k24 : PySem.W.keepIn K (.ref f24) = true)
    {f25 : Addr} {od25 an25 : Option Addr} {sl25 : Array (Option Value)} {oc25 kV25 dc25 pm25 cd25 ct25 : Value} (a25 : PySem.W.nsIn K mainGlobals "_law_refused" = some (some (.ref f25))) (l25 : K.lookup f25 = some ⟨oc25, od25, .func (PySem.W.fnOf "_law_refused" "_law_refused" (defArgs (topS 36)) (defBody (topS 36)) (defScope (topS 36)) .none kV25 dc25 pm25 an25 cd25 ct25), sl25⟩) (b25 : PySem.W.codeIn K cd25 "_law_refused" = true) (k25 : PySem.W.keepIn K (.ref f25) = true)
    {f26 : Addr} {od26 an26 : Option Addr} {sl26 : Array (Option Value)} {oc26 kV26 dc26 pm26 cd26 ct26 : Value} (a26 : PySem.W.nsIn K mainGlobals "_law_same" = some (some (.ref f26))) (l26 : K.lookup f26 = some ⟨oc26, od26, .func (PySem.W.fnOf "_law_same" "_law_same" (defArgs (topS 35)) (defBody (topS 35)) (defScope (topS 35)) .none kV26 dc26 pm26 an26 cd26 ct26), sl26⟩) (b26 : PySem.W.codeIn K cd26 "_law_same" = true) (k26 : PySem.W.keepIn K (.ref f26) = true)
    {f27 : Addr} {od27 an27 : Option Addr} {sl27 : Array (Option Value)} {oc27 kV27 dc27 pm27 cd27 ct27 : Value} (a27 : PySem.W.nsIn K mainGlobals "law" = some (some (.ref f27))) (l27 : K.lookup f27 = some ⟨oc27, od27, .func (PySem.W.fnOf "law" "law" (defArgs (topS 41)) (defBody (topS 41)) (defScope (topS 41)) .none kV27 dc27 pm27 an27 cd27 ct27), sl27⟩) (b27 : PySem.W.codeIn K cd27 "law" = true) (k27 : PySem.W.keepIn K (.ref f27) = true) :
    ∃ fd : FuncData, (∀ (s : Shared) (v : Value), BindsTo s fd ⟨[v], []⟩ [("_law_script", v)]) ∧ ∀ base : Heap, K.In base → base.Ns mainGlobals mg → FnOk l.prog w K mg base (L2.CX l.prog w) 25 fa fd ["_law_script"] (spLaw ⟨K, fun _ => 0⟩ m_law) := by
  have e := hfa.symm.trans (PySem.W.mg_of X Gn a27)
  cases e
  have F0 := fun_mk (st := topS 12) l0 b0 k0
  have B0 := F0.binds (ps := ["thing"]) fun _ _ _ _ _ _ us hl => match us, hl with | [_], _ => rfl
  have F1 := fun_mk (st := topS 15) l1 b1 k1
  have B1 := F1.binds (ps := ["one", "other"]) fun _ _ _ _ _ _ us hl => match us, hl with | [_, _], _ => rfl
  have F2 := fun_mk (st := topS 16) l2 b2 k2
  have B2 := F2.binds (ps := ["one", "other"]) fun _ _ _ _ _ _ us hl => match us, hl with | [_, _], _ => rfl
  have F3 := fun_mk (st := topS 23) l3 b3 k3
  have B3 := F3.binds (ps := ["_law_script"]) fun _ _ _ _ _ _ us hl => match us, hl with | [_], _ => rfl
  have F4 := fun_mk (st := topS 24) l4 b4 k4
  have B4 := F4.binds (ps := ["_law_pen_here", "_law_many"]) fun _ _ _ _ _ _ us hl => match us, hl with | [_, _], _ => rfl
  have F5 := fun_mk (st := topS 25) l5 b5 k5
  have B5 := F5.binds (ps := []) fun _ _ _ _ _ _ us hl => match us, hl with | [], _ => rfl
  have F6 := fun_mk (st := topS 27) l6 b6 k6
  have B6 := F6.binds (ps := ["_law_tongue", "_law_goes", "_law_kinds", "_law_turn"]) fun _ _ _ _ _ _ us hl => match us, hl with | [_, _, _, _], _ => rfl
  have F7 := fun_mk (st := topS 32) l7 b7 k7
  have B7 := F7.binds (ps := ["_law_one", "_law_other"]) fun _ _ _ _ _ _ us hl => match us, hl with | [_, _], _ => rfl
  have F8 := fun_mk (st := topS 37) l8 b8 k8
  have B8 := F8.binds (ps := ["_law_one", "_law_other", "_law_pair"]) fun _ _ _ _ _ _ us hl => match us, hl with | [_, _, _], _ => rfl
  have F9 := fun_mk (st := topS 40) l9 b9 k9
  have B9 := F9.binds (ps := ["_law_one", "_law_other"]) fun _ _ _ _ _ _ us hl => match us, hl with | [_, _], _ => rfl
  have F10 := fun_mk (st := topS 13) l10 b10 k10
  have B10 := F10.binds (ps := ["thing"]) fun _ _ _ _ _ _ us hl => match us, hl with | [_], _ => rfl
  have F11 := fun_mk (st := topS 17) l11 b11 k11
  have B11 := F11.binds (ps := ["one", "other", "marks", "others"]) fun _ _ _ _ _ _ us hl => match us, hl with | [_, _, _, _], _ => rfl
  have F12 := fun_mk (st := topS 26) l12 b12 k12
  have B12 := F12.binds (ps := ["_law_pen_here", "_law_rest", "_law_most"]) fun _ _ _ _ _ _ us hl => match us, hl with | [_, _, _], _ => rfl
  have F13 := fun_mk (st := topS 28) l13 b13 k13
  have B13 := F13.binds (ps := ["_law_pen_here", "_law_tongue", "_law_most"]) fun _ _ _ _ _ _ us hl => match us, hl with | [_, _, _], _ => rfl
  have F14 := fun_mk (st := topS 29) l14 b14 k14
  have B14 := F14.binds (ps := ["_law_pen_here", "_law_table_here"]) fun _ _ _ _ _ _ us hl => match us, hl with | [_, _], _ => rfl
  have F15 := fun_mk (st := topS 30) l15 b15 k15
  have B15 := F15.binds (ps := ["_law_pen_here", "_law_table_here"]) fun _ _ _ _ _ _ us hl => match us, hl with | [_, _], _ => rfl
  have F16 := fun_mk (st := topS 33) l16 b16 k16
  have B16 := F16.binds (ps := ["_law_one", "_law_other"]) fun _ _ _ _ _ _ us hl => match us, hl with | [_, _], _ => rfl
  have F17 := fun_mk (st := topS 34) l17 b17 k17
  have B17 := F17.binds (ps := ["_law_pen_here", "_law_table_here"]) fun _ _ _ _ _ _ us hl => match us, hl with | [_, _], _ => rfl
  have F18 := fun_mk (st := topS 38) l18 b18 k18
  have B18 := F18.binds (ps := ["_law_one", "_law_other", "_law_rows"]) fun _ _ _ _ _ _ us hl => match us, hl with | [_, _, _], _ => rfl
  have F19 := fun_mk (st := topS 39) l19 b19 k19
  have B19 := F19.binds (ps := ["_law_pen_here", "_law_one", "_law_other", "_law_rows"]) fun _ _ _ _ _ _ us hl => match us, hl with | [_, _, _, _], _ => rfl
  have F20 := fun_mk (st := topS 18) l20 b20 k20
  have B20 := F20.binds (ps := ["one", "other"]) fun _ _ _ _ _ _ us hl => match us, hl with | [_, _], _ => rfl
  have F21 := fun_mk (st := topS 20) l21 b21 k21
  have B21 := F21.binds (ps := ["one", "other", "thing"]) fun _ _ _ _ _ _ us hl => match us, hl with | [_, _, _], _ => rfl
  have F22 := fun_mk (st := topS 31) l22 b22 k22
  have B22 := F22.binds (ps := ["_law_pen_here"]) fun _ _ _ _ _ _ us hl => match us, hl with | [_], _ => rfl
  have F23 := fun_mk (st := topS 19) l23 b23 k23
  have B23 := F23.binds (ps := ["one", "other"]) fun _ _ _ _ _ _ us hl => match us, hl with | [_, _], _ => rfl
  have F24 := fun_mk (st := topS 21) l24 b24 k24
  have B24 := F24.binds (ps := ["one", "other", "rows"]) fun _ _ _ _ _ _ us hl => match us, hl with | [_, _, _], _ => rfl
  have F25 := fun_mk (st := topS 36) l25 b25 k25
  have B25 := F25.binds (ps := ["_law_one", "_law_other", "_law_road", "_law_rows"]) fun _ _ _ _ _ _ us hl => match us, hl with | [_, _, _, _], _ => rfl
  have F26 := fun_mk (st := topS 35) l26 b26 k26
  have B26 := F26.binds (ps := ["_law_found", "_law_due"]) fun _ _ _ _ _ _ us hl => match us, hl with | [_, _], _ => rfl
  have F27 := fun_mk (st := topS 41) l27 b27 k27
  have B27 := F27.binds (ps := ["_law_script"]) fun _ _ _ _ _ _ us hl => match us, hl with | [_], _ => rfl
  obtain ⟨cl, e_Closed, e_NoBook, e_NoModes, e_NoPlace, e_NoTable, e_NoText, e_ReachError, e_TooHeavy, e_TooMany, e_Unlike⟩ : ∃ cl : Str → Addr, cl "Closed" = c_Closed ∧ cl "NoBook" = c_NoBook ∧ cl "NoModes" = c_NoModes ∧ cl "NoPlace" = c_NoPlace ∧ cl "NoTable" = c_NoTable ∧ cl "NoText" = c_NoText ∧ cl "ReachError" = c_ReachError ∧ cl "TooHeavy" = c_TooHeavy ∧ cl "TooMany" = c_TooMany ∧ cl "Unlike" = c_Unlike := ⟨fun s => if s = "Closed" then c_Closed else (if s = "NoBook" then c_NoBook else (if s = "NoModes" then c_NoModes else (if s = "NoPlace" then c_NoPlace else (if s = "NoTable" then c_NoTable else (if s = "NoText" then c_NoText else (if s = "ReachError" then c_ReachError else (if s = "TooHeavy" then c_TooHeavy else (if s = "TooMany" then c_TooMany else (if s = "Unlike" then c_Unlike else (0)))))))))), if_pos rfl, (if_neg (by decide)).trans (if_pos rfl), (if_neg (by decide)).trans ((if_neg (by decide)).trans (if_pos rfl)), (if_neg (by decide)).trans ((if_neg (by decide)).trans ((if_neg (by decide)).trans (if_pos rfl))), (if_neg (by decide)).trans ((if_neg (by decide)).trans ((if_neg (by decide)).trans ((if_neg (by decide)).trans (if_pos rfl)))), (if_neg (by decide)).trans ((if_neg (by decide)).trans ((if_neg (by decide)).trans ((if_neg (by decide)).trans ((if_neg (by decide)).trans (if_pos rfl))))), (if_neg (by decide)).trans ((if_neg (by decide)).trans ((if_neg (by decide)).trans ((if_neg (by decide)).trans ((if_neg (by decide)).trans ((if_neg (by decide)).trans (if_pos rfl)))))), (if_neg (by decide)).trans ((if_neg (by decide)).trans ((if_neg (by decide)).trans ((if_neg (by decide)).trans ((if_neg (by decide)).trans ((if_neg (by decide)).trans ((if_neg (by decide)).trans (if_pos rfl))))))), (if_neg (by decide)).trans ((if_neg (by decide)).trans ((if_neg (by decide)).trans ((if_neg (by decide)).trans ((if_neg (by decide)).trans ((if_neg (by decide)).trans ((if_neg (by decide)).trans ((if_neg (by decide)).trans (if_pos rfl)))))))), (if_neg (by decide)).trans ((if_neg (by decide)).trans ((if_neg (by decide)).trans ((if_neg (by decide)).trans ((if_neg (by decide)).trans ((if_neg (by decide)).trans ((if_neg (by decide)).trans ((if_neg (by decide)).trans ((if_neg (by decide)).trans (if_pos rfl)))))))))⟩
  subst e_Closed
  subst e_NoBook
  subst e_NoModes
  subst e_NoPlace
  subst e_NoTable
  subst e_NoText
  subst e_ReachError
  subst e_TooHeavy
  subst e_TooMany
  subst e_Unlike
  have ec_Unlike : ExcC K (cl "Unlike") := ⟨cg_Unlike, ch_Unlike, cb_Unlike, cd_Unlike, cc_Unlike, cn, cx, cm_Unlike⟩
  exact ⟨PySem.W.fnOf "law" "law" (defArgs (topS 41)) (defBody (topS 41)) (defScope (topS 41)) .none kV27 dc27 pm27 an27 cd27 ct27, fun s v => .of_eq rfl, fun base _ _ => 
    law_ok (G := ⟨K, cl⟩) (all_ok (P := l.prog) (w := w) (base := base) (K := K) (mg := mg) cl (PySem.W.mg_none_of X Gn z_ValueError) (PySem.W.mg_none_of X Gn z_abs) (PySem.W.mg_none_of X Gn z_all) (PySem.W.mg_none_of X Gn z_bool) (PySem.W.mg_none_of X Gn z_enumerate) (PySem.W.mg_none_of X Gn z_int) (PySem.W.mg_none_of X Gn z_isinstance) (PySem.W.mg_none_of X Gn z_len) (PySem.W.mg_none_of X Gn z_list) (PySem.W.mg_none_of X Gn z_min) (PySem.W.mg_none_of X Gn z_range) (PySem.W.mg_none_of X Gn z_sorted) (PySem.W.mg_none_of X Gn z_str) (PySem.W.mg_none_of X Gn z_tuple) (PySem.W.mg_none_of X Gn z_zip) ⟨PySem.W.mg_of X Gn ca_Unlike, cq_Unlike, ck_Unlike, cb_Unlike, ct_Unlike, ec_Unlike⟩ (PySem.W.mg_of X Gn ca_Closed) (PySem.W.mg_of X Gn ca_NoBook) (PySem.W.mg_of X Gn ca_NoModes) (PySem.W.mg_of X Gn ca_NoPlace) (PySem.W.mg_of X Gn ca_NoTable) (PySem.W.mg_of X Gn ca_NoText) (PySem.W.mg_of X Gn ca_ReachError) (PySem.W.mg_of X Gn ca_TooHeavy) (PySem.W.mg_of X Gn ca_TooMany) (PySem.W.mg_of X Gn ca_Unlike) (exH_cons (by show PySem.W.exmOne K _ (clU cl "ReachError") = _; rw [clU_own (by decide)]; exact PySem.W.exm_ref hb_ReachError hd_ReachError ht_ReachError h_Unlike_ReachError) (exH_nil)) (exI_cons (by show PySem.W.kitOne K _ (clU cl "Closed") = _; rw [clU_own (by decide)]; exact kit_ref hd_Closed ht_Closed i_Unlike_Closed r_Closed) ec_Unlike (exI_cons (by show PySem.W.kitOne K _ (clU cl "NoBook") = _; rw [clU_own (by decide)]; exact kit_ref hd_NoBook ht_NoBook i_Unlike_NoBook r_NoBook) ec_Unlike (exI_cons (by show PySem.W.kitOne K _ (clU cl "NoModes") = _; rw [clU_own (by decide)]; exact kit_ref hd_NoModes ht_NoModes i_Unlike_NoModes r_NoModes) ec_Unlike (exI_cons (by show PySem.W.kitOne K _ (clU cl "NoPlace") = _; rw [clU_own (by decide)]; exact kit_ref hd_NoPlace ht_NoPlace i_Unlike_NoPlace r_NoPlace) ec_Unlike (exI_cons (by show PySem.W.kitOne K _ (clU cl "NoTable") = _; rw [clU_own (by decide)]; exact kit_ref hd_NoTable ht_NoTable i_Unlike_NoTable r_NoTable) ec_Unlike (exI_cons (by show PySem.W.kitOne K _ (clU cl "NoText") = _; rw [clU_own (by decide)]; exact kit_ref hd_NoText ht_NoText i_Unlike_NoText r_NoText) ec_Unlike (exI_cons (by show PySem.W.kitOne K _ (clU cl "TooHeavy") = _; rw [clU_own (by decide)]; exact kit_ref hd_TooHeavy ht_TooHeavy i_Unlike_TooHeavy r_TooHeavy) ec_Unlike (exI_cons (by show PySem.W.kitOne K _ (clU cl "TooMany") = _; rw [clU_own (by decide)]; exact kit_ref hd_TooMany ht_TooMany i_Unlike_TooMany r_TooMany) ec_Unlike (exI_cons (by show PySem.W.kitOne K _ (clU cl "Unlike") = _; rw [clU_own (by decide)]; exact kit_ref hd_Unlike ht_Unlike i_Unlike_Unlike r_Unlike) ec_Unlike (exI_cons (by show PySem.W.kitOne K _ (clU cl "ValueError") = _; rw [clU_val]; exact kit_val i_Unlike_ValueError) ec_Unlike (exI_nil))))))))))) ⟨_, _, F0, PySem.W.mg_of X Gn a0, B0⟩ ⟨_, _, F1, PySem.W.mg_of X Gn a1, B1⟩ ⟨_, _, F2, PySem.W.mg_of X Gn a2, B2⟩ ⟨_, _, F3, PySem.W.mg_of X Gn a3, B3⟩ ⟨_, _, F4, PySem.W.mg_of X Gn a4, B4⟩ ⟨_, _, F5, PySem.W.mg_of X Gn a5, B5⟩ ⟨_, _, F6, PySem.W.mg_of X Gn a6, B6⟩ ⟨_, _, F7, PySem.W.mg_of X Gn a7, B7⟩ ⟨_, _, F8, PySem.W.mg_of X Gn a8, B8⟩ ⟨_, _, F9, PySem.W.mg_of X Gn a9, B9⟩ ⟨_, _, F10, PySem.W.mg_of X Gn a10, B10⟩ ⟨_, _, F11, PySem.W.mg_of X Gn a11, B11⟩ ⟨_, _, F12, PySem.W.mg_of X Gn a12, B12⟩ ⟨_, _, F13, PySem.W.mg_of X Gn a13, B13⟩ ⟨_, _, F14, PySem.W.mg_of X Gn a14, B14⟩ ⟨_, _, F15, PySem.W.mg_of X Gn a15, B15⟩ ⟨_, _, F16, PySem.W.mg_of X Gn a16, B16⟩ ⟨_, _, F17, PySem.W.mg_of X Gn a17, B17⟩ ⟨_, _, F18, PySem.W.mg_of X Gn a18, B18⟩ ⟨_, _, F19, PySem.W.mg_of X Gn a19, B19⟩ ⟨_, _, F20, PySem.W.mg_of X Gn a20, B20⟩ ⟨_, _, F21, PySem.W.mg_of X Gn a21, B21⟩ ⟨_, _, F22, PySem.W.mg_of X Gn a22, B22⟩ ⟨_, _, F23, PySem.W.mg_of X Gn a23, B23⟩ ⟨_, _, F24, PySem.W.mg_of X Gn a24, B24⟩ ⟨_, _, F25, PySem.W.mg_of X Gn a25, B25⟩ ⟨_, _, F26, PySem.W.mg_of X Gn a26, B26⟩ F27) law_true⟩
end NR
open PySem PySem.W PyProof.Rows
set_option maxHeartbeats 0 in
theorem PySem.Challenge.cw_nearreach_k58_pairs_looked_at_holds : PySem.Challenge.rw_nearreach_k58_pairs_looked_at.Holds := by
  w_on; o_law; k_head; (case hw => w_witness2)
  k_fill
  refine L2.walk_of (l := PySem.Challenge.rw_nearreach_k58_pairs_looked_at) (n := 63) (k := 25) (x := "_law_script") (CX := fun w => L2.CX (PySem.Challenge.rw_nearreach_k58_pairs_looked_at).prog w) (sp := fun w => NR.spLaw ⟨_, fun _ => 0⟩ NR.m_law) rfl (by decide) rfl ⟨rfl, by decide, by decide⟩ (fun w h Y => PySem.W.kIn_of Y) ?F (fun _ H a ns hl ho hS => ⟨a, ns, rfl, hl, ho, hS, fun _ => rfl⟩) (fun w H s e s' hx => NR.cx_no hx)
  case F =>
    intro w mg fa h KX G hmg
    refine' NR.all_mk KX G hmg ?z_ValueError ?z_abs ?z_all ?z_bool ?z_enumerate ?z_int ?z_isinstance ?z_len ?z_list ?z_min ?z_range ?z_sorted ?z_str ?z_tuple ?z_zip ?ca_Closed ?ca_NoBook ?ca_NoModes ?ca_NoPlace ?ca_NoTable ?ca_NoText ?ca_ReachError ?ca_TooHeavy ?ca_TooMany ?ca_Unlike ?cq_Unlike ?ck_Unlike ?cb_Unlike ?ct_Unlike ?cg_Unlike ?ch_Unlike ?cd_Unlike ?cc_Unlike ?cm_Unlike ?cn ?cx ?r_Closed ?r_NoBook ?r_NoModes ?r_NoPlace ?r_NoTable ?r_NoText ?r_TooHeavy ?r_TooMany ?r_Unlike ?hb_Closed ?hd_Closed ?ht_Closed ?hb_NoBook ?hd_NoBook ?ht_NoBook ?hb_NoModes ?hd_NoModes ?ht_NoModes ?hb_NoPlace ?hd_NoPlace ?ht_NoPlace ?hb_NoTable ?hd_NoTable ?ht_NoTable ?hb_NoText ?hd_NoText ?ht_NoText ?hb_ReachError ?hd_ReachError ?ht_ReachError ?hb_TooHeavy ?hd_TooHeavy ?ht_TooHeavy ?hb_TooMany ?hd_TooMany ?ht_TooMany ?hb_Unlike ?hd_Unlike ?ht_Unlike ?h_Unlike_ReachError ?i_Unlike_Closed ?i_Unlike_NoBook ?i_Unlike_NoModes ?i_Unlike_NoPlace ?i_Unlike_NoTable ?i_Unlike_NoText ?i_Unlike_TooHeavy ?i_Unlike_TooMany ?i_Unlike_Unlike ?i_Unlike_ValueError ?a0 ?l0 ?b0 ?k0 ?a1 ?l1 ?b1 ?k1 ?a2 ?l2 ?b2 ?k2 ?a3 ?l3 ?b3 ?k3 ?a4 ?l4 ?b4 ?k4 ?a5 ?l5 ?b5 ?k5 ?a6 ?l6 ?b6 ?k6 ?a7 ?l7 ?b7 ?k7 ?a8 ?l8 ?b8 ?k8 ?a9 ?l9 ?b9 ?k9 ?a10 ?l10 ?b10 ?k10 ?a11 ?l11 ?b11 ?k11 ?a12 ?l12 ?b12 ?k12 ?a13 ?l13 ?b13 ?k13 ?a14 ?l14 ?b14 ?k14 ?a15 ?l15 ?b15 ?k15 ?a16 ?l16 ?b16 ?k16 ?a17 ?l17 ?b17 ?k17 ?a18 ?l18 ?b18 ?k18 ?a19 ?l19 ?b19 ?k19 ?a20 ?l20 ?b20 ?k20 ?a21 ?l21 ?b21 ?k21 ?a22 ?l22 ?b22 ?k22 ?a23 ?l23 ?b23 ?k23 ?a24 ?l24 ?b24 ?k24 ?a25 ?l25 ?b25 ?k25 ?a26 ?l26 ?b26 ?k26 ?a27 ?l27 ?b27 ?k27
    (case z_ValueError => k_is)
    (case z_abs => k_is)
    (case z_all => k_is)
    (case z_bool => k_is)
    (case z_enumerate => k_is)
    (case z_int => k_is)
    (case z_isinstance => k_is)
    (case z_len => k_is)
    (case z_list => k_is)
    (case z_min => k_is)
    (case z_range => k_is)
    (case z_sorted => k_is)
    (case z_str => k_is)
    (case z_tuple => k_is)
    (case z_zip => k_is)
    (case ca_Closed => k_is)
    (case ca_NoBook => k_is)
    (case ca_NoModes => k_is)
    (case ca_NoPlace => k_is)
    (case ca_NoTable => k_is)
    (case ca_NoText => k_is)
    (case ca_ReachError => k_is)
    (case ca_TooHeavy => k_is)
    (case ca_TooMany => k_is)
    (case ca_Unlike => k_is)
    (case cq_Unlike => k_exc)
    (case ck_Unlike => k_is)
    (case cb_Unlike => k_is)
    (case ct_Unlike => k_is)
    (case cg_Unlike => k_is)
    (case ch_Unlike => k_is)
    (case cd_Unlike => k_is)
    (case cc_Unlike => k_is)
    (case cm_Unlike => k_is)
    (case cn => k_is)
    (case cx => k_is)
    (case r_Closed => first | rfl | k_is)
    (case r_NoBook => first | rfl | k_is)
    (case r_NoModes => first | rfl | k_is)
    (case r_NoPlace => first | rfl | k_is)
    (case r_NoTable => first | rfl | k_is)
    (case r_NoText => first | rfl | k_is)
    (case r_TooHeavy => first | rfl | k_is)
    (case r_TooMany => first | rfl | k_is)
    (case r_Unlike => first | rfl | k_is)
    (case hb_Closed => k_is)
    (case hd_Closed => k_is)
    (case ht_Closed => k_is)
    (case hb_NoBook => k_is)
    (case hd_NoBook => k_is)
    (case ht_NoBook => k_is)
    (case hb_NoModes => k_is)
    (case hd_NoModes => k_is)
    (case ht_NoModes => k_is)
    (case hb_NoPlace => k_is)
    (case hd_NoPlace => k_is)
    (case ht_NoPlace => k_is)
    (case hb_NoTable => k_is)
    (case hd_NoTable => k_is)
    (case ht_NoTable => k_is)
    (case hb_NoText => k_is)
    (case hd_NoText => k_is)
    (case ht_NoText => k_is)
    (case hb_ReachError => k_is)
    (case hd_ReachError => k_is)
    (case ht_ReachError => k_is)
    (case hb_TooHeavy => k_is)
    (case hd_TooHeavy => k_is)
    (case ht_TooHeavy => k_is)
    (case hb_TooMany => k_is)
    (case hd_TooMany => k_is)
    (case ht_TooMany => k_is)
    (case hb_Unlike => k_is)
    (case hd_Unlike => k_is)
    (case ht_Unlike => k_is)
    (case h_Unlike_ReachError => first | rfl | k_is)
    (case i_Unlike_Closed => first | rfl | k_is)
    (case i_Unlike_NoBook => first | rfl | k_is)
    (case i_Unlike_NoModes => first | rfl | k_is)
    (case i_Unlike_NoPlace => first | rfl | k_is)
    (case i_Unlike_NoTable => first | rfl | k_is)
    (case i_Unlike_NoText => first | rfl | k_is)
    (case i_Unlike_TooHeavy => first | rfl | k_is)
    (case i_Unlike_TooMany => first | rfl | k_is)
    (case i_Unlike_Unlike => first | rfl | k_is)
    (case i_Unlike_ValueError => first | rfl | k_is)
    (case a0 => k_is)
    (case l0 => k_is)
    (case b0 => k_is)
    (case k0 => k_is)
    (case a1 => k_is)
    (case l1 => k_is)
    (case b1 => k_is)
    (case k1 => k_is)
    (case a2 => k_is)
    (case l2 => k_is)
    (case b2 => k_is)
    (case k2 => k_is)
    (case a3 => k_is)
    (case l3 => k_is)
    (case b3 => k_is)
    (case k3 => k_is)
    (case a4 => k_is)
    (case l4 => k_is)
    (case b4 => k_is)
    (case k4 => k_is)
    (case a5 => k_is)
    (case l5 => k_is)
    (case b5 => k_is)
    (case k5 => k_is)
    (case a6 => k_is)
    (case l6 => k_is)
    (case b6 => k_is)
    (case k6 => k_is)
    (case a7 => k_is)
    (case l7 => k_is)
    (case b7 => k_is)
    (case k7 => k_is)
    (case a8 => k_is)
    (case l8 => k_is)
    (case b8 => k_is)
    (case k8 => k_is)
    (case a9 => k_is)
    (case l9 => k_is)
    (case b9 => k_is)
    (case k9 => k_is)
    (case a10 => k_is)
    (case l10 => k_is)
    (case b10 => k_is)
    (case k10 => k_is)
    (case a11 => k_is)
    (case l11 => k_is)
    (case b11 => k_is)
    (case k11 => k_is)
    (case a12 => k_is)
    (case l12 => k_is)
    (case b12 => k_is)
    (case k12 => k_is)
    (case a13 => k_is)
    (case l13 => k_is)
    (case b13 => k_is)
    (case k13 => k_is)
    (case a14 => k_is)
    (case l14 => k_is)
    (case b14 => k_is)
    (case k14 => k_is)
    (case a15 => k_is)
    (case l15 => k_is)
    (case b15 => k_is)
    (case k15 => k_is)
    (case a16 => k_is)
    (case l16 => k_is)
    (case b16 => k_is)
    (case k16 => k_is)
    (case a17 => k_is)
    (case l17 => k_is)
    (case b17 => k_is)
    (case k17 => k_is)
    (case a18 => k_is)
    (case l18 => k_is)
    (case b18 => k_is)
    (case k18 => k_is)
    (case a19 => k_is)
    (case l19 => k_is)
    (case b19 => k_is)
    (case k19 => k_is)
    (case a20 => k_is)
    (case l20 => k_is)
    (case b20 => k_is)
    (case k20 => k_is)
    (case a21 => k_is)
    (case l21 => k_is)
    (case b21 => k_is)
    (case k21 => k_is)
    (case a22 => k_is)
    (case l22 => k_is)
    (case b22 => k_is)
    (case k22 => k_is)
    (case a23 => k_is)
    (case l23 => k_is)
    (case b23 => k_is)
    (case k23 => k_is)
    (case a24 => k_is)
    (case l24 => k_is)
    (case b24 => k_is)
    (case k24 => k_is)
    (case a25 => k_is)
    (case l25 => k_is)
    (case b25 => k_is)
    (case k25 => k_is)
    (case a26 => k_is)
    (case l26 => k_is)
    (case b26 => k_is)
    (case k26 => k_is)
    (case a27 => k_is)
    (case l27 => k_is)
    (case b27 => k_is)
    (case k27 => k_is)
