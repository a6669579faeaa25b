import PyProof.Rows.All
import Wide.All
import OpenK.AllK
import Wide.FinOn
import HandS.ForMost
import HandS.ForExc
import HandS.Wide
import HandS.IsInst
import HandS.TupAny
import HandS.TupMul
import HandS.Style
import PyProof.StrOps2
import KE.DataEq
import HandS.NoneIn
import PyProof.ListStr
import PyProof.TupleOfStr
import HandS.Replace
import HandS.ExcIs
import HandS.SortInts
import HandS.WideMore
import KE.GoesNew
import KE.GoesEnumKw
import KE.DataCmp
import HandS.StrMore
import HandS.Deep
import PyProof.StrLawsLast
import HandS.RevRange
import PyProof.Rows.SetFrom
import PyProof.WalksMore
import PyProof.WalkInts
import PyProof.SeqI3
import HandS.TupLen
import PyProof.Rows.TupDisplay
import KE.KDictZip
import HandS.Conv
import PyProof.ReprRoads
import PyProof.ReprLen
import PyProof.StrLawsRepr
import PyProof.Rows.RegStrFacts
import PySem.Challenge.RW_nearreach_k29_least_tables
set_option Elab.async false
set_option linter.all false
set_option maxRecDepth 100000
/-! The core: values as trees, mutable cells, what a reading does as a function. -/
namespace NR
open PySem PySem.Spec PyProof.Rows L2

abbrev DKey := Sum Int (List Nat)
/-- a value: a tree, or the number of a mutable cell -/
inductive D where
  | non | bl (b : Bool) | int (i : Int) | str (s : List Nat) | tup (l : List D) | ref (n : Nat) | exc (a : Nat)
  /-- a list, a dict that is never written any more -/
  | fl (l : List D) | fd (ks : List (Sum Int (List Nat))) (l : List D)
/-- a mutable cell -/
inductive Cell where
  | lst (xs : List D)
  | frz (xs : List D)
  | dk (kvs : List (DKey × D))
  | dt (kvs : List (List DKey × D))
  | ins (c : Str) (fs : List (Str × D))
abbrev IH := List Cell
abbrev EV := List (Option D)
/-- the written part, the classes by their names -/
structure Cf where
  K : PySem.W.Frag
  C : Str → Addr

def strV (s : List Nat) : Str := ⟨s.toArray⟩
def keyV : DKey → Key
  | .inl i => .inl i
  | .inr s => .inr (strV s)
theorem strV_inj {a b : List Nat} (h : strV a = strV b) : a = b := by
  have := congrArg (fun s : Str => s.cps.toList) h
  simpa [strV] using this
theorem strV_toList (s : Str) : strV s.cps.toList = s := by
  cases s; simp [strV]
theorem strV_length (s : List Nat) : (strV s).length = s.length := by
  show (strV s).cps.size = _
  simp [strV]

/-- a list that is never written -/
def FrzL (K : PySem.W.Frag) (H : Hp) (a : Addr) (xs : List V) : Prop :=
  (∃ o, H a = some (.frz o (.lst xs))) ∨
    ∃ (o : Obj) (its : Array Value) (n : Nat), K.lookup a = some o ∧ o.cls = .type "list" ∧ o.dict = none ∧ o.data = .seq its n ∧ its.size ≤ sizeLine ∧ Vals xs its.toList
/-- a list that is locked -/
def FrzM (H : Hp) (a : Addr) (xs : List V) : Prop := ∃ o, H a = some (.frz o (.lst xs))
/-- a dict that is never written -/
def FrzD (H : Hp) (a : Addr) (ws : List (Key × V)) : Prop := ∃ o, H a = some (.frz o (.dK ws))

/-- a tuple that stands in the heap -/
def TpT (H : Hp) (a : Addr) (vs : List V) : Prop := H a = some (.tup vs)

mutual
def Den (G : Cf) (et : List Addr) (H : Hp) : D → V → Prop
  | .non, v => v = .non
  | .bl b, v => v = .bl b
  | .int i, v => v = .int i
  | .str s, v => v = .str (strV s)
  | .tup l, v => ∃ a vs, v = .ref a ∧ TpT H a vs ∧ DenL G et H l vs
  | .ref n, v => ∃ a, et[n]? = some a ∧ v = .ref a
  | .exc a, v => v = .ref a
  | .fl l, v => ∃ a vs, v = .ref a ∧ FrzM H a vs ∧ DenL G et H l vs
  | .fd ks l, v => ∃ a ws, v = .ref a ∧ FrzD H a ws ∧ ws.map (·.1) = ks.map keyV ∧ DenL G et H l (ws.map (·.2))
def DenL (G : Cf) (et : List Addr) (H : Hp) : List D → List V → Prop
  | [], vs => vs = []
  | d :: ds, vs => ∃ v ws, vs = v :: ws ∧ Den G et H d v ∧ DenL G et H ds ws
end

mutual
def D.lo (n : Nat) : D → Bool
  | .tup l => D.loL n l
  | .fl l => D.loL n l
  | .fd _ l => D.loL n l
  | .ref m => decide (m < n)
  | _ => true
def D.loL (n : Nat) : List D → Bool
  | [] => true
  | d :: ds => D.lo n d && D.loL n ds
end

/-- what never changes stays -/
def Ext (H H' : Hp) : Prop := ∀ a o, H a = some o → ¬ Mut (some o) → H' a = some o
theorem Ext.refl (H : Hp) : Ext H H := fun _ _ h _ => h
theorem Ext.trans {H H1 H2 : Hp} (a : Ext H H1) (b : Ext H1 H2) : Ext H H2 := fun x o h m => b x o (a x o h m) m
theorem Ext.new {H : Hp} {p : Addr} {o : HO} (h : H p = none) : Ext H (upd H p o) := fun a u e _ => by
  rw [upd_ne (ne_of_none e h)]
  exact e
theorem Ext.mut {H : Hp} {p : Addr} {o u : HO} (h : H p = some u) (m : Mut (some u)) : Ext H (upd H p o) := fun a w e nm => by
  have : a ≠ p := fun z => by
    subst z
    rw [h] at e
    cases e
    exact nm m
  rw [upd_ne this]
  exact e
theorem Ext.sqT {K : PySem.W.Frag} {H H' : Hp} {a : Addr} {vs : List V} (e : Ext H H') (h : SqT K H a vs) : SqT K H' a vs := by
  rcases h with (h | ⟨o, h⟩) | h
  · exact .inl (.inl (e _ _ h (fun z => z)))
  · exact .inl (.inr ⟨o, e _ _ h (fun z => z)⟩)
  · exact .inr h

theorem TpT.ext {H H' : Hp} {a : Addr} {vs : List V} (e : Ext H H') (h : TpT H a vs) : TpT H' a vs := e _ _ h (fun z => z)
theorem TpT.sq {K : PySem.W.Frag} {H : Hp} {a : Addr} {vs : List V} (h : TpT H a vs) : SqT K H a vs := .inl (.inl h)
instance {K : PySem.W.Frag} {H : Hp} {a : Addr} {vs : List V} : Coe (TpT H a vs) (SqT K H a vs) := ⟨TpT.sq⟩
theorem FrzL.sq {K : PySem.W.Frag} {H : Hp} {a : Addr} {xs : List V} (h : FrzL K H a xs) : SqL K H a xs := by
  rcases h with ⟨o, h⟩ | h
  · exact .inl (.inr ⟨o, h⟩)
  · exact .inr h
theorem FrzL.ext {K : PySem.W.Frag} {H H' : Hp} {a : Addr} {xs : List V} (e : Ext H H') (h : FrzL K H a xs) : FrzL K H' a xs := by
  rcases h with ⟨o, h⟩ | h
  · exact .inl ⟨o, e _ _ h (fun z => z)⟩
  · exact .inr h

theorem FrzM.ext {H H' : Hp} {a : Addr} {ws : List V} (e : Ext H H') (h : FrzM H a ws) : FrzM H' a ws := by
  obtain ⟨o, h⟩ := h
  exact ⟨o, e _ _ h (fun z => z)⟩
theorem FrzM.rd {H : Hp} {a : Addr} {ws : List V} (h : FrzM H a ws) : Rd H a (.lst ws) := .inr h
theorem FrzM.sq {K : PySem.W.Frag} {H : Hp} {a : Addr} {ws : List V} (h : FrzM H a ws) : SqL K H a ws := .inl (.inr h)
theorem FrzM.frz {K : PySem.W.Frag} {H : Hp} {a : Addr} {ws : List V} (h : FrzM H a ws) : FrzL K H a ws := .inl h
theorem FrzD.ext {H H' : Hp} {a : Addr} {ws : List (Key × V)} (e : Ext H H') (h : FrzD H a ws) : FrzD H' a ws := by
  obtain ⟨o, h⟩ := h
  exact ⟨o, e _ _ h (fun z => z)⟩

mutual
theorem Den.mono {G : Cf} {et et' : List Addr} {H H' : Hp} (p : et <+: et') (e : Ext H H') : ∀ {d : D} {v : V}, Den G et H d v → Den G et' H' d v
  | .non, _, h => h
  | .bl _, _, h => h
  | .int _, _, h => h
  | .str _, _, h => h
  | .exc _, _, h => h
  | .tup l, _, h => by
    simp only [Den] at h ⊢
    obtain ⟨a, vs, e1, h1, h2⟩ := h
    exact ⟨a, vs, e1, h1.ext e, DenL.mono p e h2⟩
  | .fl l, _, h => by
    simp only [Den] at h ⊢
    obtain ⟨a, vs, e1, h1, h2⟩ := h
    exact ⟨a, vs, e1, h1.ext e, DenL.mono p e h2⟩
  | .fd ks l, _, h => by
    simp only [Den] at h ⊢
    obtain ⟨a, vs, e1, h1, h2, h3⟩ := h
    exact ⟨a, vs, e1, h1.ext e, h2, DenL.mono p e h3⟩
  | .ref n, _, h => by
    simp only [Den] at h ⊢
    obtain ⟨a, h1, h2⟩ := h
    obtain ⟨t, rfl⟩ := p
    refine ⟨a, ?_, h2⟩
    rw [List.getElem?_append_left]
    · exact h1
    · exact (List.getElem?_eq_some_iff.mp h1).1
theorem DenL.mono {G : Cf} {et et' : List Addr} {H H' : Hp} (p : et <+: et') (e : Ext H H') : ∀ {ds : List D} {vs : List V}, DenL G et H ds vs → DenL G et' H' ds vs
  | [], _, h => h
  | d :: ds, _, h => by
    simp only [DenL] at h ⊢
    obtain ⟨v, ws, e1, h1, h2⟩ := h
    exact ⟨v, ws, e1, Den.mono p e h1, DenL.mono p e h2⟩
end
mutual
theorem Den.back {G : Cf} {et et' : List Addr} {H : Hp} (p : et <+: et') : ∀ {d : D} {v : V}, D.lo et.length d = true → Den G et' H d v → Den G et H d v
  | .non, _, _, h => h
  | .bl _, _, _, h => h
  | .int _, _, _, h => h
  | .str _, _, _, h => h
  | .exc _, _, _, h => h
  | .tup l, _, b, h => by
    simp only [Den] at h ⊢
    obtain ⟨a, vs, e1, h1, h2⟩ := h
    exact ⟨a, vs, e1, h1, DenL.back p (by simpa [D.lo] using b) h2⟩
  | .fl l, _, b, h => by
    simp only [Den] at h ⊢
    obtain ⟨a, vs, e1, h1, h2⟩ := h
    exact ⟨a, vs, e1, h1, DenL.back p (by simpa [D.lo] using b) h2⟩
  | .fd ks l, _, b, h => by
    simp only [Den] at h ⊢
    obtain ⟨a, vs, e1, h1, h2, h3⟩ := h
    exact ⟨a, vs, e1, h1, h2, DenL.back p (by simpa [D.lo] using b) h3⟩
  | .ref n, _, b, h => by
    simp only [Den] at h ⊢
    obtain ⟨a, h1, h2⟩ := h
    obtain ⟨t, rfl⟩ := p
    have hn : n < et.length := by simpa [D.lo] using b
    refine ⟨a, ?_, h2⟩
    rw [List.getElem?_append_left hn] at h1
    exact h1
theorem DenL.back {G : Cf} {et et' : List Addr} {H : Hp} (p : et <+: et') : ∀ {ds : List D} {vs : List V}, D.loL et.length ds = true → DenL G et' H ds vs → DenL G et H ds vs
  | [], _, _, h => h
  | d :: ds, _, b, h => by
    simp only [DenL] at h ⊢
    obtain ⟨v, ws, e1, h1, h2⟩ := h
    simp only [D.loL, Bool.and_eq_true] at b
    exact ⟨v, ws, e1, Den.back p b.1 h1, DenL.back p b.2 h2⟩
end
mutual
/-- what is denoted refers only to cells that are there -/
theorem Den.lo {G : Cf} {et : List Addr} {H : Hp} : ∀ {d : D} {v : V}, Den G et H d v → D.lo et.length d = true
  | .non, _, _ => rfl
  | .bl _, _, _ => rfl
  | .int _, _, _ => rfl
  | .str _, _, _ => rfl
  | .exc _, _, _ => rfl
  | .tup l, _, h => by
    simp only [Den] at h
    obtain ⟨a, vs, e1, h1, h2⟩ := h
    simpa [D.lo] using DenL.lo h2
  | .fl l, _, h => by
    simp only [Den] at h
    obtain ⟨a, vs, e1, h1, h2⟩ := h
    simpa [D.lo] using DenL.lo h2
  | .fd ks l, _, h => by
    simp only [Den] at h
    obtain ⟨a, vs, e1, h1, h2, h3⟩ := h
    simpa [D.lo] using DenL.lo h3
  | .ref n, _, h => by
    simp only [Den] at h
    obtain ⟨a, h1, h2⟩ := h
    simpa [D.lo] using (List.getElem?_eq_some_iff.mp h1).1
theorem DenL.lo {G : Cf} {et : List Addr} {H : Hp} : ∀ {ds : List D} {vs : List V}, DenL G et H ds vs → D.loL et.length ds = true
  | [], _, _ => by simp [D.loL]
  | d :: ds, _, h => by
    simp only [DenL] at h
    obtain ⟨v, ws, e1, h1, h2⟩ := h
    simp [D.loL, Den.lo h1, DenL.lo h2]
end

/-- the pairs of a dict, of an instance -/
def DenK {κ κ' : Type} (f : κ → κ') (G : Cf) (et : List Addr) (H : Hp) (kvs : List (κ × D)) (ws : List (κ' × V)) : Prop :=
  ws.map (·.1) = kvs.map (fun p => f p.1) ∧ DenL G et H (kvs.map (·.2)) (ws.map (·.2))
theorem DenK.mono {κ κ' : Type} {f : κ → κ'} {G : Cf} {et et' : List Addr} {H H' : Hp} (p : et <+: et') (e : Ext H H') {kvs : List (κ × D)} {ws : List (κ' × V)} (h : DenK f G et H kvs ws) : DenK f G et' H' kvs ws := ⟨h.1, h.2.mono p e⟩

def CellOk (G : Cf) (et : List Addr) (H : Hp) (a : Addr) : Cell → Prop
  | .lst xs => ∃ vs, H a = some (.lst vs) ∧ DenL G et H xs vs
  | .frz xs => ∃ vs, FrzL G.K H a vs ∧ DenL G et H xs vs
  | .dk kvs => ∃ ws, H a = some (.dK ws) ∧ DenK keyV G et H kvs ws
  | .dt kvs => ∃ ws, H a = some (.dT ws) ∧ DenK (List.map keyV) G et H kvs ws
  | .ins c fs => ∃ dx ws, H a = some (.ins (G.C c) dx ws) ∧ DenK id G et H fs ws
def Cell.lo (n : Nat) : Cell → Bool
  | .lst xs => D.loL n xs
  | .frz xs => D.loL n xs
  | .dk kvs => D.loL n (kvs.map (·.2))
  | .dt kvs => D.loL n (kvs.map (·.2))
  | .ins _ fs => D.loL n (fs.map (·.2))
def Cell.isFrz : Cell → Bool
  | .frz _ => true
  | _ => false
structure HRel (G : Cf) (et : List Addr) (h : IH) (H : Hp) : Prop where
  len : et.length = h.length
  nd : ∀ (n m : Nat) (c c' : Cell) (a : Addr), h[n]? = some c → h[m]? = some c' → et[n]? = some a → et[m]? = some a → c.isFrz = false → c'.isFrz = false → n = m
  cell : ∀ (n : Nat) (c : Cell) (a : Addr), h[n]? = some c → et[n]? = some a → CellOk G et H a c

theorem CellOk.mono {G : Cf} {et et' : List Addr} {H H' : Hp} {a : Addr} (p : et <+: et') (e : Ext H H') (he : ∀ o, H a = some o → H' a = some o) {c : Cell} (h : CellOk G et H a c) : CellOk G et' H' a c := by
  cases c with
  | lst xs => obtain ⟨vs, h1, h2⟩ := h; exact ⟨vs, he _ h1, h2.mono p e⟩
  | frz xs => obtain ⟨vs, h1, h2⟩ := h; exact ⟨vs, h1.ext e, h2.mono p e⟩
  | dk kvs => obtain ⟨vs, h1, h2⟩ := h; exact ⟨vs, he _ h1, h2.mono p e⟩
  | dt kvs => obtain ⟨vs, h1, h2⟩ := h; exact ⟨vs, he _ h1, h2.mono p e⟩
  | ins c fs => obtain ⟨dx, vs, h1, h2⟩ := h; exact ⟨dx, vs, he _ h1, h2.mono p e⟩
theorem CellOk.back {G : Cf} {et et' : List Addr} {H : Hp} {a : Addr} (p : et <+: et') {c : Cell} (b : Cell.lo et.length c = true) (h : CellOk G et' H a c) : CellOk G et H a c := by
  cases c with
  | lst xs => obtain ⟨vs, h1, h2⟩ := h; exact ⟨vs, h1, h2.back p b⟩
  | frz xs => obtain ⟨vs, h1, h2⟩ := h; exact ⟨vs, h1, h2.back p b⟩
  | dk kvs => obtain ⟨vs, h1, h2⟩ := h; exact ⟨vs, h1, h2.1, h2.2.back p b⟩
  | dt kvs => obtain ⟨vs, h1, h2⟩ := h; exact ⟨vs, h1, h2.1, h2.2.back p b⟩
  | ins c fs => obtain ⟨dx, vs, h1, h2⟩ := h; exact ⟨dx, vs, h1, h2.1, h2.2.back p b⟩
theorem CellOk.lo {G : Cf} {et : List Addr} {H : Hp} {a : Addr} {c : Cell} (h : CellOk G et H a c) : Cell.lo et.length c = true := by
  cases c with
  | lst xs => obtain ⟨vs, h1, h2⟩ := h; exact h2.lo
  | frz xs => obtain ⟨vs, h1, h2⟩ := h; exact h2.lo
  | dk kvs => obtain ⟨vs, h1, h2⟩ := h; exact h2.2.lo
  | dt kvs => obtain ⟨vs, h1, h2⟩ := h; exact h2.2.lo
  | ins c fs => obtain ⟨dx, vs, h1, h2⟩ := h; exact h2.2.lo
/-- a cell stands in the heap, or is read only -/
theorem CellOk.some_or {G : Cf} {et : List Addr} {H : Hp} {a : Addr} {c : Cell} (h : CellOk G et H a c) : (∃ o, H a = some o) ∨ ∃ o, G.K.lookup a = some o := by
  cases c with
  | lst xs => obtain ⟨vs, h1, _⟩ := h; exact .inl ⟨_, h1⟩
  | frz xs =>
    obtain ⟨vs, ⟨o, h1⟩ | ⟨o, _, _, h1, _⟩, _⟩ := h
    · exact .inl ⟨_, h1⟩
    · exact .inr ⟨_, h1⟩
  | dk kvs => obtain ⟨vs, h1, _⟩ := h; exact .inl ⟨_, h1⟩
  | dt kvs => obtain ⟨vs, h1, _⟩ := h; exact .inl ⟨_, h1⟩
  | ins c fs => obtain ⟨dx, vs, h1, _⟩ := h; exact .inl ⟨_, h1⟩

section
variable {G : Cf} {et et' : List Addr} {H H' : Hp} {h h' : IH}
theorem HRel.addr (R : HRel G et h H) {n : Nat} {c : Cell} (e : h[n]? = some c) : ∃ a, et[n]? = some a := by
  have : n < h.length := (List.getElem?_eq_some_iff.mp e).1
  exact ⟨et[n]'(by rw [R.len]; exact this), List.getElem?_eq_getElem _⟩
theorem HRel.cellAt (R : HRel G et h H) {n : Nat} {a : Addr} (e : et[n]? = some a) : ∃ c, h[n]? = some c ∧ CellOk G et H a c := by
  have l : n < h.length := by rw [← R.len]; exact (List.getElem?_eq_some_iff.mp e).1
  exact ⟨h[n], List.getElem?_eq_getElem l, R.cell n _ a (List.getElem?_eq_getElem l) e⟩
theorem CellOk.there {a : Addr} {c : Cell} (f : c.isFrz = false) (x : CellOk G et H a c) : ∃ o, H a = some o := by
  cases c with
  | lst xs => obtain ⟨vs, h1, _⟩ := x; exact ⟨_, h1⟩
  | frz xs => cases f
  | dk kvs => obtain ⟨vs, h1, _⟩ := x; exact ⟨_, h1⟩
  | dt kvs => obtain ⟨vs, h1, _⟩ := x; exact ⟨_, h1⟩
  | ins c fs => obtain ⟨dx, vs, h1, _⟩ := x; exact ⟨_, h1⟩
/-- nothing of the cells is touched -/
theorem HRel.keep (R : HRel G et h H) (e : Ext H H') (k : ∀ (n : Nat) (a : Addr) (o : HO), et[n]? = some a → H a = some o → H' a = some o) : HRel G et h H' :=
  ⟨R.len, R.nd, fun n c a h1 h2 => (R.cell n c a h1 h2).mono List.prefix_rfl e (fun o => k n a o h2)⟩
/-- a new immutable object -/
theorem HRel.new (R : HRel G et h H) {p : Addr} {o : HO} (hp : H p = none) : HRel G et h (upd H p o) :=
  R.keep (Ext.new hp) fun n a u _ e => by rw [upd_ne (ne_of_none e hp)]; exact e
/-- a new cell -/
theorem HRel.push (R : HRel G et h H) {p : Addr} {o : HO} {c : Cell} (hp : H p = none) (hc : CellOk G (et ++ [p]) (upd H p o) p c) : HRel G (et ++ [p]) (h ++ [c]) (upd H p o) := by
  have pf : et <+: et ++ [p] := List.prefix_append _ _
  have old : ∀ {n : Nat} {c' : Cell}, (h ++ [c])[n]? = some c' → (n < h.length ∧ h[n]? = some c') ∨ (n = h.length ∧ c' = c) := fun {n c'} e => by
    by_cases hn : n < h.length
    · rw [List.getElem?_append_left hn] at e
      exact .inl ⟨hn, e⟩
    · rw [List.getElem?_append_right (by omega)] at e
      have : n - h.length = 0 := by
        have := (List.getElem?_eq_some_iff.mp e).1
        simp at this
        omega
      rw [this] at e
      simp at e
      exact .inr ⟨by omega, e.symm⟩
  have oldA : ∀ {n : Nat} {a : Addr}, n < h.length → (et ++ [p])[n]? = some a → et[n]? = some a := fun {n a} hn e => by
    rw [List.getElem?_append_left (by rw [R.len]; exact hn)] at e
    exact e
  have newA : ∀ {a : Addr}, (et ++ [p])[h.length]? = some a → a = p := fun {a} e => by
    rw [List.getElem?_append_right (by rw [R.len]; exact Nat.le_refl _), R.len, Nat.sub_self] at e
    simp at e
    exact e.symm
  refine ⟨by simp [R.len], fun n m c1 c2 a h1 h2 h3 h4 f1 f2 => ?_, fun n c1 a h1 h2 => ?_⟩
  · rcases old h1 with ⟨l1, g1⟩ | ⟨l1, rfl⟩
    · rcases old h2 with ⟨l2, g2⟩ | ⟨l2, rfl⟩
      · exact R.nd n m c1 c2 a g1 g2 (oldA l1 h3) (oldA l2 h4) f1 f2
      · rw [l2] at h4
        have ea := newA h4
        obtain ⟨o', ho⟩ := (R.cell n c1 a g1 (oldA l1 h3)).there f1
        rw [ea, hp] at ho
        cases ho
    · rcases old h2 with ⟨l2, g2⟩ | ⟨l2, rfl⟩
      · rw [l1] at h3
        have ea := newA h3
        obtain ⟨o', ho⟩ := (R.cell m c2 a g2 (oldA l2 h4)).there f2
        rw [ea, hp] at ho
        cases ho
      · rw [l1, l2]
  · rcases old h1 with ⟨l1, g1⟩ | ⟨l1, rfl⟩
    · refine (R.cell n c1 a g1 (oldA l1 h2)).mono pf (Ext.new hp) fun u e => ?_
      rw [upd_ne (ne_of_none e hp)]
      exact e
    · rw [l1] at h2
      rw [newA h2]
      exact hc
/-- a cell is written -/
theorem HRel.set (R : HRel G et h H) {n : Nat} {a : Addr} {o u : HO} {c c' : Cell} (hn : h[n]? = some c) (ha : et[n]? = some a) (f : c.isFrz = false) (ho : H a = some o) (mu : Mut (some o))
    (hc : CellOk G et (upd H a u) a c') : HRel G et (h.set n c') (upd H a u) := by
  have ex : Ext H (upd H a u) := Ext.mut ho mu
  have ln : n < h.length := (List.getElem?_eq_some_iff.mp hn).1
  refine ⟨by simp [R.len], fun i j c1 c2 b h1 h2 h3 h4 f1 f2 => ?_, fun i c1 b h1 h2 => ?_⟩
  · by_cases hi : i = n
    · by_cases hj : j = n
      · rw [hi, hj]
      · rw [List.getElem?_set_ne (Ne.symm hj)] at h2
        rw [hi] at h3
        rw [ha] at h3
        cases h3
        exact hi.trans (R.nd n j c c2 a hn h2 ha h4 f f2)
    · rw [List.getElem?_set_ne (Ne.symm hi)] at h1
      by_cases hj : j = n
      · rw [hj, ha] at h4
        cases h4
        exact (R.nd i n c1 c a h1 hn h3 ha f1 f).trans hj.symm
      · rw [List.getElem?_set_ne (Ne.symm hj)] at h2
        exact R.nd i j c1 c2 b h1 h2 h3 h4 f1 f2
  · by_cases hi : i = n
    · subst hi
      rw [ha] at h2
      cases h2
      rw [List.getElem?_set_self ln] at h1
      cases h1
      exact hc
    · rw [List.getElem?_set_ne (Ne.symm hi)] at h1
      have old := R.cell i c1 b h1 h2
      cases hf : c1.isFrz with
      | false =>
        have nb : b ≠ a := fun z => by
          subst z
          exact hi (R.nd i n c1 c b h1 hn h2 ha hf f)
        exact old.mono List.prefix_rfl ex fun w e => by rw [upd_ne nb]; exact e
      | true =>
        cases c1 with
        | frz xs =>
          obtain ⟨vs, h5, h6⟩ := old
          exact ⟨vs, h5.ext ex, h6.mono List.prefix_rfl ex⟩
        | _ => cases hf
end
end NR

set_option Elab.async false
set_option linter.all false
set_option maxRecDepth 100000
/-! What syntax does, as a function: the judgement, the rules. -/
namespace NR
open PySem PySem.Spec PyProof.Rows L2

abbrev XF := Option (List (Str × D))
/-- an outcome: a value, an exception, nothing is said -/
inductive R (A : Type) where
  | ok (a : A) (h : IH)
  | ex (c : Str) (d : XF) (h : IH)
  | no
def R.bind {A B : Type} (r : R A) (k : A → IH → R B) : R B :=
  match r with
  | .ok a h => k a h
  | .ex c d h => .ex c d h
  | .no => .no
inductive RS where
  | nx (e : EV) (h : IH) | rt (d : D) (h : IH) | bk (e : EV) (h : IH) | ct (e : EV) (h : IH)
  | ex (c : Str) (d : XF) (e : EV) (h : IH) | no
def R.bindS {A : Type} (r : R A) (env : EV) (k : A → IH → RS) : RS :=
  match r with
  | .ok a h => k a h
  | .ex c d h => .ex c d env h
  | .no => .no
abbrev ME := EV → IH → R D
abbrev MT := EV → IH → R Bool
abbrev MA := EV → IH → R (List D)
abbrev MS := EV → IH → RS
abbrev MF := List D → IH → R D

def ExOk (G : Cf) (et : List Addr) (H : Hp) (c : Str) (d : XF) (cls : Value) (dd : Option Addr) : Prop :=
  cls = .ref (G.C c) ∧ match d with
    | none => dd = none
    | some fs => ∃ a ws, dd = some a ∧ H a = some (.xd ws) ∧ DenK id G et H fs ws

def Pst {A : Type} (G : Cf) (et : List Addr) (H : Hp) (r : R A) (F : List Addr → Hp → IH → A → Prop) (W : Value → Option Addr → Hp → Prop) : Prop :=
  match r with
  | .ok a h' => ∀ et' H', et <+: et' → Ext H H' → HRel G et' h' H' → F et' H' h' a
  | .ex c d h' => ∀ et' H' cls dd, et <+: et' → Ext H H' → HRel G et' h' H' → ExOk G et' H' c d cls dd → W cls dd H'
  | .no => False
section
variable {G : Cf} {et et' : List Addr} {H H' : Hp} {h h' : IH} {A B : Type}
theorem Pst.of_bind {r : R A} {k : A → IH → R B} {F : List Addr → Hp → IH → B → Prop} {W : Value → Option Addr → Hp → Prop} (x : Pst G et H (r.bind k) F W) :
    Pst G et H r (fun et1 H1 h1 a => Pst G et1 H1 (k a h1) F W) W := by
  cases r with
  | ok a h1 =>
    intro et1 H1 p e hr
    show Pst G et1 H1 (k a h1) F W
    have y : Pst G et H (k a h1) F W := x
    cases hk : k a h1 with
    | ok b h2 => rw [hk] at y; exact fun et2 H2 p2 e2 hr2 => y et2 H2 (p.trans p2) (e.trans e2) hr2
    | ex c d h2 => rw [hk] at y; exact fun et2 H2 cls dd p2 e2 hr2 => y et2 H2 cls dd (p.trans p2) (e.trans e2) hr2
    | no => rw [hk] at y; exact y
  | ex c d h1 => exact x
  | no => exact x
theorem Pst.imp {r : R A} {F F' : List Addr → Hp → IH → A → Prop} {W : Value → Option Addr → Hp → Prop} (x : Pst G et H r F W)
    (k : ∀ et' H' h' a, et <+: et' → Ext H H' → HRel G et' h' H' → F et' H' h' a → F' et' H' h' a) : Pst G et H r F' W := by
  cases r with
  | ok a h1 => exact fun et1 H1 p e hr => k et1 H1 h1 a p e hr (x et1 H1 p e hr)
  | ex c d h1 => exact x
  | no => exact x
theorem Pst.weak {r : R A} {F : List Addr → Hp → IH → A → Prop} {W : Value → Option Addr → Hp → Prop} (p : et <+: et') (e : Ext H H') (x : Pst G et H r F W) : Pst G et' H' r F W := by
  cases r with
  | ok a h1 => exact fun et1 H1 p1 e1 hr => x et1 H1 (p.trans p1) (e.trans e1) hr
  | ex c d h1 => exact fun et1 H1 cls dd p1 e1 hr => x et1 H1 cls dd (p.trans p1) (e.trans e1) hr
  | no => exact x
end

/-- the slots hold the values -/
def EnvR (G : Cf) (et : List Addr) (H : Hp) (env : EV) (σ : L2.St) : Prop :=
  env.length = σ.length ∧ ∀ (i : Nat) (d : D), env[i]? = some (some d) → ∃ v, σ[i]? = some (some v) ∧ Den G et H d v
section
variable {G : Cf} {et et' : List Addr} {H H' : Hp} {h h' : IH} {A B : Type} {env : EV} {σ : L2.St}
theorem EnvR.mono (p : et <+: et') (e : Ext H H') (x : EnvR G et H env σ) : EnvR G et' H' env σ :=
  ⟨x.1, fun i d q => let ⟨v, a, b⟩ := x.2 i d q; ⟨v, a, b.mono p e⟩⟩
theorem EnvR.set (x : EnvR G et H env σ) (i : Nat) {d : D} {v : V} (r : Den G et H d v) : EnvR G et H (env.set i (some d)) (σ.set i (some v)) := by
  refine ⟨by simp [x.1], fun j d' q => ?_⟩
  by_cases hj : j = i
  · subst hj
    by_cases hl : j < env.length
    · rw [List.getElem?_set_self hl] at q
      cases q
      exact ⟨v, by rw [List.getElem?_set_self (by rw [← x.1]; exact hl)], r⟩
    · rw [List.set_eq_of_length_le (by omega)] at q
      have := (List.getElem?_eq_some_iff.mp q).1
      exact absurd this hl
  · rw [List.getElem?_set_ne (Ne.symm hj)] at q
    obtain ⟨w, a, b⟩ := x.2 j d' q
    exact ⟨w, by rw [List.getElem?_set_ne (Ne.symm hj)]; exact a, b⟩
end

def tE (G : Cf) (W : WX) (m : ME) : TE := fun σ H Q => ∃ et env h, EnvR G et H env σ ∧ HRel G et h H ∧
  Pst G et H (m env h) (fun et' H' _ d => ∀ v, Den G et' H' d v → Q v H') (fun c d H' => W c d σ H')
def tT (G : Cf) (W : WX) (m : MT) : TT := fun σ H Q => ∃ et env h, EnvR G et H env σ ∧ HRel G et h H ∧
  Pst G et H (m env h) (fun _ H' _ b => Q b H') (fun c d H' => W c d σ H')
def tA (G : Cf) (W : WX) (m : MA) : TA := fun σ H Q => ∃ et env h, EnvR G et H env σ ∧ HRel G et h H ∧
  Pst G et H (m env h) (fun et' H' _ ds => ∀ vs, DenL G et' H' ds vs → Q vs H') (fun c d H' => W c d σ H')
def PstS (G : Cf) (et : List Addr) (H : Hp) (r : RS) (D : Ends) (W : WX) : Prop :=
  match r with
  | .nx env' h' => ∀ et' H' σ', et <+: et' → Ext H H' → HRel G et' h' H' → EnvR G et' H' env' σ' → D.nx σ' H'
  | .bk env' h' => ∀ et' H' σ', et <+: et' → Ext H H' → HRel G et' h' H' → EnvR G et' H' env' σ' → D.bk σ' H'
  | .ct env' h' => ∀ et' H' σ', et <+: et' → Ext H H' → HRel G et' h' H' → EnvR G et' H' env' σ' → D.ct σ' H'
  | .rt d h' => ∀ et' H' v, et <+: et' → Ext H H' → HRel G et' h' H' → Den G et' H' d v → D.rt v H'
  | .ex c d env' h' => ∀ et' H' σ' cls dd, et <+: et' → Ext H H' → HRel G et' h' H' → EnvR G et' H' env' σ' → ExOk G et' H' c d cls dd → W cls dd σ' H'
  | .no => False
def tS (G : Cf) (W : WX) (m : MS) : TS := fun D σ H => ∃ et env h, EnvR G et H env σ ∧ HRel G et h H ∧ PstS G et H (m env h) D W

theorem PE.imp {X : Cx} {e : Expr} {t t' : TE} (h : PE X e t) (k : ∀ σ H Q, t' σ H Q → t σ H Q) : PE X e t' := ⟨fun pins s σ H Q I x => h.run pins s σ H Q I (k σ H Q x)⟩
theorem PT.imp {X : Cx} {e : Expr} {t t' : TT} (h : PT X e t) (k : ∀ σ H Q, t' σ H Q → t σ H Q) : PT X e t' := ⟨fun pins s σ H Q I x => h.run pins s σ H Q I (k σ H Q x)⟩
theorem PW.imp {X : Cx} {e : Expr} {t t' : TT} (h : PW X e t) (k : ∀ σ H Q, t' σ H Q → t σ H Q) : PW X e t' := ⟨fun wh pins s σ H Q I x => h.run wh pins s σ H Q I (k σ H Q x)⟩
theorem PA.imp {X : Cx} {e : List Expr} {t t' : TA} (h : PA X e t) (k : ∀ σ H Q, t' σ H Q → t σ H Q) : PA X e t' := ⟨fun pos pins s σ H Q I x => h.run pos pins s σ H Q I (k σ H Q x)⟩
theorem PS.imp {X : Cx} {e : Stmt} {t t' : TS} (h : PS X e t) (k : ∀ D σ H, t' D σ H → t D σ H) : PS X e t' := ⟨fun pins s σ H D I x => h.run pins s σ H D I (k D σ H x)⟩
theorem PSs.imp {X : Cx} {e : List Stmt} {t t' : TS} (h : PSs X e t) (k : ∀ D σ H, t' D σ H → t D σ H) : PSs X e t' := ⟨fun pins s σ H D I x => h.run pins s σ H D I (k D σ H x)⟩

section
variable {G : Cf} {W : WX} {σ : L2.St} {H : Hp} {A B : Type}
/-- two in a row -/
theorem tE.bind {m : ME} {k : EV → D → IH → R D} {Q : VK} (x : tE G W (fun env h => (m env h).bind (k env)) σ H Q) :
    tE G W m σ H fun v H1 => ∃ et1 env h1 d, EnvR G et1 H1 env σ ∧ HRel G et1 h1 H1 ∧ Den G et1 H1 d v ∧ Pst G et1 H1 (k env d h1) (fun et' H' _ d => ∀ v, Den G et' H' d v → Q v H') (fun c d H' => W c d σ H') := by
  obtain ⟨et, env, h, hE, hH, hP⟩ := x
  exact ⟨et, env, h, hE, hH, (Pst.of_bind hP).imp fun et1 H1 h1 a p e hr q v hv => ⟨et1, env, h1, a, hE.mono p e, hr, hv, q⟩⟩
end

/-! ### names, constants -/
def mVar (i : Nat) : ME := fun env h => match env[i]? with
  | some (some d) => .ok d h
  | _ => .no
def mC (d : D) : ME := fun _ h => .ok d h
section
variable {X : Cx} {G : Cf} {W : WX}
theorem me_var (i : Nat) {x : Str} {pos : Pos} (hN : X.N[i]? = some x := by rfl) (hv : Vis X.env.scope x := by first | exact Or.inl rfl | exact Or.inr (Or.inl rfl) | exact Or.inr (Or.inr rfl)) (hd : (x == ("__debug__" : Str)) = false := by decide)
    (hcd : (x == ("__classdict__" : Str)) = false := by decide) : PE X (.Name x pos) (tE G W (mVar i)) :=
  PE.imp (pe_var hN hv hd hcd) fun σ H Q ⟨et, env, h, hE, hH, hP⟩ => by
    unfold mVar at hP
    split at hP
    · rename_i d hd
      obtain ⟨v, e1, r⟩ := hE.2 i d hd
      exact ⟨v, e1, hP et H List.prefix_rfl (Ext.refl H) hH v r⟩
    · exact hP.elim
theorem tE.const {d : D} {v : V} {σ : L2.St} {H : Hp} {Q : VK} (x : tE G W (mC d) σ H Q) (r : ∀ et, Den G et H d v) : Q v H := by
  obtain ⟨et, env, h, hE, hH, hP⟩ := x
  exact hP et H List.prefix_rfl (Ext.refl H) hH v (r et)
theorem me_int {i j pos} : PE X (.Constant (.int i) j pos) (tE G W (mC (.int i))) := PE.imp pe_int fun _ _ _ x => x.const (v := .int i) fun et => by simp [Den]
theorem me_bl {b j pos} : PE X (.Constant (.bool b) j pos) (tE G W (mC (.bl b))) := PE.imp pe_bl fun _ _ _ x => x.const (v := .bl b) fun et => by simp [Den]
theorem me_non {j pos} : PE X (.Constant .none j pos) (tE G W (mC .non)) := PE.imp pe_non fun _ _ _ x => x.const (v := .non) fun et => by simp [Den]
theorem me_str {x : Str} {j pos} (s : List Nat) (e : strV s = x := by decide +kernel) : PE X (.Constant (.str x) j pos) (tE G W (mC (.str s))) := PE.imp pe_str fun _ _ _ y => y.const (v := .str x) fun et => by simp [Den, e]
/-- a module's constant that is a number or a text -/
def OfC : D → Value → Prop
  | .int i, u => ∃ t, u = .int i t
  | .str s, u => ∃ t, u = .str (strV s) t
  | _, _ => False
theorem me_glob {x : Str} {u : Value} {pos : Pos} (d : D) (r : OfC d u) (hm : X.mg x = some u) (hg : Gl X x := by rfl) (hd : (x == ("__debug__" : Str)) = false := by decide) : PE X (.Name x pos) (tE G W (mC d)) := by
  cases d with
  | int i => exact PE.imp (pe_glob (v := .int i) hg hm r hd) fun _ _ _ y => y.const (v := .int i) fun et => by simp [Den]
  | str s => exact PE.imp (pe_glob (v := .str (strV s)) hg hm r hd) fun _ _ _ y => y.const (v := .str (strV s)) fun et => by simp [Den]
  | _ => exact r.elim
end

/-! ### operators by values -/
/-- f on trees is what the rule r asks -/
def OpS (G : Cf) (r : R2) (f : D → D → IH → R D) : Prop := ∀ (et : List Addr) (H : Hp) (h : IH) (x y : D) (v w : V) (W : Value → Option Addr → Hp → Prop) (Q : VK), Den G et H x v → Den G et H y w → HRel G et h H →
  Pst G et H (f x y h) (fun et' H' _ d => ∀ v, Den G et' H' d v → Q v H') W → r v w H Q
def mOp (f : D → D → IH → R D) (a b : ME) : ME := fun env h => (a env h).bind fun x h1 => (b env h1).bind fun y h2 => f x y h2
section
variable {X : Cx} {G : Cf} {W : WX} {a b e : Expr} {ma mb mc : ME} {pos : Pos} {r : R2} {f : D → D → IH → R D}
theorem tOp_of {σ : L2.St} {H : Hp} {Q : VK} (hs : OpS G r f) (x : tE G W (mOp f ma mb) σ H Q) : tOp r (tE G W ma) (tE G W mb) σ H Q := by
  obtain ⟨et, env, h, hE, hH, hP⟩ := x
  refine ⟨et, env, h, hE, hH, (Pst.of_bind hP).imp fun et1 H1 h1 x p e hr q v hv => ?_⟩
  refine ⟨et1, env, h1, hE.mono p e, hr, (Pst.of_bind q).imp fun et2 H2 h2 y p2 e2 hr2 q2 w hw => ?_⟩
  exact hs et2 H2 h2 x y v w _ Q (hv.mono p2 e2) hw hr2 q2
theorem me_op {op : Operator} (ho : OpR X (binaryOp op) r) (hs : OpS G r f) (ha : PE X a (tE G W ma)) (hb : PE X b (tE G W mb)) : PE X (.BinOp a op b pos) (tE G W (mOp f ma mb)) :=
  PE.imp (pe_op ho ha hb) fun _ _ _ x => tOp_of hs x
theorem me_cmp {op : CmpOp} (ho : OpR X (compareOp op) r) (hs : OpS G r f) (ha : PE X a (tE G W ma)) (hb : PE X b (tE G W mb)) (hm : behindInMarks op b = false := by first | exact nomark _ | rfl) : PE X (.Compare a [op] [b] pos) (tE G W (mOp f ma mb)) :=
  PE.imp (pe_cmpR ho ha hb hm) fun _ _ _ x => tOp_of hs x
end
#check @nomark
#check @pe_cmpR
#check @pt_truth
#check @pt_cmpR
end NR

set_option Elab.async false
set_option linter.all false
set_option maxRecDepth 100000
/-! Operators. -/
namespace NR
open PySem PySem.Spec PyProof.Rows L2

theorem sz {n : Nat} (h : n ≤ 10000000) : n ≤ sizeLine := by rw [sizeLine_eq]; omega
section
variable {G : Cf} {et : List Addr} {H : Hp} {v : V}
@[simp] theorem den_non : Den G et H .non v ↔ v = .non := by simp [Den]
@[simp] theorem den_bl {b : Bool} : Den G et H (.bl b) v ↔ v = .bl b := by simp [Den]
@[simp] theorem den_int {i : Int} : Den G et H (.int i) v ↔ v = .int i := by simp [Den]
@[simp] theorem den_str {s : List Nat} : Den G et H (.str s) v ↔ v = .str (strV s) := by simp [Den]
@[simp] theorem den_tup {l : List D} : Den G et H (.tup l) v ↔ ∃ a vs, v = .ref a ∧ TpT H a vs ∧ DenL G et H l vs := by simp [Den]
@[simp] theorem den_ref {n : Nat} : Den G et H (.ref n) v ↔ ∃ a, et[n]? = some a ∧ v = .ref a := by simp [Den]
@[simp] theorem den_fl {l : List D} : Den G et H (.fl l) v ↔ ∃ a vs, v = .ref a ∧ FrzM H a vs ∧ DenL G et H l vs := by simp [Den]
@[simp] theorem den_fd {ks : List DKey} {l : List D} : Den G et H (.fd ks l) v ↔ ∃ a ws, v = .ref a ∧ FrzD H a ws ∧ ws.map (·.1) = ks.map keyV ∧ DenL G et H l (ws.map (·.2)) := by simp [Den]
@[simp] theorem denL_nil {vs : List V} : DenL G et H [] vs ↔ vs = [] := by simp [DenL]
@[simp] theorem denL_cons {d : D} {ds : List D} {vs : List V} : DenL G et H (d :: ds) vs ↔ ∃ v ws, vs = v :: ws ∧ Den G et H d v ∧ DenL G et H ds ws := by simp [DenL]
theorem DenL.len : ∀ {ds : List D} {vs : List V}, DenL G et H ds vs → vs.length = ds.length
  | [], _, h => by rw [denL_nil] at h; rw [h]; rfl
  | d :: ds, _, h => by
    obtain ⟨v, ws, rfl, _, h2⟩ := denL_cons.mp h
    simp [DenL.len h2]
theorem DenL.get : ∀ {ds : List D} {vs : List V} {i : Nat} {d : D}, DenL G et H ds vs → ds[i]? = some d → ∃ v, vs[i]? = some v ∧ Den G et H d v
  | [], _, _, _, _, e => by simp at e
  | d :: ds, _, i, d', h, e => by
    obtain ⟨v, ws, rfl, h1, h2⟩ := denL_cons.mp h
    cases i with
    | zero => simp at e; subst e; exact ⟨v, by simp, h1⟩
    | succ i => obtain ⟨u, a, b⟩ := DenL.get (i := i) h2 (by simpa using e); exact ⟨u, by simpa using a, b⟩
theorem DenL.get' : ∀ {ds : List D} {vs : List V} {i : Nat} {v : V}, DenL G et H ds vs → vs[i]? = some v → ∃ d, ds[i]? = some d ∧ Den G et H d v
  | [], _, _, _, h, e => by rw [denL_nil] at h; subst h; simp at e
  | d :: ds, _, i, v', h, e => by
    obtain ⟨v, ws, rfl, h1, h2⟩ := denL_cons.mp h
    cases i with
    | zero => simp at e; subst e; exact ⟨d, by simp, h1⟩
    | succ i => obtain ⟨u, a, b⟩ := DenL.get' (i := i) h2 (by simpa using e); exact ⟨u, by simpa using a, b⟩
theorem DenL.app : ∀ {ds es : List D} {vs ws : List V}, DenL G et H ds vs → DenL G et H es ws → DenL G et H (ds ++ es) (vs ++ ws)
  | [], _, _, _, h, k => by rw [denL_nil] at h; subst h; exact k
  | d :: ds, _, _, _, h, k => by
    obtain ⟨v, ws, rfl, h1, h2⟩ := denL_cons.mp h
    exact denL_cons.mpr ⟨v, _, rfl, h1, DenL.app h2 k⟩
theorem DenL.take : ∀ (n : Nat) {ds : List D} {vs : List V}, DenL G et H ds vs → DenL G et H (ds.take n) (vs.take n)
  | 0, _, _, _ => by simp
  | n + 1, [], _, h => by rw [denL_nil] at h; subst h; simp
  | n + 1, d :: ds, _, h => by
    obtain ⟨v, ws, rfl, h1, h2⟩ := denL_cons.mp h
    exact denL_cons.mpr ⟨v, _, rfl, h1, DenL.take n h2⟩
theorem DenL.drop : ∀ (n : Nat) {ds : List D} {vs : List V}, DenL G et H ds vs → DenL G et H (ds.drop n) (vs.drop n)
  | 0, _, _, h => by simpa using h
  | n + 1, [], _, h => by rw [denL_nil] at h; subst h; simp
  | n + 1, d :: ds, _, h => by
    obtain ⟨v, ws, rfl, h1, h2⟩ := denL_cons.mp h
    simpa using DenL.drop n h2
theorem DenL.set : ∀ {ds : List D} {vs : List V} (i : Nat) {d : D} {v : V}, DenL G et H ds vs → Den G et H d v → DenL G et H (ds.set i d) (vs.set i v)
  | [], _, _, _, _, h, _ => by rw [denL_nil] at h; subst h; simp
  | d :: ds, _, i, d', v', h, k => by
    obtain ⟨v, ws, rfl, h1, h2⟩ := denL_cons.mp h
    cases i with
    | zero => exact denL_cons.mpr ⟨_, _, rfl, k, h2⟩
    | succ i => exact denL_cons.mpr ⟨_, _, rfl, h1, DenL.set i h2 k⟩
theorem DenL.ints : ∀ {ns : List Int} {vs : List V}, DenL G et H (ns.map D.int) vs → vs = ns.map V.int
  | [], _, h => by simpa using h
  | n :: ns, _, h => by
    obtain ⟨v, ws, rfl, h1, h2⟩ := denL_cons.mp h
    rw [den_int.mp h1, DenL.ints h2]; rfl
theorem DenL.bls : ∀ {ns : List Bool} {vs : List V}, DenL G et H (ns.map D.bl) vs → vs = ns.map V.bl
  | [], _, h => by simpa using h
  | n :: ns, _, h => by
    obtain ⟨v, ws, rfl, h1, h2⟩ := denL_cons.mp h
    rw [den_bl.mp h1, DenL.bls h2]; rfl
theorem DenL.strs : ∀ {ns : List (List Nat)} {vs : List V}, DenL G et H (ns.map D.str) vs → vs = (ns.map strV).map V.str
  | [], _, h => by simpa using h
  | n :: ns, _, h => by
    obtain ⟨v, ws, rfl, h1, h2⟩ := denL_cons.mp h
    rw [den_str.mp h1, DenL.strs h2]; rfl
theorem DenL.ofInts : ∀ {ns : List Int}, DenL G et H (ns.map D.int) (ns.map V.int)
  | [] => by simp
  | n :: ns => denL_cons.mpr ⟨_, _, rfl, by simp, DenL.ofInts⟩
theorem DenL.ofStrs : ∀ {ns : List (List Nat)}, DenL G et H (ns.map D.str) ((ns.map strV).map V.str)
  | [] => by simp
  | n :: ns => denL_cons.mpr ⟨_, _, rfl, by simp, DenL.ofStrs⟩
end

/-- all of a list are of a kind -/
def allM {A : Type} (f : D → Option A) : List D → Option (List A)
  | [] => some []
  | d :: ds => match f d, allM f ds with
    | some a, some as => some (a :: as)
    | _, _ => none
def D.int? : D → Option Int
  | .int i => some i
  | _ => none
def D.bl? : D → Option Bool
  | .bl i => some i
  | _ => none
def D.str? : D → Option (List Nat)
  | .str i => some i
  | _ => none
theorem allM_ints : ∀ {ds : List D} {ns : List Int}, allM D.int? ds = some ns → ds = ns.map D.int
  | [], _, h => by simp [allM] at h; subst h; rfl
  | d :: ds, ns, h => by
    unfold allM at h
    cases e1 : D.int? d with
    | none => rw [e1] at h; simp at h
    | some a =>
      cases e2 : allM D.int? ds with
      | none => rw [e1, e2] at h; simp at h
      | some as =>
        rw [e1, e2] at h
        simp at h
        subst h
        rw [allM_ints e2]
        cases d <;> simp [D.int?] at e1
        subst e1
        rfl
theorem allM_bls : ∀ {ds : List D} {ns : List Bool}, allM D.bl? ds = some ns → ds = ns.map D.bl
  | [], _, h => by simp [allM] at h; subst h; rfl
  | d :: ds, ns, h => by
    unfold allM at h
    cases e1 : D.bl? d with
    | none => rw [e1] at h; simp at h
    | some a =>
      cases e2 : allM D.bl? ds with
      | none => rw [e1, e2] at h; simp at h
      | some as =>
        rw [e1, e2] at h
        simp at h
        subst h
        rw [allM_bls e2]
        cases d <;> simp [D.bl?] at e1
        subst e1
        rfl
theorem allM_strs : ∀ {ds : List D} {ns : List (List Nat)}, allM D.str? ds = some ns → ds = ns.map D.str
  | [], _, h => by simp [allM] at h; subst h; rfl
  | d :: ds, ns, h => by
    unfold allM at h
    cases e1 : D.str? d with
    | none => rw [e1] at h; simp at h
    | some a =>
      cases e2 : allM D.str? ds with
      | none => rw [e1, e2] at h; simp at h
      | some as =>
        rw [e1, e2] at h
        simp at h
        subst h
        rw [allM_strs e2]
        cases d <;> simp [D.str?] at e1
        subst e1
        rfl
@[simp] theorem allM_mkInts (ns : List Int) : allM D.int? (ns.map D.int) = some ns := by
  induction ns with
  | nil => rfl
  | cons n ns ih => simp [allM, D.int?, ih]
@[simp] theorem allM_mkBls (ns : List Bool) : allM D.bl? (ns.map D.bl) = some ns := by
  induction ns with
  | nil => rfl
  | cons n ns ih => simp [allM, D.bl?, ih]
@[simp] theorem allM_mkStrs (ns : List (List Nat)) : allM D.str? (ns.map D.str) = some ns := by
  induction ns with
  | nil => rfl
  | cons n ns ih => simp [allM, D.str?, ih]

/-! ### a list's or a tuple's items -/
def seqOf (h : IH) : D → Option (List D)
  | .tup l => some l
  | .fl l => some l
  | .ref n => match h[n]? with
    | some (.lst xs) => some xs
    | some (.frz xs) => some xs
    | _ => none
  | _ => none
def lstOf (h : IH) : D → Option (List D)
  | .fl l => some l
  | .ref n => match h[n]? with
    | some (.lst xs) => some xs
    | some (.frz xs) => some xs
    | _ => none
  | _ => none
section
variable {G : Cf} {et : List Addr} {H : Hp} {h : IH}
theorem lst_ok (R : HRel G et h H) {x : D} {xs : List D} {v : V} (e : lstOf h x = some xs) (r : Den G et H x v) : ∃ a vs, v = .ref a ∧ SqL G.K H a vs ∧ DenL G et H xs vs := by
  cases x with
  | fl l =>
    simp only [lstOf, Option.some.injEq] at e
    subst e
    obtain ⟨a, vs, h1, h2, h3⟩ := den_fl.mp r
    exact ⟨a, vs, h1, h2.sq, h3⟩
  | ref n =>
    obtain ⟨a, h1, rfl⟩ := den_ref.mp r
    simp only [lstOf] at e
    split at e
    · rename_i ys hy
      cases e
      obtain ⟨vs, h2, h3⟩ := R.cell n _ a hy h1
      exact ⟨a, vs, rfl, SqL.of h2, h3⟩
    · rename_i ys hy
      cases e
      obtain ⟨vs, h2, h3⟩ := R.cell n _ a hy h1
      exact ⟨a, vs, rfl, h2.sq, h3⟩
    · cases e
  | _ => simp [lstOf] at e
theorem seq_ok (R : HRel G et h H) {x : D} {xs : List D} {v : V} (e : seqOf h x = some xs) (r : Den G et H x v) : ∃ a vs, v = .ref a ∧ (SqL G.K H a vs ∨ SqT G.K H a vs) ∧ DenL G et H xs vs := by
  cases x with
  | tup l =>
    simp only [seqOf, Option.some.injEq] at e
    subst e
    obtain ⟨a, vs, h1, h2, h3⟩ := den_tup.mp r
    exact ⟨a, vs, h1, .inr h2, h3⟩
  | ref n =>
    obtain ⟨a, vs, h1, h2, h3⟩ := lst_ok R (x := .ref n) (by simpa only [lstOf, seqOf] using e) r
    exact ⟨a, vs, h1, .inl h2, h3⟩
  | fl l =>
    obtain ⟨a, vs, h1, h2, h3⟩ := lst_ok R (x := .fl l) (by simpa only [lstOf, seqOf] using e) r
    exact ⟨a, vs, h1, .inl h2, h3⟩
  | _ => simp [seqOf] at e
theorem Pst.here {A : Type} {a : A} {F : List Addr → Hp → IH → A → Prop} {W : Value → Option Addr → Hp → Prop} (R : HRel G et h H) (x : Pst G et H (.ok a h) F W) : F et H h a := x et H List.prefix_rfl (Ext.refl H) R
/-- a new tuple -/
theorem Pst.newT {l : List D} {vs : List V} {Q : VK} {W : Value → Option Addr → Hp → Prop} (R : HRel G et h H) (r : DenL G et H l vs) (x : Pst G et H (.ok (.tup l) h) (fun et' H' _ d => ∀ v, Den G et' H' d v → Q v H') W) :
    ∀ p, H p = none → Q (.ref p) (upd H p (.tup vs)) := fun p hp =>
  x et (upd H p (.tup vs)) List.prefix_rfl (Ext.new hp) (R.new hp) _ (den_tup.mpr ⟨p, vs, rfl, upd_same, r.mono List.prefix_rfl (Ext.new hp)⟩)
/-- a new list -/
theorem Pst.newL {l : List D} {vs : List V} {Q : VK} {W : Value → Option Addr → Hp → Prop} (R : HRel G et h H) (r : DenL G et H l vs) (x : Pst G et H (.ok (.ref h.length) (h ++ [.lst l])) (fun et' H' _ d => ∀ v, Den G et' H' d v → Q v H') W) :
    ∀ p, H p = none → Q (.ref p) (upd H p (.lst vs)) := fun p hp => by
  refine x (et ++ [p]) (upd H p (.lst vs)) (List.prefix_append _ _) (Ext.new hp) (R.push hp ⟨vs, upd_same, r.mono (List.prefix_append _ _) (Ext.new hp)⟩) _ (den_ref.mpr ⟨p, ?_, rfl⟩)
  rw [← R.len, List.getElem?_append_right (Nat.le_refl _), Nat.sub_self]
  rfl
end

/-- a list that stands in the heap -/
def lsOf (h : IH) : D → Option (List D)
  | .fl l => some l
  | .ref n => match h[n]? with
    | some (.lst xs) => some xs
    | _ => none
  | _ => none
theorem ls_ok {G : Cf} {et : List Addr} {H : Hp} {h : IH} (R : HRel G et h H) {x : D} {xs : List D} {v : V} (e : lsOf h x = some xs) (r : Den G et H x v) : ∃ a vs, v = .ref a ∧ Rd H a (.lst vs) ∧ DenL G et H xs vs := by
  cases x with
  | fl l =>
    simp only [lsOf, Option.some.injEq] at e
    subst e
    obtain ⟨a, vs, h1, h2, h3⟩ := den_fl.mp r
    exact ⟨a, vs, h1, h2.rd, h3⟩
  | ref n =>
    obtain ⟨a, h1, rfl⟩ := den_ref.mp r
    simp only [lsOf] at e
    split at e
    · rename_i ys hy
      cases e
      obtain ⟨vs, h2, h3⟩ := R.cell n _ a hy h1
      exact ⟨a, vs, rfl, .inl h2, h3⟩
    · cases e
  | _ => simp [lsOf] at e
/-! ### arithmetic -/
def dI (C : Int → Int → Bool) (g : Int → Int → Int) : D → D → IH → R D
  | .int i, .int j, h => if C i j then .ok (.int (g i j)) h else .no
  | _, _, _ => .no
theorem opS_I {G : Cf} {C : Int → Int → Bool} {C' : Int → Int → Prop} {g : Int → Int → Int} (hC : ∀ i j, C i j = true → C' i j) : OpS G (rI C' fun i j => .int (g i j)) (dI C g) := by
  intro et H h x y v w W Q rx ry R p
  unfold dI at p
  split at p
  · rename_i i j
    split at p
    · rename_i c
      exact ⟨i, j, den_int.mp rx, den_int.mp ry, hC i j c, p.here R _ (by simp)⟩
    · exact p.elim
  · exact p.elim
def dSub : D → D → IH → R D
  | .int i, .int j, h => .ok (.int (i - j)) h
  | _, _, _ => .no
def cMul (i j : Int) : Bool := (decide (-(2 ^ 64) < i) && decide (i < 2 ^ 64)) || (decide (-(2 ^ 64) < j) && decide (j < 2 ^ 64))
def cDiv (_ j : Int) : Bool := decide (0 < j) && decide (j < 2 ^ 64)
def cMod (_ j : Int) : Bool := decide (0 < j)
def cPow (i j : Int) : Bool := decide (0 ≤ j) && decide (j ≤ 1000000) && decide (i.natAbs < 2 ^ 64)
def dMul : D → D → IH → R D
  | .int i, .int j, h => if cMul i j then .ok (.int (i * j)) h else .no
  | .str a, .int k, h => if 0 ≤ k ∧ k ≤ 1000 ∧ a.length ≤ 10000 then .ok (.str (List.replicate k.toNat a).flatten) h else .no
  | .tup l, .int k, h => if 0 < l.length ∧ 2 ≤ k ∧ k ≤ 1000 ∧ l.length ≤ 1000 then .ok (.tup (List.replicate k.toNat l).flatten) h else if k = 1 then .ok (.tup l) h else .no
  | .ref n, .int k, h => match h[n]? with
    | some (.lst xs) => if k ≤ 10000000 ∧ -10000000 ≤ k ∧ xs.length * k.toNat ≤ 10000000 then .ok (.ref h.length) (h ++ [.lst (List.replicate k.toNat xs).flatten]) else .no
    | _ => .no
  | _, _, _ => .no
abbrev dDiv := dI cDiv fun i j => i / j
abbrev dMod := dI cMod fun i j => i % j
abbrev dPow := dI cPow fun i j => i ^ j.toNat
def dAdd : D → D → IH → R D
  | .int i, .int j, h => .ok (.int (i + j)) h
  | .str a, .str b, h => if a.length + b.length ≤ 10000000 then .ok (.str (a ++ b)) h else .no
  | .tup a, .tup b, h => if a.length + b.length ≤ 10000000 then .ok (.tup (a ++ b)) h else .no
  | x, y, h => match lsOf h x, lsOf h y with
    | some xs, some ys => if xs.length + ys.length ≤ 10000000 then .ok (.ref h.length) (h ++ [.lst (xs ++ ys)]) else .no
    | _, _ => .no
section
variable {X : Cx} {G : Cf} {W : WX} {a b e : Expr} {ma mb mc : ME} {pos : Pos}
theorem me_sub (ha : PE X a (tE G W ma)) (hb : PE X b (tE G W mb)) : PE X (.BinOp a .Sub b pos) (tE G W (mOp dSub ma mb)) := by
  refine me_op op_sub ?_ ha hb
  intro et H h x y v w W Q rx ry R p
  unfold dSub at p
  split at p
  · exact ⟨_, _, den_int.mp rx, den_int.mp ry, p.here R _ (by simp)⟩
  · exact p.elim
theorem me_mod (ha : PE X a (tE G W ma)) (hb : PE X b (tE G W mb)) : PE X (.BinOp a .Mod b pos) (tE G W (mOp dMod ma mb)) :=
  me_op op_mod (opS_I fun i j c => by simpa [cMod] using c) ha hb
theorem me_div (ha : PE X a (tE G W ma)) (hb : PE X b (tE G W mb)) : PE X (.BinOp a .FloorDiv b pos) (tE G W (mOp dDiv ma mb)) :=
  me_op op_fdivW (opS_I fun i j c => by
    have c' : 0 < j ∧ j < 2 ^ 64 := by simpa [cDiv] using c
    exact wide_div c'.1 (b := 64) (by omega) (by decide) (by decide)) ha hb
theorem me_pow (ha : PE X a (tE G W ma)) (hb : PE X b (tE G W mb)) : PE X (.BinOp a .Pow b pos) (tE G W (mOp dPow ma mb)) :=
  me_op op_pow (opS_I fun i j c => by
    have c' : (0 ≤ j ∧ j ≤ 1000000) ∧ i.natAbs < 2 ^ 64 := by simpa [cPow] using c
    exact ⟨c'.1.1, c'.1.2, c'.2⟩) ha hb
theorem den_list {et : List Addr} {H : Hp} {h : IH} (R : HRel G et h H) {n : Nat} {xs : List D} {v : V} (e : h[n]? = some (.lst xs)) (r : Den G et H (.ref n) v) : ∃ a vs, et[n]? = some a ∧ v = .ref a ∧ H a = some (.lst vs) ∧ DenL G et H xs vs := by
  obtain ⟨a, h1, rfl⟩ := den_ref.mp r
  obtain ⟨vs, h2, h3⟩ := R.cell n _ a e h1
  exact ⟨a, vs, h1, rfl, h2, h3⟩
theorem DenL.flat {et : List Addr} {H : Hp} {xs : List D} {vs : List V} (r : DenL G et H xs vs) : ∀ k : Nat, DenL G et H (List.replicate k xs).flatten (List.replicate k vs).flatten
  | 0 => by simp
  | k + 1 => by
    rw [List.replicate_succ, List.replicate_succ, List.flatten_cons, List.flatten_cons]
    exact r.app (r.flat k)
end

section
variable {X : Cx}
theorem Inv.lstR {pins : List (Addr × Obj)} {σ : L2.St} {H : Hp} {s : Shared} {a : Addr} {xs : List V} (I : Inv X pins σ H s) (r : Rd H a (.lst xs)) : xs.length ≤ sizeLine ∧ ∃ (its : List Value) (n : Nat), Vals xs its ∧ s.heap.get? a = some { cls := .type "list", data := .seq its.toArray n } := by
  rcases r with r | ⟨o, r⟩
  · exact I.hok a _ r
  · exact (I.hok a _ r).2
def rCatR : R2 := fun x y H Q => ∃ l b xs zs, x = .ref l ∧ y = .ref b ∧ Rd H l (.lst xs) ∧ Rd H b (.lst zs) ∧ xs.length + zs.length ≤ sizeLine ∧ ∀ p, H p = none → Q (.ref p) (upd H p (.lst (xs ++ zs)))
theorem op_catR : OpR X (binaryOp .Add) rCatR := by
  intro pins s σ H x y v u Q I rx ry h
  obtain ⟨l, b, xs, zs, rfl, rfl, hH, hB, hz, q⟩ := h
  cases rx
  cases ry
  obtain ⟨z, its, n, r, e⟩ := Inv.lstR I hH
  obtain ⟨z2, its2, n2, r2, e2⟩ := Inv.lstR I hB
  refine PySem.P.add_list e e2 ?_ (by rw [List.size_toArray, List.size_toArray, ← r.length, ← r2.length]; omega)
  have ea : its.toArray ++ its2.toArray = (its ++ its2).toArray := by simp
  rw [ea]
  exact ⟨.ref _, _, I.lnew (t' := s.toks) (r.append r2) (by rw [List.length_append]; omega), rfl, q _ I.fresh⟩
end
section
variable {X : Cx} {G : Cf} {W : WX} {a b e : Expr} {ma mb mc : ME} {pos : Pos}
theorem foldl_arr (a : List Nat) : ∀ (n : Nat) (z : Array Nat), (List.replicate n a.toArray).foldl (· ++ ·) z = z ++ (List.replicate n a).flatten.toArray
  | 0, z => by simp
  | n + 1, z => by
    rw [List.replicate_succ, List.foldl_cons, foldl_arr a n, List.replicate_succ, List.flatten_cons, Array.append_assoc]
    simp
def rRepS : R2 := fun x y H Q => ∃ a k, x = .str (strV a) ∧ y = .int k ∧ 0 ≤ k ∧ k ≤ 1000 ∧ a.length ≤ 10000 ∧ Q (.str (strV (List.replicate k.toNat a).flatten)) H
theorem op_repS : OpR X (binaryOp .Mult) rRepS := by
  intro pins s σ H x y v u Q I rx ry h
  obtain ⟨w, k, rfl, rfl, h0, h1, hl, q⟩ := h
  obtain ⟨t, rfl⟩ := rx
  obtain ⟨t', rfl⟩ := ry
  have ln : (strV w).length = w.length := by show w.toArray.size = _; simp
  have mm : w.length * k.toNat ≤ 10000 * 1000 := Nat.mul_le_mul hl (by omega)
  have nl : PySem.Builtin.Str.tooLong ((strV w).length * k.toNat) = false := by
    rw [ln]; unfold PySem.Builtin.Str.tooLong; rw [sizeLine_eq]; simp; omega
  refine PySem.P.mul_str (by
    have a1 : ¬ k < -(2 ^ 63 : Int) := by omega
    have a2 : ¬ k ≥ 2 ^ 63 := by omega
    rw [decide_eq_false a1, decide_eq_false a2]; rfl) (fun hk _ => ?_) (fun _ _ => nl) ?_
  · rw [ln]
    have hk' : 0 < k := by omega
    have := (Int.le_ediv_iff_mul_le (a := (w.length : Int)) (b := 2 ^ 63 - 1) hk').mpr (by
      have e : (w.length : Int) * k = ((w.length * k.toNat : Nat) : Int) := by rw [Int.natCast_mul, Int.toNat_of_nonneg h0]
      rw [e]; omega)
    omega
  · by_cases c1 : k < 1
    · rw [if_pos c1]
      have : k = 0 := by omega
      subst this
      exact ⟨by decide, ⟨.str _, H, I.tok _, ⟨_, rfl⟩, q⟩⟩
    · rw [if_neg c1]
      by_cases c2 : (k == 1 || (strV w).length == 0) = true
      · rw [if_pos c2]
        have e : (List.replicate k.toNat w).flatten = w := by
          rw [Bool.or_eq_true, beq_iff_eq, beq_iff_eq, ln] at c2
          rcases c2 with c2 | c2
          · subst c2; simp
          · have := List.eq_nil_of_length_eq_zero c2
            subst this; simp
        rw [e] at q
        exact ⟨.str _, H, I.tok _, ⟨_, rfl⟩, q⟩
      · rw [if_neg c2]
        have e : (⟨(List.replicate k.toNat (strV w).cps).foldl (· ++ ·) #[]⟩ : Str) = strV (List.replicate k.toNat w).flatten := by
          show (⟨(List.replicate k.toNat w.toArray).foldl (· ++ ·) #[]⟩ : Str) = ⟨_⟩
          rw [foldl_arr]; simp
        rw [e]
        exact ⟨by
          show (List.replicate k.toNat w).flatten.toArray.size ≤ _
          rw [sizeLine_eq]; simp [List.length_flatten]; rw [Nat.mul_comm]; omega, ⟨.str _, H, I.tok _, ⟨_, rfl⟩, q⟩⟩
theorem tuple_mul1 (l : Addr) (items : Array Value) (n : Nat) (dd : Option Addr) (sl : Array (Option Value)) (u : Tok) :
    Meets (Builtin.«tuple.__mul__» ⟨[.ref l, .int 1 u], []⟩) (fun _ R s => s.heap.get? l = some { cls := .type "tuple", dict := dd, data := .seq items n, slots := sl } ∧ R (.ok (.ret (Value.ref l))) s) :=
  .of_wp fun prog w A R s h => by
    obtain ⟨hp, g, d, tk, os⟩ := s
    obtain ⟨hl, h⟩ := h
    have f1 := AutoSeq1.idx_int
    wp_walk using wpAny_loadPart' hl
    exact ⟨_, rfl, h⟩
def rRepT1 (K : PySem.W.Frag) : R2 := fun x y H Q => ∃ l xs, x = .ref l ∧ y = .int 1 ∧ SqT K H l xs ∧ Q (.ref l) H
theorem op_repT1 : OpR X (binaryOp .Mult) (rRepT1 X.K) := by
  intro pins s σ H x y v u Q I rx ry h
  obtain ⟨l, xs, rfl, rfl, hT, q⟩ := h
  cases rx
  obtain ⟨t, rfl⟩ := ry
  obtain ⟨its, r, ⟨⟨cls, dd, data, sl⟩, ho, hc, n, hd⟩, hs⟩ := I.tuple hT
  simp only at hc hd
  subst hc hd
  refine wpAny_binaryOp_repeat_ref (T := "tuple") (U := "int") (by decide) ⟨_, ho, rfl⟩ (fun s' => typeIs_int s' 1 t) noFill_tuple_mul F.fills_int_mul F.slot_int_rmul repeat_tuple F.slot_int_index.lookup
    (call_meets F.slot_int_rmul (typeIs_int s 1 t) F.entry_int_rmul (F.args_int_rmul_2 _ _) (int_rmul_tuple 1 t l its.toArray n dd sl)
      ⟨ho, rfl, ⟨_, ho, rfl⟩, call_meets F.slot_tuple_mul ⟨_, ho, rfl⟩ F.entry_tuple_mul (F.args_tuple_mul_2 _ _) (tuple_mul1 l its.toArray n dd sl t) ⟨ho, ?_⟩⟩)
  exact ⟨.ref l, H, I, rfl, q⟩
def rMulAll (K : PySem.W.Frag) : R2 := fun x y H Q => rI CMul (fun i j => .int (i * j)) x y H Q ∨ rRep x y H Q ∨ rRepT K x y H Q ∨ rRepS x y H Q ∨ rRepT1 K x y H Q
theorem op_mulAll : OpR X (binaryOp .Mult) (rMulAll X.K) := OpR.or op_mul (OpR.or op_rep (OpR.or op_repT (OpR.or op_repS op_repT1)))
theorem me_mul (hK : X.K = G.K) (ha : PE X a (tE G W ma)) (hb : PE X b (tE G W mb)) : PE X (.BinOp a .Mult b pos) (tE G W (mOp dMul ma mb)) := by
  refine me_op op_mulAll ?_ ha hb
  intro et H h x y v w W Q rx ry R p
  rw [hK]
  unfold dMul at p
  split at p
  · split at p
    · rename_i i j c
      refine .inl ⟨i, j, den_int.mp rx, den_int.mp ry, ?_, p.here R _ (by simp)⟩
      simpa [cMul, CMul] using c
    · exact p.elim
  · split at p
    · rename_i a k c
      exact .inr (.inr (.inr (.inl ⟨a, k, den_str.mp rx, den_int.mp ry, c.1, c.2.1, c.2.2, p.here R _ (by simp)⟩)))
    · exact p.elim
  · split at p
    · rename_i l k c
      obtain ⟨a, vs, rfl, h2, h3⟩ := den_tup.mp rx
      refine .inr (.inr (.inl ⟨a, k, vs, rfl, den_int.mp ry, h2, ?_, c.2.1, c.2.2.1, by rw [h3.len]; exact c.2.2.2, p.newT R (h3.flat _)⟩))
      rintro rfl
      have := h3.len
      simp at this
      omega
    · split at p
      · rename_i e1
        subst e1
        obtain ⟨a, vs, rfl, h2, h3⟩ := den_tup.mp rx
        exact .inr (.inr (.inr (.inr ⟨a, vs, rfl, den_int.mp ry, h2, p.here R _ rx⟩)))
      · exact p.elim
  · split at p
    · split at p
      · rename_i n k hh xs hx c
        obtain ⟨a, vs, h1, rfl, h2, h3⟩ := den_list R hx rx
        refine .inr (.inl ⟨a, k, vs, rfl, den_int.mp ry, h2, by omega, by omega, sz (by rw [h3.len]; exact c.2.2), ?_⟩)
        exact p.newL R (h3.flat _)
      · exact p.elim
    · exact p.elim
  · exact p.elim
def rAddAll (K : PySem.W.Frag) : R2 := fun x y H Q => rI0 (fun i j => .int (i + j)) x y H Q ∨ (∃ i j, x = .str i ∧ y = .str j ∧ i.length + j.length ≤ sizeLine ∧ Q (.str (i ++ j)) H) ∨ rCatA K x y H Q ∨ rCatR x y H Q
theorem op_addAll : OpR X (binaryOp .Add) (rAddAll X.K) := OpR.or op_add (OpR.or op_add_str (OpR.or op_catA op_catR))
theorem strV_app (a b : List Nat) : strV a ++ strV b = strV (a ++ b) := by
  show (⟨a.toArray ++ b.toArray⟩ : Str) = ⟨(a ++ b).toArray⟩
  simp
theorem dAdd_ok (hK : X.K = G.K) : OpS G (rAddAll X.K) dAdd := by
  intro et H h x y v w W Q rx ry R p
  rw [hK]
  unfold dAdd at p
  split at p
  · exact .inl ⟨_, _, den_int.mp rx, den_int.mp ry, p.here R _ (by simp)⟩
  · split at p
    · rename_i c
      refine .inr (.inl ⟨_, _, den_str.mp rx, den_str.mp ry, ?_, ?_⟩)
      · rw [strV_length, strV_length]; exact sz c
      · exact p.here R _ (by simp [strV_app])
    · exact p.elim
  · split at p
    · rename_i l m c
      obtain ⟨a, vs, rfl, h2, h3⟩ := den_tup.mp rx
      obtain ⟨b, ws, rfl, k2, k3⟩ := den_tup.mp ry
      refine .inr (.inr (.inl ⟨a, b, vs, ws, rfl, rfl, h2, k2, sz (by rw [h3.len, k3.len]; exact c), fun e => ?_, fun e1 e => ?_, fun _ _ => p.newT R (h3.app k3)⟩))
      · have hl : l = [] := by
          have := h3.len
          rw [e] at this
          exact List.eq_nil_of_length_eq_zero this.symm
        subst hl
        exact p.here R _ (den_tup.mpr ⟨b, ws, rfl, k2, k3⟩)
      · have hl : m = [] := by
          have := k3.len
          rw [e] at this
          exact List.eq_nil_of_length_eq_zero this.symm
        subst hl
        exact p.here R _ (den_tup.mpr ⟨a, vs, rfl, h2, by simpa using h3⟩)
    · exact p.elim
  · split at p
    · split at p
      · rename_i xs ys hx hy c
        obtain ⟨a, vs, rfl, h2, h3⟩ := ls_ok R hx rx
        obtain ⟨b, ws, rfl, k2, k3⟩ := ls_ok R hy ry
        exact .inr (.inr (.inr ⟨a, b, vs, ws, rfl, rfl, h2, k2, sz (by rw [h3.len, k3.len]; exact c), p.newL R (h3.app k3)⟩))
      · exact p.elim
    · exact p.elim
theorem me_add (hK : X.K = G.K) (ha : PE X a (tE G W ma)) (hb : PE X b (tE G W mb)) : PE X (.BinOp a .Add b pos) (tE G W (mOp dAdd ma mb)) := me_op op_addAll (dAdd_ok hK) ha hb
/-- order of ints -/
def dC (g : Int → Int → Bool) : D → D → IH → R D
  | .int i, .int j, h => .ok (.bl (g i j)) h
  | _, _, _ => .no
theorem opS_C {g : Int → Int → Bool} : OpS G (rI0 fun i j => .bl (g i j)) (dC g) := by
  intro et H h x y v w W Q rx ry R p
  unfold dC at p
  split at p
  · exact ⟨_, _, den_int.mp rx, den_int.mp ry, p.here R _ (by simp)⟩
  · exact p.elim
abbrev dLt := dC fun i j => decide (i < j)
abbrev dLe := dC fun i j => decide (i ≤ j)
abbrev dGt := dC fun i j => decide (j < i)
abbrev dGe := dC fun i j => decide (j ≤ i)
/-! ### as data -/
def D.py (h : IH) : Nat → D → Option PyData
  | 0, _ => none
  | k + 1, d => match d with
    | .non => some .none
    | .bl b => some (.bool b)
    | .int i => some (.int i)
    | .str s => some (.str (strV s))
    | .tup l => (allM (D.py h k) l).map .tuple
    | .fl l => (allM (D.py h k) l).map .list
    | .ref n => match h[n]? with
      | some (.lst xs) => (allM (D.py h k) xs).map .list
      | some (.frz xs) => (allM (D.py h k) xs).map .list
      | _ => none
    | _ => none
end
theorem allM_cons {A : Type} {f : D → Option A} {d : D} {ds : List D} {r : List A} (e : allM f (d :: ds) = some r) : ∃ a as, f d = some a ∧ allM f ds = some as ∧ r = a :: as := by
  unfold allM at e
  split at e
  · rename_i a as h1 h2
    cases e
    exact ⟨a, as, h1, h2, rfl⟩
  · cases e
section
variable {G : Cf} {et : List Addr} {H : Hp} {h : IH}
theorem depthAll_le {n : Nat} : ∀ {ps : List PyData}, (∀ p ∈ ps, p.depth ≤ n) → PyData.depthAll ps ≤ n
  | [], _ => by simp [PyData.depthAll]
  | p :: ps, hp => by
    have h1 := hp p (List.mem_cons_self)
    have h2 := depthAll_le (ps := ps) fun q hq => hp q (List.mem_cons_of_mem _ hq)
    simp only [PyData.depthAll]
    omega
theorem py_all (R : HRel G et h H) {k : Nat} (ih : ∀ (d : D) (v : V) (p : PyData), D.py h k d = some p → Den G et H d v → Dp G.K H v p ∧ p.plain = true ∧ p.depth ≤ k) :
    ∀ (ds : List D) (vs : List V) (ps : List PyData), allM (D.py h k) ds = some ps → DenL G et H ds vs → DpAll G.K H vs ps ∧ PyData.plainAll ps = true ∧ ∀ p ∈ ps, p.depth ≤ k
  | [], vs, ps, e, r => by
    simp only [allM, Option.some.injEq] at e
    rw [denL_nil] at r
    subst e r
    exact ⟨.nil, by simp [PyData.plainAll], by simp⟩
  | d :: ds, vs, ps, e, r => by
    obtain ⟨p, ps', e1, e2, rfl⟩ := allM_cons e
    obtain ⟨v, ws, rfl, r1, r2⟩ := denL_cons.mp r
    obtain ⟨a1, a2, a3⟩ := ih d v p e1 r1
    obtain ⟨b1, b2, b3⟩ := py_all R ih ds ws ps' e2 r2
    exact ⟨.cons a1 b1, by simp [PyData.plainAll, a2, b2], by simpa using ⟨a3, b3⟩⟩
theorem py_ok (R : HRel G et h H) : ∀ (k : Nat) (d : D) (v : V) (p : PyData), D.py h k d = some p → Den G et H d v → Dp G.K H v p ∧ p.plain = true ∧ p.depth ≤ k
  | 0, _, _, _, e, _ => by simp [D.py] at e
  | k + 1, d, v, p, e, r => by
    have ih := py_all R (py_ok R k)
    cases d with
    | non => simp only [D.py, Option.some.injEq] at e; subst e; rw [den_non.mp r]; exact ⟨.non, by simp [PyData.plain], by simp [PyData.depth]⟩
    | bl b => simp only [D.py, Option.some.injEq] at e; subst e; rw [den_bl.mp r]; exact ⟨.bl b, by simp [PyData.plain], by simp [PyData.depth]⟩
    | int i => simp only [D.py, Option.some.injEq] at e; subst e; rw [den_int.mp r]; exact ⟨.int i, by simp [PyData.plain], by simp [PyData.depth]⟩
    | str s => simp only [D.py, Option.some.injEq] at e; subst e; rw [den_str.mp r]; exact ⟨.str _, by simp [PyData.plain], by simp [PyData.depth]⟩
    | tup l =>
      simp only [D.py, Option.map_eq_some_iff] at e
      obtain ⟨ps, e1, rfl⟩ := e
      obtain ⟨a, vs, rfl, r1, r2⟩ := den_tup.mp r
      obtain ⟨b1, b2, b3⟩ := ih l vs ps e1 r2
      exact ⟨.tup r1 b1, by simp [PyData.plain, b2], by simp only [PyData.depth]; have := depthAll_le b3; omega⟩
    | ref n =>
      obtain ⟨a, r1, rfl⟩ := den_ref.mp r
      simp only [D.py] at e
      split at e
      · rename_i xs hx
        simp only [Option.map_eq_some_iff] at e
        obtain ⟨ps, e1, rfl⟩ := e
        obtain ⟨vs, c1, c2⟩ := R.cell n _ a hx r1
        obtain ⟨b1, b2, b3⟩ := ih xs vs ps e1 c2
        exact ⟨.lst (SqL.of c1) b1, by simp [PyData.plain, b2], by simp only [PyData.depth]; have := depthAll_le b3; omega⟩
      · rename_i xs hx
        simp only [Option.map_eq_some_iff] at e
        obtain ⟨ps, e1, rfl⟩ := e
        obtain ⟨vs, c1, c2⟩ := R.cell n _ a hx r1
        obtain ⟨b1, b2, b3⟩ := ih xs vs ps e1 c2
        exact ⟨.lst c1.sq b1, by simp [PyData.plain, b2], by simp only [PyData.depth]; have := depthAll_le b3; omega⟩
      · cases e
    | fl l =>
      simp only [D.py, Option.map_eq_some_iff] at e
      obtain ⟨ps, e1, rfl⟩ := e
      obtain ⟨a, vs, rfl, r1, r2⟩ := den_fl.mp r
      obtain ⟨b1, b2, b3⟩ := ih l vs ps e1 r2
      exact ⟨.lst r1.sq b1, by simp [PyData.plain, b2], by simp only [PyData.depth]; have := depthAll_le b3; omega⟩
    | fd ks l => simp [D.py] at e
    | exc a => simp [D.py] at e
end
def rEqP (K : PySem.W.Frag) : R2 := fun x y H Q => ∃ d e, Dp K H x d ∧ Dp K H y e ∧ d.plain = true ∧ e.plain = true ∧ d.depth ≤ 50 ∧ Q (.bl (PyData.eqv d e)) H
def rNeP (K : PySem.W.Frag) : R2 := fun x y H Q => ∃ d e, Dp K H x d ∧ Dp K H y e ∧ d.plain = true ∧ e.plain = true ∧ d.depth ≤ 50 ∧ Q (.bl (!PyData.eqv d e)) H
section
variable {X : Cx}
theorem op_eqP (hu : X.A.units + 64 < cLine) : OpR X (compareOp .Eq) (rEqP X.K) := by
  intro pins s σ H x y v u Q I rx ry h
  obtain ⟨d, e, hd, he, pd, pe, dd, q⟩ := h
  obtain ⟨as, r1⟩ := Dp.reads I d x v hd rx
  obtain ⟨bs, r2⟩ := Dp.reads I e y u he ry
  exact SeqAt.eq_plain r1 r2 pd pe (by omega) ⟨.bl _, H, I, rfl, q⟩
theorem op_neP (hu : X.A.units + 64 < cLine) : OpR X (compareOp .NotEq) (rNeP X.K) := by
  intro pins s σ H x y v u Q I rx ry h
  obtain ⟨d, e, hd, he, pd, pe, dd, q⟩ := h
  obtain ⟨as, r1⟩ := Dp.reads I d x v hd rx
  obtain ⟨bs, r2⟩ := Dp.reads I e y u he ry
  exact SeqAt.ne_plain r1 r2 pd pe (by omega) ⟨.bl _, H, I, rfl, q⟩
def rInP (K : PySem.W.Frag) (neg : Bool) : R2 := fun x y H Q => ∃ d es, Dp K H x d ∧ (Dp K H y (.list es) ∨ Dp K H y (.tuple es)) ∧ d.plain = true ∧ PyData.plainAll es = true ∧ d.depth ≤ 50 ∧
  Q (.bl (if neg then !(es.any fun z => PyData.eqv z d) else es.any fun z => PyData.eqv z d)) H
theorem op_inP (hu : X.A.units + 64 < cLine) : OpR X (compareOp .In) (rInP X.K false) := by
  intro pins s σ H x y v u Q I rx ry h
  obtain ⟨d, es, hd, he, pd, pe, dd, q⟩ := h
  obtain ⟨as, r1⟩ := Dp.reads I d x v hd rx
  rcases he with he | he
  · obtain ⟨bs, r2⟩ := Dp.reads I _ y u he ry
    exact SeqAt.in_list_data r2 r1 pe pd (by omega) ⟨.bl _, H, I, rfl, by simpa using q⟩
  · obtain ⟨bs, r2⟩ := Dp.reads I _ y u he ry
    exact SeqAt.in_tuple_data r2 r1 pe pd (by omega) ⟨.bl _, H, I, rfl, by simpa using q⟩
theorem op_notInP (hu : X.A.units + 64 < cLine) : OpR X (compareOp .NotIn) (rInP X.K true) := by
  intro pins s σ H x y v u Q I rx ry h
  obtain ⟨d, es, hd, he, pd, pe, dd, q⟩ := h
  obtain ⟨as, r1⟩ := Dp.reads I d x v hd rx
  rcases he with he | he
  · obtain ⟨bs, r2⟩ := Dp.reads I _ y u he ry
    exact SeqAt.notIn_list_data r2 r1 pe pd (by omega) ⟨.bl _, H, I, rfl, by simpa using q⟩
  · obtain ⟨bs, r2⟩ := Dp.reads I _ y u he ry
    exact SeqAt.notIn_tuple_data r2 r1 pe pd (by omega) ⟨.bl _, H, I, rfl, by simpa using q⟩
end
def dEq (neg : Bool) : D → D → IH → R D := fun x y h => match D.py h 50 x, D.py h 50 y with
  | some a, some b => .ok (.bl (if neg then !PyData.eqv a b else PyData.eqv a b)) h
  | _, _ => .no
/-- x in y: a sign in a text, a datum in a list or a tuple -/
def dIn (neg : Bool) : D → D → IH → R D := fun x y h => match x, y with
  | .str [c], .str z => .ok (.bl (if neg then !decide (c ∈ z) else decide (c ∈ z))) h
  | x, y => match D.py h 50 x, (seqOf h y).bind (allM (D.py h 49)) with
    | some a, some bs => .ok (.bl (if neg then !(bs.any fun z => PyData.eqv z a) else bs.any fun z => PyData.eqv z a)) h
    | _, _ => .no
def dIsN (neg : Bool) : D → D → IH → R D := fun x y h => match y with
  | .non => match x with
    | .non => .ok (.bl (!neg)) h
    | _ => .ok (.bl neg) h
  | .bl b => match x with
    | .bl a => .ok (.bl (if neg then !decide (a = b) else decide (a = b))) h
    | _ => .no
  | _ => .no
section
variable {X : Cx} {G : Cf} {W : WX} {a b c e : Expr} {ma mb mc : ME} {pos : Pos}
theorem dEq_ok (hK : X.K = G.K) : OpS G (rEqP X.K) (dEq false) := by
  intro et H h x y v w W Q rx ry R p
  unfold dEq at p
  split at p
  · rename_i d1 d2 e1 e2
    obtain ⟨a1, a2, a3⟩ := py_ok R 50 x v d1 e1 rx
    obtain ⟨b1, b2, b3⟩ := py_ok R 50 y w d2 e2 ry
    rw [hK]
    exact ⟨d1, d2, a1, b1, a2, b2, a3, p.here R _ (by simp)⟩
  · exact p.elim
theorem dNe_ok (hK : X.K = G.K) : OpS G (rNeP X.K) (dEq true) := by
  intro et H h x y v w W Q rx ry R p
  unfold dEq at p
  split at p
  · rename_i d1 d2 e1 e2
    obtain ⟨a1, a2, a3⟩ := py_ok R 50 x v d1 e1 rx
    obtain ⟨b1, b2, b3⟩ := py_ok R 50 y w d2 e2 ry
    rw [hK]
    exact ⟨d1, d2, a1, b1, a2, b2, a3, p.here R _ (by simp)⟩
  · exact p.elim
def rInA (K : PySem.W.Frag) (neg : Bool) : R2 := fun x y H Q => (∃ (c : Nat) (z : Str), x = .str ⟨#[c]⟩ ∧ y = .str z ∧ Q (.bl (if neg then !decide (c ∈ z.cps.toList) else decide (c ∈ z.cps.toList))) H) ∨ rInP K neg x y H Q
theorem op_inA (hu : X.A.units + 64 < cLine) : OpR X (compareOp .In) (rInA X.K false) := by
  intro pins s σ H x y v u Q I rx ry h
  rcases h with ⟨c, z, h1, h2, q⟩ | h
  · exact op_in_sign pins s σ H x y v u Q I rx ry ⟨c, z, h1, h2, by simpa using q⟩
  · exact op_inP hu pins s σ H x y v u Q I rx ry h
theorem op_notInA (hu : X.A.units + 64 < cLine) : OpR X (compareOp .NotIn) (rInA X.K true) := by
  intro pins s σ H x y v u Q I rx ry h
  rcases h with ⟨c, z, h1, h2, q⟩ | h
  · exact op_notIn_sign pins s σ H x y v u Q I rx ry ⟨c, z, h1, h2, by simpa using q⟩
  · exact op_notInP hu pins s σ H x y v u Q I rx ry h
theorem dIn_ok (hK : X.K = G.K) (neg : Bool) : OpS G (rInA X.K neg) (dIn neg) := by
  intro et H h x y v w W Q rx ry R p
  unfold dIn at p
  split at p
  · rename_i c z
    refine .inl ⟨c, strV z, den_str.mp rx, den_str.mp ry, ?_⟩
    have h1 : decide (c ∈ (strV z).cps.toList) = decide (c ∈ z) := decide_eq_decide.mpr (by simp [strV])
    rw [h1]
    exact p.here R _ (by simp)
  · split at p
    · rename_i d es e1 e2
      obtain ⟨a1, a2, a3⟩ := py_ok R 50 x v d e1 rx
      simp only [Option.bind_eq_some_iff] at e2
      obtain ⟨ds, e3, e4⟩ := e2
      obtain ⟨q, vs, rfl, s1, s2⟩ := seq_ok R e3 ry
      obtain ⟨b1, b2, b3⟩ := py_all R (py_ok R 49) ds vs es e4 s2
      rw [hK]
      refine .inr ⟨d, es, a1, ?_, a2, b2, a3, p.here R _ (by simp)⟩
      rcases s1 with s1 | s1
      · exact .inl (.lst s1 b1)
      · exact .inr (.tup s1 b1)
    · exact p.elim
theorem op_isA : OpR X (compareOp .Is) (fun x y H Q => (y = .non ∧ Q (.bl (decide (x = .non))) H) ∨ rIsB x y H Q) := OpR.or op_isN op_isBl
theorem op_isnotA : OpR X (compareOp .IsNot) (fun x y H Q => (y = .non ∧ Q (.bl (!decide (x = .non))) H) ∨ rNotB x y H Q) := OpR.or op_notN op_notBl
theorem den_nn {et : List Addr} {H : Hp} {x : D} {v : V} (n : x ≠ .non) (r : Den G et H x v) : v ≠ .non := by
  cases x with
  | non => exact absurd rfl n
  | bl b => rw [den_bl.mp r]; exact fun z => nomatch z
  | int b => rw [den_int.mp r]; exact fun z => nomatch z
  | str b => rw [den_str.mp r]; exact fun z => nomatch z
  | tup l => obtain ⟨a, vs, e, _⟩ := den_tup.mp r; rw [e]; exact fun z => nomatch z
  | ref n => obtain ⟨a, _, e⟩ := den_ref.mp r; rw [e]; exact fun z => nomatch z
  | exc a => rw [show v = .ref a by simpa [Den] using r]; exact fun z => nomatch z
  | fl l => obtain ⟨a, vs, e, _⟩ := den_fl.mp r; rw [e]; exact fun z => nomatch z
  | fd ks l => obtain ⟨a, vs, e, _⟩ := den_fd.mp r; rw [e]; exact fun z => nomatch z
theorem dIs_ok : OpS G (fun x y H Q => (y = .non ∧ Q (.bl (decide (x = .non))) H) ∨ rIsB x y H Q) (dIsN false) := by
  intro et H h x y v w W Q rx ry R p
  unfold dIsN at p
  split at p
  · split at p
    · refine .inl ⟨den_non.mp ry, ?_⟩
      exact p.here R _ (by simp [den_non.mp rx])
    · rename_i hn
      refine .inl ⟨den_non.mp ry, ?_⟩
      exact p.here R _ (by simpa using den_nn hn rx)
  · split at p
    · exact .inr ⟨_, _, den_bl.mp rx, den_bl.mp ry, p.here R _ (by simp)⟩
    · exact p.elim
  · exact p.elim
theorem dIsnot_ok : OpS G (fun x y H Q => (y = .non ∧ Q (.bl (!decide (x = .non))) H) ∨ rNotB x y H Q) (dIsN true) := by
  intro et H h x y v w W Q rx ry R p
  unfold dIsN at p
  split at p
  · split at p
    · refine .inl ⟨den_non.mp ry, ?_⟩
      exact p.here R _ (by simp [den_non.mp rx])
    · rename_i hn
      refine .inl ⟨den_non.mp ry, ?_⟩
      exact p.here R _ (by simpa using den_nn hn rx)
  · split at p
    · exact .inr ⟨_, _, den_bl.mp rx, den_bl.mp ry, p.here R _ (by simp)⟩
    · exact p.elim
  · exact p.elim
end
end NR

set_option Elab.async false
set_option linter.all false
set_option maxRecDepth 100000
/-! Tests, calls, statements. -/
namespace NR
open PySem PySem.Spec PyProof.Rows L2

/-! ### truth, tests -/
def truD (h : IH) : D → Option Bool
  | .non => some false
  | .bl b => some b
  | .int i => some (i != 0)
  | .str s => if s.length ≤ 10000000 then some ((s.length : Int) != 0) else none
  | .tup l => some (!l.isEmpty)
  | .fl l => some (!l.isEmpty)
  | .ref n => match h[n]? with
    | some (.lst xs) => some (!xs.isEmpty)
    | some (.frz xs) => some (!xs.isEmpty)
    | some (.dk kvs) => some (!kvs.isEmpty)
    | _ => none
  | _ => none
theorem empty_iff {G : Cf} {et : List Addr} {H : Hp} {xs : List D} {vs : List V} (r : DenL G et H xs vs) : xs.isEmpty = vs.isEmpty := by
  have := r.len
  cases xs <;> cases vs <;> simp at this ⊢
theorem tru_okD {G : Cf} {et : List Addr} {H : Hp} {h : IH} (R : HRel G et h H) {d : D} {v : V} {b : Bool} (e : truD h d = some b) (r : Den G et H d v) : TruV G.K v H b := by
  cases d with
  | non => rw [den_non.mp r]; simp only [truD, Option.some.injEq] at e; exact e.symm
  | bl c => rw [den_bl.mp r]; simp only [truD, Option.some.injEq] at e; exact e.symm
  | int c => rw [den_int.mp r]; simp only [truD, Option.some.injEq] at e; exact e.symm
  | str s =>
    rw [den_str.mp r]
    simp only [truD] at e
    split at e
    · rename_i c
      cases e
      exact ⟨by rw [strV_length]; exact sz c, by rw [strV_length]⟩
    · cases e
  | tup l =>
    obtain ⟨a, vs, rfl, h1, h2⟩ := den_tup.mp r
    simp only [truD, Option.some.injEq] at e
    exact .inr (.inl ⟨vs, h1, by rw [← e, empty_iff h2]⟩)
  | ref n =>
    obtain ⟨a, h1, rfl⟩ := den_ref.mp r
    simp only [truD] at e
    split at e
    · rename_i xs hx
      cases e
      obtain ⟨vs, h2, h3⟩ := R.cell n _ a hx h1
      exact .inl ⟨vs, SqL.of h2, by rw [empty_iff h3]⟩
    · rename_i xs hx
      cases e
      obtain ⟨vs, h2, h3⟩ := R.cell n _ a hx h1
      exact .inl ⟨vs, h2.sq, by rw [empty_iff h3]⟩
    · rename_i kvs hx
      cases e
      obtain ⟨ws, h2, h3, h4⟩ := R.cell n _ a hx h1
      refine .inr (.inr ⟨ws, h2, ?_⟩)
      have := congrArg List.length h3
      simp at this
      cases kvs <;> cases ws <;> simp at this ⊢
    · cases e
  | fl l =>
    obtain ⟨a, vs, rfl, h1, h2⟩ := den_fl.mp r
    simp only [truD, Option.some.injEq] at e
    exact .inl ⟨vs, h1.sq, by rw [← e, empty_iff h2]⟩
  | fd ks l => simp [truD] at e
  | exc a => simp [truD] at e
def R.ofO {A : Type} (o : Option A) (h : IH) : R A := match o with
  | some a => .ok a h
  | none => .no
def mTr (m : ME) : MT := fun env h => (m env h).bind fun d h1 => R.ofO (truD h1 d) h1
def mTb (m : ME) : MT := fun env h => (m env h).bind fun d h1 => R.ofO d.bl? h1
def mAnd (a b : MT) : MT := fun env h => (a env h).bind fun c h1 => if c = true then b env h1 else .ok false h1
def mOr (a b : MT) : MT := fun env h => (a env h).bind fun c h1 => if c = true then .ok true h1 else b env h1
def mNot (a : MT) : MT := fun env h => (a env h).bind fun c h1 => .ok (!c) h1
def mAndV (a b : ME) : ME := fun env h => (a env h).bind fun x h1 => match x with
  | .bl true => b env h1
  | .bl false => .ok (.bl false) h1
  | _ => .no
def mOrV (a b : ME) : ME := fun env h => (a env h).bind fun x h1 => match x with
  | .bl true => .ok (.bl true) h1
  | .bl false => b env h1
  | _ => .no
def mNotV (a : ME) : ME := fun env h => (a env h).bind fun x h1 => match x with
  | .bl b => .ok (.bl (!b)) h1
  | _ => .no
def mIf (t : MT) (a b : ME) : ME := fun env h => (t env h).bind fun c h1 => if c = true then a env h1 else b env h1
def mChain (f g : D → D → IH → R D) (a b c : ME) : ME := fun env h => (a env h).bind fun x h1 => (b env h1).bind fun y h2 => (f x y h2).bind fun z h3 => match z with
  | .bl true => (c env h3).bind fun w h4 => g y w h4
  | .bl false => .ok (.bl false) h3
  | _ => .no
section
variable {X : Cx} {G : Cf} {W : WX} {a b c e : Expr} {ma mb mc : ME} {ta tb : MT} {pos : Pos} {rest : List Expr} {r r' : R2} {f g : D → D → IH → R D}
theorem mt_val (hK : X.K = G.K) (h : PE X a (tE G W ma)) (he : ∀ whole, isTrue a X.env whole = (do let v ← whole; standAt a.pos; holding [v] (truthy v)) := by intro _; rfl) : PT X a (tT G W (mTr ma)) :=
  PT.imp (pt_truth h he) fun σ H Q ⟨et, env, h, hE, hH, hP⟩ => by
    refine ⟨et, env, h, hE, hH, (Pst.of_bind hP).imp fun et1 H1 h1 d p e hr q v hv => ?_⟩
    cases ht : truD h1 d with
    | none => simp only [ht, R.ofO] at q; exact q.elim
    | some k =>
      simp only [ht, R.ofO] at q
      rw [hK]
      exact ⟨k, tru_okD hr ht hv, q.here hr⟩
theorem mt_cmp {op : CmpOp} (ho : OpR X (compareOp op) r) (hs : OpS G r f) (ha : PE X a (tE G W ma)) (hb : PE X b (tE G W mb)) (hm : behindInMarks op b = false := by first | exact nomark _ | rfl) : PT X (.Compare a [op] [b] pos) (tT G W (mTb (mOp f ma mb))) :=
  PT.imp (pt_cmpR ho ha hb hm) fun σ H Q ⟨et, env, h, hE, hH, hP⟩ => by
    refine tOp_of hs ⟨et, env, h, hE, hH, (Pst.of_bind hP).imp fun et1 H1 h1 d p e hr q v hv => ?_⟩
    cases d with
    | bl k => exact ⟨k, den_bl.mp hv, q.here hr⟩
    | _ => exact q.elim
theorem tChain_of {σ : L2.St} {H : Hp} {Q : VK} (hs : OpS G r f) (hs' : OpS G r' g) (x : tE G W (mChain f g ma mb mc) σ H Q) : tChain r r' (tE G W ma) (tE G W mb) (tE G W mc) σ H Q := by
  obtain ⟨et, env, h, hE, hH, hP⟩ := x
  refine ⟨et, env, h, hE, hH, (Pst.of_bind hP).imp fun et1 H1 h1 x p e hr q v hv => ?_⟩
  refine ⟨et1, env, h1, hE.mono p e, hr, (Pst.of_bind q).imp fun et2 H2 h2 y p2 e2 hr2 q2 w hw => ?_⟩
  refine hs et2 H2 h2 x y v w _ _ (hv.mono p2 e2) hw hr2 ((Pst.of_bind q2).imp fun et3 H3 h3 z p3 e3 hr3 q3 vz hz => ?_)
  cases z with
  | bl k =>
    refine ⟨k, den_bl.mp hz, ?_⟩
    cases k with
    | true =>
      rw [if_pos rfl]
      refine ⟨et3, env, h3, ((hE.mono p e).mono p2 e2).mono p3 e3, hr3, (Pst.of_bind q3).imp fun et4 H4 h4 u p4 e4 hr4 q4 vu hu => ?_⟩
      exact hs' et4 H4 h4 y u w vu _ Q ((hw.mono p3 e3).mono p4 e4) hu hr4 q4
    | false =>
      rw [if_neg Bool.false_ne_true]
      exact q3.here hr3 _ (by simp)
  | _ => exact q3.elim
theorem me_chain {op op' : CmpOp} (ho : OpR X (compareOp op) r) (hs : OpS G r f) (ho' : OpR X (compareOp op') r') (hs' : OpS G r' g) (ha : PE X a (tE G W ma)) (hb : PE X b (tE G W mb)) (hc : PE X c (tE G W mc)) (hm : lastMarks [op, op'] [b, c] = false := by rfl) :
    PE X (.Compare a [op, op'] [b, c] pos) (tE G W (mChain f g ma mb mc)) := PE.imp (pe_chain ho ho' ha hb hc hm) fun _ _ _ x => tChain_of hs hs' x
theorem mt_chain {op op' : CmpOp} (ho : OpR X (compareOp op) r) (hs : OpS G r f) (ho' : OpR X (compareOp op') r') (hs' : OpS G r' g) (ha : PE X a (tE G W ma)) (hb : PE X b (tE G W mb)) (hc : PE X c (tE G W mc)) (hm : lastMarks [op, op'] [b, c] = false := by rfl) :
    PT X (.Compare a [op, op'] [b, c] pos) (tT G W (mTb (mChain f g ma mb mc))) := PT.imp (pt_chain ho ho' ha hb hc hm) fun σ H Q ⟨et, env, h, hE, hH, hP⟩ => by
    refine tChain_of hs hs' ⟨et, env, h, hE, hH, (Pst.of_bind hP).imp fun et1 H1 h1 d p e hr q v hv => ?_⟩
    cases d with
    | bl k => exact ⟨k, den_bl.mp hv, q.here hr⟩
    | _ => exact q.elim
theorem tAnd_of {σ : L2.St} {H : Hp} {Q : Bool → Hp → Prop} (x : tT G W (mAnd ta tb) σ H Q) : tAnd (tT G W ta) (tT G W tb) σ H Q := by
  obtain ⟨et, env, h, hE, hH, hP⟩ := x
  refine ⟨et, env, h, hE, hH, (Pst.of_bind hP).imp fun et1 H1 h1 k p e hr q => ?_⟩
  cases k with
  | true =>
    rw [if_pos rfl] at q ⊢
    exact ⟨et1, env, h1, hE.mono p e, hr, q⟩
  | false =>
    rw [if_neg Bool.false_ne_true] at q ⊢
    exact q.here hr
theorem tOr_of {σ : L2.St} {H : Hp} {Q : Bool → Hp → Prop} (x : tT G W (mOr ta tb) σ H Q) : tOr (tT G W ta) (tT G W tb) σ H Q := by
  obtain ⟨et, env, h, hE, hH, hP⟩ := x
  refine ⟨et, env, h, hE, hH, (Pst.of_bind hP).imp fun et1 H1 h1 k p e hr q => ?_⟩
  cases k with
  | true =>
    rw [if_pos rfl] at q ⊢
    exact q.here hr
  | false =>
    rw [if_neg Bool.false_ne_true] at q ⊢
    exact ⟨et1, env, h1, hE.mono p e, hr, q⟩
theorem mw_and1 (ha : PT X a (tT G W ta)) : PW X (.BoolOp .And [a] pos) (tT G W ta) := pw_and1 ha
theorem mw_or1 (ha : PT X a (tT G W ta)) : PW X (.BoolOp .Or [a] pos) (tT G W ta) := pw_or1 ha
theorem mw_and (ha : PT X a (tT G W ta)) (hb : PW X (.BoolOp .And (b :: rest) pos) (tT G W tb)) : PW X (.BoolOp .And (a :: b :: rest) pos) (tT G W (mAnd ta tb)) := PW.imp (pw_and ha hb) fun _ _ _ x => tAnd_of x
theorem mw_or (ha : PT X a (tT G W ta)) (hb : PW X (.BoolOp .Or (b :: rest) pos) (tT G W tb)) : PW X (.BoolOp .Or (a :: b :: rest) pos) (tT G W (mOr ta tb)) := PW.imp (pw_or ha hb) fun _ _ _ x => tOr_of x
theorem mt_not (ha : PT X a (tT G W ta)) : PT X (.UnaryOp .Not a pos) (tT G W (mNot ta)) := PT.imp (pt_not ha) fun σ H Q ⟨et, env, h, hE, hH, hP⟩ =>
  ⟨et, env, h, hE, hH, (Pst.of_bind hP).imp fun et1 H1 h1 k p e hr q => q.here hr⟩
theorem me_one {op} (h : PE X a (tE G W ma)) : PE X (.BoolOp op [a] pos) (tE G W ma) := pe_one h
theorem me_and (ha : PE X a (tE G W ma)) (hb : PE X (.BoolOp .And (b :: rest) pos) (tE G W mb)) : PE X (.BoolOp .And (a :: b :: rest) pos) (tE G W (mAndV ma mb)) := PE.imp (pe_and ha hb) fun σ H Q ⟨et, env, h, hE, hH, hP⟩ => by
  refine ⟨et, env, h, hE, hH, (Pst.of_bind hP).imp fun et1 H1 h1 d p e hr q v hv => ?_⟩
  cases d with
  | bl k =>
    refine ⟨k, den_bl.mp hv, ?_⟩
    cases k with
    | true => rw [if_pos rfl]; exact ⟨et1, env, h1, hE.mono p e, hr, q⟩
    | false => rw [if_neg Bool.false_ne_true]; exact q.here hr _ (by simp)
  | _ => exact q.elim
theorem me_or (ha : PE X a (tE G W ma)) (hb : PE X (.BoolOp .Or (b :: rest) pos) (tE G W mb)) : PE X (.BoolOp .Or (a :: b :: rest) pos) (tE G W (mOrV ma mb)) := PE.imp (pe_or ha hb) fun σ H Q ⟨et, env, h, hE, hH, hP⟩ => by
  refine ⟨et, env, h, hE, hH, (Pst.of_bind hP).imp fun et1 H1 h1 d p e hr q v hv => ?_⟩
  cases d with
  | bl k =>
    refine ⟨k, den_bl.mp hv, ?_⟩
    cases k with
    | true => rw [if_pos rfl]; exact q.here hr _ (by simp)
    | false => rw [if_neg Bool.false_ne_true]; exact ⟨et1, env, h1, hE.mono p e, hr, q⟩
  | _ => exact q.elim
theorem me_not (ha : PE X a (tE G W ma)) : PE X (.UnaryOp .Not a pos) (tE G W (mNotV ma)) := PE.imp (pe_not ha) fun σ H Q ⟨et, env, h, hE, hH, hP⟩ => by
  refine ⟨et, env, h, hE, hH, (Pst.of_bind hP).imp fun et1 H1 h1 d p e hr q v hv => ?_⟩
  cases d with
  | bl k => exact ⟨k, den_bl.mp hv, q.here hr _ (by simp)⟩
  | _ => exact q.elim
theorem me_ifExp (hc : PT X c (tT G W ta)) (ha : PE X a (tE G W ma)) (hb : PE X b (tE G W mb)) : PE X (.IfExp c a b pos) (tE G W (mIf ta ma mb)) := PE.imp (pe_ifExp hc ha hb) fun σ H Q ⟨et, env, h, hE, hH, hP⟩ => by
  refine ⟨et, env, h, hE, hH, (Pst.of_bind hP).imp fun et1 H1 h1 k p e hr q => ?_⟩
  cases k with
  | true => rw [if_pos rfl] at q ⊢; exact ⟨et1, env, h1, hE.mono p e, hr, q⟩
  | false => rw [if_neg Bool.false_ne_true] at q ⊢; exact ⟨et1, env, h1, hE.mono p e, hr, q⟩
def mNeg (a : ME) : ME := fun env h => (a env h).bind fun x h1 => match x with
  | .int i => .ok (.int (-i)) h1
  | _ => .no
theorem me_neg (ha : PE X a (tE G W ma)) : PE X (.UnaryOp .USub a pos) (tE G W (mNeg ma)) := PE.imp (pe_un un_neg ha) fun σ H Q ⟨et, env, h, hE, hH, hP⟩ => by
  refine ⟨et, env, h, hE, hH, (Pst.of_bind hP).imp fun et1 H1 h1 d p e hr q v hv => ?_⟩
  cases d with
  | int k => exact ⟨k, den_int.mp hv, q.here hr _ (by simp)⟩
  | _ => exact q.elim
end

/-! ### arguments, displays -/
def mNil : MA := fun _ h => .ok [] h
def mCons (a : ME) (t : MA) : MA := fun env h => (a env h).bind fun x h1 => (t env h1).bind fun xs h2 => .ok (x :: xs) h2
def mTup (t : MA) : ME := fun env h => (t env h).bind fun xs h1 => if xs.length ≤ 10000000 then .ok (.tup xs) h1 else .no
def mLst (t : MA) : ME := fun env h => (t env h).bind fun xs h1 => if xs.length ≤ 10000000 then .ok (.ref h1.length) (h1 ++ [.lst xs]) else .no
section
variable {X : Cx} {G : Cf} {W : WX} {a b c e : Expr} {es : List Expr} {ma mb mc : ME} {mt : MA} {pos : Pos}
theorem ma_nil : PA X [] (tA G W mNil) := PA.imp pa_nil fun σ H Q ⟨et, env, h, hE, hH, hP⟩ => hP.here hH [] (by simp)
theorem ma_cons (he : PE X e (tE G W ma)) (h : PA X es (tA G W mt)) (hs : starEach (e :: es) X.env = (false, eval e X.env) :: starEach es X.env := by rfl) : PA X (e :: es) (tA G W (mCons ma mt)) := PA.imp (pa_cons he h hs) fun σ H Q ⟨et, env, h, hE, hH, hP⟩ => by
  refine ⟨et, env, h, hE, hH, (Pst.of_bind hP).imp fun et1 H1 h1 x p e hr q v hv => ?_⟩
  refine ⟨et1, env, h1, hE.mono p e, hr, (Pst.of_bind q).imp fun et2 H2 h2 xs p2 e2 hr2 q2 ws hw => ?_⟩
  exact q2.here hr2 _ (denL_cons.mpr ⟨v, ws, rfl, hv.mono p2 e2, hw⟩)
theorem me_tup {k : Nat} (h : PA X es (tA G W mt)) : PE X (.Tuple es k pos) (tE G W (mTup mt)) := PE.imp (pe_tup h) fun σ H Q ⟨et, env, h, hE, hH, hP⟩ => by
  refine ⟨et, env, h, hE, hH, (Pst.of_bind hP).imp fun et1 H1 h1 xs p e hr q vs hv => ?_⟩
  split at q
  · rename_i l
    exact ⟨sz (by rw [hv.len]; exact l), q.newT hr hv⟩
  · exact q.elim
theorem me_lst (h : PA X es (tA G W mt)) : PE X (.List es pos) (tE G W (mLst mt)) := PE.imp (pe_lst h) fun σ H Q ⟨et, env, h, hE, hH, hP⟩ => by
  refine ⟨et, env, h, hE, hH, (Pst.of_bind hP).imp fun et1 H1 h1 xs p e hr q vs hv => ?_⟩
  split at q
  · rename_i l
    exact ⟨sz (by rw [hv.len]; exact l), q.newL hr hv⟩
  · exact q.elim
end

/-! ### defs and their calls -/
def FSp (G : Cf) (n : Nat) (fm : MF) : Sp := fun vs H Q E => vs.length = n ∧ ∃ et ds h, DenL G et H ds vs ∧ HRel G et h H ∧
  Pst G et H (fm ds h) (fun et' H' _ d => ∀ v, Den G et' H' d v → Q v H') E
/-- the old cells are as they were, or tell of old cells alone -/
def okB (k : Nat) : IH → IH → Prop
  | [], _ => True
  | c :: cs, c' :: cs' => (c' = c ∨ Cell.lo k c' = true) ∧ okB k cs cs'
  | _ :: _, [] => False
def xfLo (n : Nat) : XF → Bool
  | none => true
  | some fs => D.loL n (fs.map (·.2))
open Classical in
noncomputable def clean (h : IH) (r : R D) : R D := match r with
  | .ok d h' => if d.lo h.length = true ∧ okB h.length h h' then .ok d (h'.take h.length) else .ok d h'
  | .ex c d h' => if xfLo h.length d = true ∧ okB h.length h h' then .ex c d (h'.take h.length) else .ex c d h'
  | .no => .no
theorem okB_get {k : Nat} : ∀ {h h' : IH} {n : Nat} {c : Cell}, okB k h h' → n < h.length → h'[n]? = some c → h[n]? = some c ∨ Cell.lo k c = true
  | [], _, n, _, _, l, _ => absurd l (Nat.not_lt_zero n)
  | _ :: _, [], _, _, o, _, _ => o.elim
  | c :: cs, c' :: cs', 0, d, o, _, e => by
    simp at e
    subst e
    rcases o.1 with h | h
    · exact .inl (by simp [h])
    · exact .inr h
  | c :: cs, c' :: cs', n + 1, d, o, l, e => by
    have := okB_get o.2 (n := n) (by simpa using l) (by simpa using e)
    simpa using this
theorem okB_len {k : Nat} : ∀ {h h' : IH}, okB k h h' → h.length ≤ h'.length
  | [], _, _ => Nat.zero_le _
  | _ :: _, [], o => o.elim
  | c :: cs, c' :: cs', o => by have := okB_len o.2; simp; omega
theorem HRel.lo {G : Cf} {et : List Addr} {h : IH} {H : Hp} (R : HRel G et h H) {n : Nat} {c : Cell} (e : h[n]? = some c) : Cell.lo et.length c = true := by
  obtain ⟨a, ha⟩ := R.addr e
  exact (R.cell n c a e ha).lo
theorem okB_all {G : Cf} {et : List Addr} {h h' : IH} {H : Hp} (R : HRel G et h H) (o : okB h.length h h') : (h'.take et.length).all (Cell.lo et.length) = true := by
  rw [List.all_eq_true]
  intro c hc
  obtain ⟨n, hn⟩ := List.mem_iff_getElem?.mp hc
  have hl : n < et.length := by
    have := (List.getElem?_eq_some_iff.mp hn).1
    rw [List.length_take] at this
    omega
  rw [List.getElem?_take_of_lt hl] at hn
  rw [R.len] at hl ⊢
  rcases okB_get o hl hn with h1 | h1
  · have := R.lo h1
    rw [R.len] at this
    exact this
  · exact h1
theorem HRel.cut {G : Cf} {et et' : List Addr} {h' : IH} {H : Hp} (p : et <+: et') (R : HRel G et' h' H) (c : (h'.take et.length).all (Cell.lo et.length) = true) : HRel G et (h'.take et.length) H := by
  obtain ⟨t, rfl⟩ := p
  have lt : ∀ {n : Nat} {c : Cell}, (h'.take et.length)[n]? = some c → n < et.length ∧ h'[n]? = some c := fun {n c} e => by
    by_cases hn : n < et.length
    · rw [List.getElem?_take_of_lt hn] at e
      exact ⟨hn, e⟩
    · rw [List.getElem?_eq_none (by rw [List.length_take]; omega)] at e
      cases e
  have al : ∀ {n : Nat} {a : Addr}, et[n]? = some a → (et ++ t)[n]? = some a := fun {n a} e => by
    rw [List.getElem?_append_left (List.getElem?_eq_some_iff.mp e).1]
    exact e
  refine ⟨?_, fun n m c1 c2 a h1 h2 h3 h4 f1 f2 => R.nd n m c1 c2 a (lt h1).2 (lt h2).2 (al h3) (al h4) f1 f2, fun n c1 a h1 h2 => ?_⟩
  · have := R.len
    rw [List.length_append] at this
    rw [List.length_take]
    omega
  · have hm : c1 ∈ h'.take et.length := List.mem_of_getElem? h1
    exact (R.cell n c1 a (lt h1).2 (al h2)).back (List.prefix_append _ _) (List.all_eq_true.mp c c1 hm)
theorem Pst.cleaned {G : Cf} {et : List Addr} {H : Hp} {h : IH} {r : R D} {Q : VK} {W : Value → Option Addr → Hp → Prop} (R : HRel G et h H) (x : Pst G et H (clean h r) (fun et' H' _ d => ∀ v, Den G et' H' d v → Q v H') W) :
    Pst G et H r (fun et' H' _ d => ∀ v, Den G et' H' d v → Q v H') W := by
  cases r with
  | no => exact x
  | ok d h' =>
    simp only [clean] at x
    split at x
    · rename_i c
      intro et' H' p e hr v hv
      have al := okB_all R c.2
      have c1 := c.1
      rw [← R.len] at c1 x
      exact x et H' List.prefix_rfl e (hr.cut p al) v (hv.back p c1)
    · exact x
  | ex c d h' =>
    simp only [clean] at x
    split at x
    · rename_i c
      intro et' H' cls dd p e hr hx
      have al := okB_all R c.2
      have c1 := c.1
      rw [← R.len] at c1 x
      refine x et H' cls dd List.prefix_rfl e (hr.cut p al) ⟨hx.1, ?_⟩
      have h2 := hx.2
      cases d with
      | none => exact h2
      | some fs =>
        obtain ⟨a, ws, q1, q2, q3, q4⟩ := h2
        exact ⟨a, ws, q1, q2, q3, q4.back p c1⟩
    · exact x
noncomputable def callC (n : Nat) (fm : MF) (ds : List D) (h : IH) : R D := if ds.length = n then clean h (fm ds h) else .no
noncomputable def mCall (n : Nat) (fm : MF) (a : MA) : ME := fun env h => (a env h).bind fun ds h1 => callC n fm ds h1
section
variable {X : Cx} {G : Cf} {W : WX} {k n : Nat} {f : Addr} {fd : FuncData} {ps : List Str} {fm : MF} {x : Str} {p pos : Pos} {e : Expr} {es : List Expr} {mt : MA}
theorem FSp.of_call {ds : List D} {vs : List V} {et : List Addr} {H : Hp} {h : IH} {Q : VK} {W0 : XK} (hv : DenL G et H ds vs) (hr : HRel G et h H) (q : Pst G et H (callC n fm ds h) (fun et' H' _ d => ∀ v, Den G et' H' d v → Q v H') W0) : FSp G n fm vs H Q W0 := by
  unfold callC at q
  split at q
  · rename_i l
    exact ⟨by rw [hv.len]; exact l, et, ds, h, hv, hr, q.cleaned hr⟩
  · exact q.elim
theorem me_call (F : FnOk X.prog X.w X.K X.mg X.base (L2.CX X.prog X.w) k f fd ps (FSp G n fm)) (hr : Room k X.A) (hm : X.mg x = some (.ref f)) (hk : PySem.W.keepIn X.K (.ref f) = true) (hb : Binds X.K fd ps []) (tk : Takes X W)
    (ha : PA X (e :: es) (tA G W mt)) (hg : Gl X x := by rfl) (hdb : (x == ("__debug__" : Str)) = false := by decide) (he : starEach (e :: es) X.env = (false, eval e X.env) :: starEach es X.env := by rfl) (hpl : (backTo pos (starEach es X.env)).any (·.1) = false := by rfl) :
    PE X (.Call (.Name x p) (e :: es) [] pos) (tE G W (mCall n fm mt)) := PE.imp (pe_callS F hr hg hm hk hb (passAt tk) ha hdb he hpl) fun σ H Q ⟨et, env, h, hE, hH, hP⟩ =>
  ⟨et, env, h, hE, hH, (Pst.of_bind hP).imp fun et1 H1 h1 ds p e hr q vs hv => FSp.of_call hv hr q⟩
theorem me_call0 (F : FnOk X.prog X.w X.K X.mg X.base (L2.CX X.prog X.w) k f fd ps (FSp G n fm)) (hr : Room k X.A) (hm : X.mg x = some (.ref f)) (hk : PySem.W.keepIn X.K (.ref f) = true) (hb : Binds X.K fd ps []) (tk : Takes X W)
    (hg : Gl X x := by rfl) (hdb : (x == ("__debug__" : Str)) = false := by decide) : PE X (.Call (.Name x p) [] [] pos) (tE G W (mCall n fm mNil)) := by
  refine ⟨fun pins s σ H Q I ⟨et, env, h, hE, hH, hP⟩ => ?_⟩
  refine wpAny_Call_Name_kw (ld_glob I hg hm ?_ hdb)
  exact PySem.W.callWith_K0 I.kIn hk (run_fnS (us := []) F hr hb (passAt tk σ) I .nil (FSp.of_call (by simp) hH hP))
end

/-! ### statements -/
def RS.fin : RS → R D
  | .nx _ h => .ok .non h
  | .rt d h => .ok d h
  | .ex c d _ h => .ex c d h
  | _ => .no
def fnM (n : Nat) (m : MS) : MF := fun ds h => (m (ds.map some ++ List.replicate (n - ds.length) none) h).fin
theorem EnvR.start {G : Cf} {et : List Addr} {H : Hp} {ds : List D} {vs : List V} (r : DenL G et H ds vs) (N : List Str) : EnvR G et H (ds.map some ++ List.replicate (N.length - ds.length) none) (start N vs) := by
  have hl := r.len
  refine ⟨by unfold L2.start; simp [hl], fun i d e => ?_⟩
  by_cases hi : i < ds.length
  · rw [List.getElem?_append_left (by simpa using hi), List.getElem?_map] at e
    cases h1 : ds[i]? with
    | none => rw [h1] at e; cases e
    | some d' =>
      rw [h1] at e
      cases e
      obtain ⟨v, h2, h3⟩ := r.get h1
      refine ⟨v, ?_, h3⟩
      unfold L2.start
      rw [List.getElem?_append_left (by simp; omega), List.getElem?_map, h2]
      rfl
  · rw [List.getElem?_append_right (by simpa using hi)] at e
    have := List.mem_of_getElem? e
    simp at this
section
variable {P : Program} {w : World} {K : PySem.W.Frag} {mg : Str → Option Value} {base : Heap} {G : Cf}
theorem fnPM {x qual : Str} {st : Stmt} {f : Addr} {fd : FuncData} {N ps : List Str} {k n : Nat} {m : MS} (F : Fun K x qual st f fd) (S : FnScope N ps (defScope st)) (hn : ps.length = n)
    (hb : ∀ (cdv : Value) (A : Around) (outer : List PySem.Env) (s : Shared) (H : Hp) (E : XK), Room k (A.deeper (envOfC qual (defScope st) s.heap.objs.size f cdv)) →
      Takes (cxOf (L2.CX P w) P w K mg base N qual (defScope st) f cdv A outer s H E) (fun c d _ H => E c d H) → PassesOwn (model P w) (cxOf (L2.CX P w) P w K mg base N qual (defScope st) f cdv A outer s H E).A (cxOf (L2.CX P w) P w K mg base N qual (defScope st) f cdv A outer s H E).env (cxOf (L2.CX P w) P w K mg base N qual (defScope st) f cdv A outer s H E).xe →
      PSs (cxOf (L2.CX P w) P w K mg base N qual (defScope st) f cdv A outer s H E) (defBody st) (tS G (fun c d _ H => E c d H) m)) : FnOk P w K mg base (L2.CX P w) (k + 1) f fd ps (FSp G n (fnM N.length m)) := by
  refine F.okX S (fun vs H Q E h => h.1.trans hn.symm) fun cdv A outer s H vs Q E hr ⟨hl, et, ds, h, hv, hH, hP⟩ => ⟨_, hb cdv A outer s H E hr (takes_of rfl rfl rfl rfl) (passes_of rfl), ?_⟩
  refine ⟨et, _, h, EnvR.start hv N, hH, ?_⟩
  unfold fnM at hP
  revert hP
  generalize m (ds.map some ++ List.replicate (N.length - ds.length) none) h = r
  intro hP
  cases r with
  | nx e h1 => exact fun et' H' σ' p ex hr _ => hP et' H' p ex hr _ (by simp)
  | rt d h1 => exact fun et' H' v p ex hr hv => hP et' H' p ex hr v hv
  | ex c d e h1 => exact fun et' H' σ' cls dd p ex hr _ hx => hP et' H' cls dd p ex hr hx
  | bk e h1 => exact hP.elim
  | ct e h1 => exact hP.elim
  | no => exact hP.elim
end
end NR

set_option Elab.async false
set_option linter.all false
set_option maxRecDepth 100000
/-! Statements, loops. -/
namespace NR
open PySem PySem.Spec PyProof.Rows L2

def RS.then (r : RS) (k : EV → IH → RS) : RS := match r with
  | .nx e h => k e h
  | r => r
def msNil : MS := fun env h => .nx env h
def msCons (a b : MS) : MS := fun env h => (a env h).then b
def msRet (m : ME) : MS := fun env h => (m env h).bindS env fun d h1 => .rt d h1
def msRetN : MS := fun _ h => .rt .non h
def msIf (t : MT) (a b : MS) : MS := fun env h => (t env h).bindS env fun c h1 => if c = true then a env h1 else b env h1
def msSet (i : Nat) (m : ME) : MS := fun env h => (m env h).bindS env fun d h1 => .nx (env.set i (some d)) h1
def msExpr (m : ME) : MS := fun env h => (m env h).bindS env fun _ h1 => .nx env h1
def msBreak : MS := fun env h => .bk env h
def msCont : MS := fun env h => .ct env h
def msNo : MS := fun _ _ => .no

section
variable {G : Cf} {et et' : List Addr} {H H' : Hp} {h h' : IH} {env : EV} {σ : L2.St} {D0 : Ends} {W : WX} {A : Type}
/-- behind an expression, a statement goes on -/
theorem PstS.of_bind {r : R A} {k : A → IH → RS} (hE : EnvR G et H env σ) (x : PstS G et H (r.bindS env k) D0 W) :
    Pst G et H r (fun et1 H1 h1 a => PstS G et1 H1 (k a h1) D0 W) (fun c d H' => W c d σ H') := by
  cases r with
  | ok a h1 =>
    intro et1 H1 p e hr
    have y : PstS G et H (k a h1) D0 W := x
    show PstS G et1 H1 (k a h1) D0 W
    cases hk : k a h1 with
    | nx b h2 => rw [hk] at y; exact fun et2 H2 σ' p2 e2 hr2 => y et2 H2 σ' (p.trans p2) (e.trans e2) hr2
    | bk b h2 => rw [hk] at y; exact fun et2 H2 σ' p2 e2 hr2 => y et2 H2 σ' (p.trans p2) (e.trans e2) hr2
    | ct b h2 => rw [hk] at y; exact fun et2 H2 σ' p2 e2 hr2 => y et2 H2 σ' (p.trans p2) (e.trans e2) hr2
    | rt b h2 => rw [hk] at y; exact fun et2 H2 v p2 e2 hr2 => y et2 H2 v (p.trans p2) (e.trans e2) hr2
    | ex c d b h2 => rw [hk] at y; exact fun et2 H2 σ' cls dd p2 e2 hr2 => y et2 H2 σ' cls dd (p.trans p2) (e.trans e2) hr2
    | no => rw [hk] at y; exact y
  | ex c d h1 => exact fun et1 H1 cls dd p e hr hx => x et1 H1 σ cls dd p e hr (hE.mono p e) hx
  | no => exact x
theorem PstS.weak {r : RS} (p : et <+: et') (e : Ext H H') (x : PstS G et H r D0 W) : PstS G et' H' r D0 W := by
  cases r with
  | nx b h2 => exact fun et2 H2 σ' p2 e2 hr2 => x et2 H2 σ' (p.trans p2) (e.trans e2) hr2
  | bk b h2 => exact fun et2 H2 σ' p2 e2 hr2 => x et2 H2 σ' (p.trans p2) (e.trans e2) hr2
  | ct b h2 => exact fun et2 H2 σ' p2 e2 hr2 => x et2 H2 σ' (p.trans p2) (e.trans e2) hr2
  | rt b h2 => exact fun et2 H2 v p2 e2 hr2 => x et2 H2 v (p.trans p2) (e.trans e2) hr2
  | ex c d b h2 => exact fun et2 H2 σ' cls dd p2 e2 hr2 => x et2 H2 σ' cls dd (p.trans p2) (e.trans e2) hr2
  | no => exact x
end

section
variable {X : Cx} {G : Cf} {W : WX} {st : Stmt} {rest : List Stmt} {a b : MS} {e c : Expr} {me : ME} {mt : MT} {pos : Pos}
theorem mss_nil : PSs X [] (tS G W msNil) := PSs.imp pss_nil fun D σ H ⟨et, env, h, hE, hH, hP⟩ => hP et H σ List.prefix_rfl (Ext.refl H) hH hE
theorem mss_cons (h1 : PS X st (tS G W a)) (h2 : PSs X rest (tS G W b)) : PSs X (st :: rest) (tS G W (msCons a b)) := PSs.imp (pss_cons h1 h2) fun D σ H ⟨et, env, h, hE, hH, hP⟩ => by
  refine ⟨et, env, h, hE, hH, ?_⟩
  unfold msCons at hP
  revert hP
  generalize a env h = r
  intro hP
  cases r with
  | nx e1 h1 => exact fun et' H' σ' p e hr hE' => ⟨et', e1, h1, hE', hr, PstS.weak p e hP⟩
  | bk b h2 => exact hP
  | ct b h2 => exact hP
  | rt b h2 => exact hP
  | ex c d b h2 => exact hP
  | no => exact hP
theorem mss_one (h1 : PS X st (tS G W a)) : PSs X [st] (tS G W a) := pss_one h1
theorem ms_pass : PS X (.Pass pos) (tS G W msNil) := PS.imp ps_pass fun D σ H ⟨et, env, h, hE, hH, hP⟩ => hP et H σ List.prefix_rfl (Ext.refl H) hH hE
theorem ms_doc {x : Str} {j : Nat} {pos' : Pos} : PS X (.Expr (.Constant (.str x) j pos) pos') (tS G W msNil) := PS.imp ps_doc fun D σ H ⟨et, env, h, hE, hH, hP⟩ => hP et H σ List.prefix_rfl (Ext.refl H) hH hE
theorem ms_break : PS X (.Break pos) (tS G W msBreak) := PS.imp ps_break fun D σ H ⟨et, env, h, hE, hH, hP⟩ => hP et H σ List.prefix_rfl (Ext.refl H) hH hE
theorem ms_continue : PS X (.Continue pos) (tS G W msCont) := PS.imp ps_continue fun D σ H ⟨et, env, h, hE, hH, hP⟩ => hP et H σ List.prefix_rfl (Ext.refl H) hH hE
theorem ms_no : PS X st (tS G W msNo) := PS.imp ps_never fun D σ H ⟨et, env, h, hE, hH, hP⟩ => hP
theorem mss_no {sts : List Stmt} : PSs X sts (tS G W msNo) := PSs.imp pss_never fun D σ H ⟨et, env, h, hE, hH, hP⟩ => hP
theorem ms_ret (he : PE X e (tE G W me)) : PS X (.Return (some e) pos) (tS G W (msRet me)) := PS.imp (ps_ret he) fun D σ H ⟨et, env, h, hE, hH, hP⟩ =>
  ⟨et, env, h, hE, hH, (PstS.of_bind hE hP).imp fun et1 H1 h1 d p e hr q v hv => q et1 H1 v List.prefix_rfl (Ext.refl _) hr hv⟩
theorem ms_retN : PS X (.Return none pos) (tS G W msRetN) := PS.imp ps_retN fun D σ H ⟨et, env, h, hE, hH, hP⟩ => hP et H .non List.prefix_rfl (Ext.refl _) hH (by simp)
theorem ms_if {s1 s2 : List Stmt} (hc : PT X c (tT G W mt)) (ha : PSs X s1 (tS G W a)) (hb : PSs X s2 (tS G W b)) : PS X (.If c s1 s2 pos) (tS G W (msIf mt a b)) := PS.imp (ps_if hc ha hb) fun D σ H ⟨et, env, h, hE, hH, hP⟩ => by
  refine ⟨et, env, h, hE, hH, (PstS.of_bind hE hP).imp fun et1 H1 h1 k p e hr q => ?_⟩
  cases k with
  | true => rw [if_pos rfl] at q ⊢; exact ⟨et1, env, h1, hE.mono p e, hr, q⟩
  | false => rw [if_neg Bool.false_ne_true] at q ⊢; exact ⟨et1, env, h1, hE.mono p e, hr, q⟩
theorem ms_set (i : Nat) {x : Str} {pos' : Pos} (hN : X.N.Nodup) (he : PE X e (tE G W me)) (hi : X.N[i]? = some x := by rfl) (hx : Loc X.env.scope x := by first | exact Or.inl rfl | exact Or.inr rfl) (hs : swapsWith e (some (.Name x pos')) pos.line X.env = pure false := by rfl)
    (hf : X.fn x = true ∨ X.env.scope.names.lookup x = some .local := by first | exact .inl rfl | exact .inr rfl) : PS X (.Assign [.Name x pos'] e pos) (tS G W (msSet i me)) := PS.imp (ps_set hN hi hx he hs hf) fun D σ H ⟨et, env, h, hE, hH, hP⟩ =>
  ⟨et, env, h, hE, hH, (PstS.of_bind hE hP).imp fun et1 H1 h1 d p e hr q v hv => q et1 H1 _ List.prefix_rfl (Ext.refl _) hr ((hE.mono p e).set i hv)⟩
theorem ms_expr (he : PE X e (tE G W me)) (hs : swapsWith e none pos.line X.env = pure false := by rfl) : PS X (.Expr e pos) (tS G W (msExpr me)) := PS.imp (ps_expr he hs) fun D σ H ⟨et, env, h, hE, hH, hP⟩ =>
  ⟨et, env, h, hE, hH, (PstS.of_bind hE hP).imp fun et1 H1 h1 d p e hr q v hv => q et1 H1 σ List.prefix_rfl (Ext.refl _) hr (hE.mono p e)⟩
end

/-! ### op=, stores -/
def msAug (i : Nat) (f : D → D → IH → R D) (m : ME) : MS := fun env h => match env[i]? with
  | some (some x) => (m env h).bindS env fun y h1 => (f x y h1).bindS env fun z h2 => .nx (env.set i (some z)) h2
  | _ => .no
/-- in place: ints, texts, a list that grows -/
def dIAdd : D → D → IH → R D
  | .int i, .int j, h => .ok (.int (i + j)) h
  | .str a, .str b, h => if a.length + b.length ≤ 10000000 then .ok (.str (a ++ b)) h else .no
  | _, _, _ => .no
def dISub : D → D → IH → R D
  | .int i, .int j, h => .ok (.int (i - j)) h
  | _, _, _ => .no
section
variable {X : Cx} {G : Cf} {W : WX} {a b e o i : Expr} {me mo mi : ME} {pos : Pos} {r : R2} {f : D → D → IH → R D}
theorem ms_aug (n : Nat) {x : Str} {op : Operator} {pos' : Pos} (hN : X.N.Nodup) (ho : OpR X (inplaceOp op) r) (hs : OpS G r f) (he : PE X e (tE G W me)) (hi : X.N[n]? = some x := by rfl) (hx : Loc X.env.scope x := by first | exact Or.inl rfl | exact Or.inr rfl)
    (hf : X.fn x = true ∨ X.env.scope.names.lookup x = some .local := by first | exact .inl rfl | exact .inr rfl) : PS X (.AugAssign (.Name x pos') op e pos) (tS G W (msAug n f me)) := PS.imp (ps_aug hN hi hx he (ti := r) ho hf) fun D σ H ⟨et, env, h, hE, hH, hP⟩ => by
  unfold msAug at hP
  split at hP
  · rename_i x0 hx0
    obtain ⟨v0, e0, r0⟩ := hE.2 n x0 hx0
    refine ⟨v0, e0, et, env, h, hE, hH, (PstS.of_bind hE hP).imp fun et1 H1 h1 y p e hr q w hw => ?_⟩
    exact hs et1 H1 h1 x0 y v0 w _ _ (r0.mono p e) hw hr ((PstS.of_bind (hE.mono p e) q).imp fun et2 H2 h2 z p2 e2 hr2 q2 u hu => q2 et2 H2 _ List.prefix_rfl (Ext.refl _) hr2 (((hE.mono p e).mono p2 e2).set n hu))
  · exact hP.elim
theorem iadd_ok : OpS G (fun x y H Q => rI0 (fun i j => .int (i + j)) x y H Q ∨ (∃ i j, x = .str i ∧ y = .str j ∧ i.length + j.length ≤ sizeLine ∧ Q (.str (i ++ j)) H)) dIAdd := by
  intro et H h x y v w W Q rx ry R p
  unfold dIAdd at p
  split at p
  · exact .inl ⟨_, _, den_int.mp rx, den_int.mp ry, p.here R _ (by simp)⟩
  · split at p
    · rename_i c
      refine .inr ⟨_, _, den_str.mp rx, den_str.mp ry, ?_, ?_⟩
      · rw [strV_length, strV_length]; exact sz c
      · exact p.here R _ (by simp [strV_app])
    · exact p.elim
  · exact p.elim
theorem iop_addA : OpR X (inplaceOp .Add) (fun x y H Q => rI0 (fun i j => .int (i + j)) x y H Q ∨ (∃ i j, x = .str i ∧ y = .str j ∧ i.length + j.length ≤ sizeLine ∧ Q (.str (i ++ j)) H)) := OpR.or iop_add iop_add_str
theorem isub_ok : OpS G (rI0 fun i j => .int (i - j)) dISub := by
  intro et H h x y v w W Q rx ry R p
  unfold dISub at p
  split at p
  · exact ⟨_, _, den_int.mp rx, den_int.mp ry, p.here R _ (by simp)⟩
  · exact p.elim
theorem idiv_ok : OpS G (rI CDivW fun i j => .int (i / j)) dDiv := opS_I fun i j c => by
    have c' : 0 < j ∧ j < 2 ^ 64 := by simpa [cDiv] using c
    exact wide_div c'.1 (b := 64) (by omega) (by decide) (by decide)
theorem imod_ok : OpS G (rI (fun _ j => 0 < j) fun i j => .int (i % j)) dMod := opS_I fun i j c => by simpa [cMod] using c
end
/-- the place of an item, from either end -/
def ixD (n : Nat) (i : Int) : Option Nat := ixN n i
/-- o[i] = v: a list's item -/
def putD (o i v : D) (h : IH) : Option IH := match o, i with
  | .ref n, .int k => match h[n]? with
    | some (.lst xs) => (ixN xs.length k).map fun j => h.set n (.lst (xs.set j v))
    | _ => none
  | _, _ => none
def msSetI (mo mi me : ME) : MS := fun env h => (me env h).bindS env fun v h1 => (mo env h1).bindS env fun o h2 => (mi env h2).bindS env fun i h3 => match putD o i v h3 with
  | some h4 => .nx env h4
  | none => .no
section
variable {G : Cf} {et : List Addr} {H : Hp} {h h' : IH}
theorem put_ok (R : HRel G et h H) {o i v : D} {vo vi vv : V} {Q : Hp → Prop} (e : putD o i v h = some h') (ro : Den G et H o vo) (ri : Den G et H i vi) (rv : Den G et H v vv) (q : ∀ H', Ext H H' → HRel G et h' H' → Q H') : rSetL vo vi vv H Q := by
  unfold putD at e
  split at e
  · rename_i n k
    split at e
    · rename_i xs hx
      simp only [Option.map_eq_some_iff] at e
      obtain ⟨j, e1, rfl⟩ := e
      obtain ⟨a, vs, h1, rfl, h2, h3⟩ := den_list R hx ro
      refine ⟨a, vs, k, j, rfl, den_int.mp ri, h2, by rw [h3.len]; exact e1, ?_⟩
      have ex : Ext H (upd H a (.lst (vs.set j vv))) := Ext.mut h2 True.intro
      exact q _ ex (R.set hx h1 rfl h2 True.intro ⟨_, upd_same, (h3.set j rv).mono List.prefix_rfl ex⟩)
    · cases e
  · cases e
end
section
variable {X : Cx} {G : Cf} {W : WX} {a b e o i : Expr} {me mo mi : ME} {pos pos' : Pos} {r : R2} {f : D → D → IH → R D}
theorem ms_setI (he : PE X e (tE G W me)) (ho : PE X o (tE G W mo)) (hi : PE X i (tE G W mi)) (ha : ∀ v, assign (.Subscript o i pos') X.env v = (do
      let ov ← holding [v] (eval o X.env)
      let iv ← holding [v, ov] (eval i X.env)
      standAt pos'
      holding [v, ov, iv] (setItem ov iv v)
      release [v, ov, iv] []) := by intro _; rfl) (hs : swapsWithSole [.Subscript o i pos'] e pos.line X.env = pure false := by rfl) (hw : swappedStores [.Subscript o i pos'] e X.env = pure none := by rfl)
    (h1 : (assignEach [.Subscript o i pos'] X.env).map (·.2) = [assign (.Subscript o i pos') X.env] := by rfl) : PS X (.Assign [.Subscript o i pos'] e pos) (tS G W (msSetI mo mi me)) :=
  PS.imp (ps_asg he (pg_sub ho hi set_list ha) hs hw h1) fun D σ H ⟨et, env, h, hE, hH, hP⟩ => by
    refine ⟨et, env, h, hE, hH, (PstS.of_bind hE hP).imp fun et1 H1 h1 v p e hr q vv hv => ?_⟩
    have hE1 := hE.mono p e
    refine ⟨et1, env, h1, hE1, hr, (PstS.of_bind hE1 q).imp fun et2 H2 h2 o p2 e2 hr2 q2 vo ho => ?_⟩
    have hE2 := hE1.mono p2 e2
    refine ⟨et2, env, h2, hE2, hr2, (PstS.of_bind hE2 q2).imp fun et3 H3 h3 i p3 e3 hr3 q3 vi hi => ?_⟩
    have hE3 := hE2.mono p3 e3
    split at q3
    · rename_i h4 e4
      exact put_ok hr3 e4 (ho.mono p3 e3) hi ((hv.mono p2 e2).mono p3 e3) fun H' ex hr4 => q3 et3 H' σ List.prefix_rfl ex hr4 (hE3.mono List.prefix_rfl ex)
    · exact q3.elim
end
/-- o[i], by values -/
def getD' (o i : D) (h : IH) : R D := match i with
  | .int k => match o with
    | .str s => match (ixN s.length k).bind fun j => s[j]? with
      | some c => if s.length ≤ 10000000 then .ok (.str [c]) h else .no
      | none => .no
    | o => match (seqOf h o).bind fun xs => (ixN xs.length k).bind fun j => xs[j]? with
      | some d => .ok d h
      | none => .no
  | _ => .no
abbrev dIx : D → D → IH → R D := fun o i h => getD' o i h
section
variable {X : Cx} {G : Cf} {W : WX} {a b e o i : Expr} {ma mb me mo mi : ME} {pos pos' : Pos} {r : R2} {f : D → D → IH → R D}
theorem atI_den {et : List Addr} {H : Hp} {xs : List D} {vs : List V} (r : DenL G et H xs vs) {k : Int} {d : D} (e : ((ixN xs.length k).bind fun j => xs[j]?) = some d) : ∃ v, atI vs k = some v ∧ Den G et H d v := by
  simp only [Option.bind_eq_some_iff] at e
  obtain ⟨j, e1, e2⟩ := e
  obtain ⟨v, h1, h2⟩ := r.get e2
  exact ⟨v, by unfold atI; rw [r.len, e1]; exact h1, h2⟩
theorem dIx_ok : OpS G (rIx G.K) dIx := by
  intro et H h x y v w W Q rx ry R p
  unfold dIx getD' at p
  split at p
  · rename_i k
    split at p
    · rename_i s
      split at p
      · rename_i c hc
        split at p
        · rename_i l
          refine .inr (.inr ⟨strV s, k, c, den_str.mp rx, den_int.mp ry, by rw [strV_length]; exact sz l, ?_, p.here R _ (by simp [strV])⟩)
          unfold atI
          simpa [strV] using hc
        · exact p.elim
      · exact p.elim
    · split at p
      · rename_i d hd
        simp only [Option.bind_eq_some_iff] at hd
        obtain ⟨xs, e1, e2⟩ := hd
        obtain ⟨a, vs, rfl, h1, h2⟩ := seq_ok R e1 rx
        obtain ⟨u, e3, r3⟩ := atI_den h2 (k := k) (by simpa only [Option.bind_eq_some_iff] using e2)
        rcases h1 with h1 | h1
        · exact .inl ⟨a, vs, k, u, rfl, den_int.mp ry, h1, e3, p.here R _ r3⟩
        · exact .inr (.inl ⟨a, vs, k, u, rfl, den_int.mp ry, h1, e3, p.here R _ r3⟩)
      · exact p.elim
  · exact p.elim
theorem me_ix (hK : X.K = G.K) (ha : PE X a (tE G W ma)) (hb : PE X b (tE G W mb)) (hs : PlainIx b := by exact fun _ _ => rfl) : PE X (.Subscript a b pos) (tE G W (mOp dIx ma mb)) := by
  refine PE.imp (pe_ix (r := rIx X.K) ix_seq ha hb hs) fun σ H Q x => ?_
  rw [hK]
  exact tOp_of dIx_ok x
/-! slices -/
def cutD (xs : List D) (lo hi : Option Int) : List D := (xs.drop (HT.sIx xs.length 0 lo)).take (HT.sIx xs.length xs.length hi - HT.sIx xs.length 0 lo)
def cutN (xs : List Nat) (lo hi : Option Int) : List Nat := (xs.drop (HT.sIx xs.length 0 lo)).take (HT.sIx xs.length xs.length hi - HT.sIx xs.length 0 lo)
abbrev MO := EV → IH → R (Option Int)
def moNone : MO := fun _ h => .ok none h
def moSome (m : ME) : MO := fun env h => (m env h).bind fun d h1 => match d with
  | .int i => .ok (some i) h1
  | _ => .no
def tO (G : Cf) (W : WX) (m : MO) : TO := fun σ H Q => ∃ et env h, EnvR G et H env σ ∧ HRel G et h H ∧
  Pst G et H (m env h) (fun _ H' _ o => Q o H') (fun c d H' => W c d σ H')
def sliceD (x : D) (lo hi : Option Int) (h : IH) : R D := match x with
  | .str s => if s.length ≤ 10000000 then .ok (.str (cutN s lo hi)) h else .no
  | .tup l => .ok (.tup (cutD l lo hi)) h
  | x => match lstOf h x with
    | some xs => .ok (.ref h.length) (h ++ [.lst (cutD xs lo hi)])
    | none => .no
def mSlice (m : ME) (lo hi : MO) : ME := fun env h => (m env h).bind fun x h1 => (lo env h1).bind fun l h2 => (hi env h2).bind fun u h3 => sliceD x l u h3
def rSlAll (K : PySem.W.Frag) : V → Option Int → Option Int → Hp → VK → Prop := fun x lo hi H Q => rSlL K x lo hi H Q ∨ rSlA K x lo hi H Q ∨ rSlS x lo hi H Q
theorem sl_all : SlR X (rSlAll X.K) := SlR.or sl_list (SlR.or sl_tupA sl_str)
end
end NR

set_option Elab.async false
set_option linter.all false
set_option maxRecDepth 100000
/-! Slices, calls of built-ins, methods, loops. -/
namespace NR
open PySem PySem.Spec PyProof.Rows L2
section
variable {X : Cx} {G : Cf} {W : WX} {a b e o i : Expr} {ma mb me : ME} {mo1 mo2 : MO} {pos pos' p2 : Pos} {lo hi : Option Expr}
theorem moN : PO X none (tO G W moNone) := ⟨fun pins s σ H Q I ⟨et, env, h, hE, hH, hP⟩ => po_none.run pins s σ H Q I (hP.here hH)⟩
theorem moS (he : PE X e (tE G W me)) : PO X (some e) (tO G W (moSome me)) := ⟨fun pins s σ H Q I ⟨et, env, h, hE, hH, hP⟩ => (po_some he).run pins s σ H Q I ⟨et, env, h, hE, hH, (Pst.of_bind hP).imp fun et1 H1 h1 d p e hr q v hv => by
    cases d with
    | int k => exact ⟨k, den_int.mp hv, q.here hr⟩
    | _ => exact q.elim⟩⟩
theorem slice_ok {et : List Addr} {H : Hp} {h : IH} (R : HRel G et h H) {x : D} {vx : V} {l u : Option Int} {Q : VK} {W0 : Value → Option Addr → Hp → Prop} (rx : Den G et H x vx)
    (p : Pst G et H (sliceD x l u h) (fun et' H' _ d => ∀ v, Den G et' H' d v → Q v H') W0) : rSlAll G.K vx l u H Q := by
  unfold sliceD at p
  split at p
  · split at p
    · rename_i s c
      refine .inr (.inr ⟨strV s, den_str.mp rx, by rw [strV_length]; exact sz c, p.here R _ ?_⟩)
      rw [den_str]
      unfold cutS cutN
      rw [strV_length]
      simp [strV]
    · exact p.elim
  · rename_i l0
    obtain ⟨a, vs, rfl, h1, h2⟩ := den_tup.mp rx
    refine .inr (.inl ⟨a, vs, rfl, h1, fun c => ?_, fun _ => ?_⟩)
    · refine p.here R _ (den_tup.mpr ⟨a, vs, rfl, h1, ?_⟩)
      have e : cutD l0 l u = l0 := by
        unfold cutD
        rw [h2.len] at c
        rw [c.1, c.2]
        simp
      rw [e]; exact h2
    · have h3 : DenL G et H (cutD l0 l u) (cutV vs l u) := by
        unfold cutD cutV
        rw [h2.len]
        exact (h2.drop _).take _
      exact p.newT R h3
  · split at p
    · rename_i xs hx
      obtain ⟨a, vs, rfl, h1, h2⟩ := lst_ok R hx rx
      have h3 : DenL G et H (cutD xs l u) (cutV vs l u) := by
        unfold cutD cutV
        rw [h2.len]
        exact (h2.drop _).take _
      exact .inl ⟨a, vs, rfl, h1, p.newL R h3⟩
    · exact p.elim
theorem me_slice (hK : X.K = G.K) (ha : PE X e (tE G W me)) (h1 : PO X lo (tO G W mo1)) (h2 : PO X hi (tO G W mo2)) : PE X (.Subscript e (.Slice lo hi none p2) pos) (tE G W (mSlice me mo1 mo2)) :=
  PE.imp (pe_slice sl_all ha h1 h2) fun σ H Q ⟨et, env, h, hE, hH, hP⟩ => by
    refine ⟨et, env, h, hE, hH, (Pst.of_bind hP).imp fun et1 H1 h1 x p e hr q v hv => ?_⟩
    have hE1 := hE.mono p e
    refine ⟨et1, env, h1, hE1, hr, (Pst.of_bind q).imp fun et2 H2 h2 l p2 e2 hr2 q2 => ?_⟩
    have hE2 := hE1.mono p2 e2
    refine ⟨et2, env, h2, hE2, hr2, (Pst.of_bind q2).imp fun et3 H3 h3 u p3 e3 hr3 q3 => ?_⟩
    rw [hK]
    exact slice_ok hr3 ((hv.mono p2 e2).mono p3 e3) q3
end

/-! ### built-ins by values -/
def CallS (G : Cf) (r : List V → Hp → VK → Prop) (f : List D → IH → R D) : Prop := ∀ (et : List Addr) (H : Hp) (h : IH) (xs : List D) (vs : List V) (W : Value → Option Addr → Hp → Prop) (Q : VK), DenL G et H xs vs → HRel G et h H →
  Pst G et H (f xs h) (fun et' H' _ d => ∀ v, Den G et' H' d v → Q v H') W → r vs H Q
def mB (f : List D → IH → R D) (t : MA) : ME := fun env h => (t env h).bind fun xs h1 => f xs h1
section
variable {X : Cx} {G : Cf} {W : WX} {e : Expr} {es : List Expr} {mt : MA} {pos p : Pos} {x : Str} {r : List V → Hp → VK → Prop} {f : List D → IH → R D}
theorem me_callB {id : String} (hc : CallR X (.builtin id) r) (hs : CallS G r f) (hm : X.mg x = none) (hv : bootBuiltins x = some (.builtin id)) (ha : PA X (e :: es) (tA G W mt)) (hg : Gl X x := by rfl) (hn : x ≠ "__name__" := by decide) (hdb : (x == ("__debug__" : Str)) = false := by decide)
    (he : starEach (e :: es) X.env = (false, eval e X.env) :: starEach es X.env := by rfl) (hpl : (backTo pos (starEach es X.env)).any (·.1) = false := by rfl) : PE X (.Call (.Name x p) (e :: es) [] pos) (tE G W (mB f mt)) :=
  PE.imp (pe_callB hc hg hm hv ha hn hdb he hpl) fun σ H Q ⟨et, env, h, hE, hH, hP⟩ => ⟨et, env, h, hE, hH, (Pst.of_bind hP).imp fun et1 H1 h1 xs p e hr q vs hv => hs et1 H1 h1 xs vs _ Q hv hr q⟩
theorem me_callT {T : String} (hc : CallR X (.type T) r) (hs : CallS G r f) (hm : X.mg x = none) (hv : bootBuiltins x = some (.type T)) (ha : PA X (e :: es) (tA G W mt)) (hg : Gl X x := by rfl) (hn : x ≠ "__name__" := by decide) (hdb : (x == ("__debug__" : Str)) = false := by decide)
    (he : starEach (e :: es) X.env = (false, eval e X.env) :: starEach es X.env := by rfl) (hpl : (backTo pos (starEach es X.env)).any (·.1) = false := by rfl) : PE X (.Call (.Name x p) (e :: es) [] pos) (tE G W (mB f mt)) :=
  PE.imp (pe_callTy hc hg hm hv ha hn hdb he hpl) fun σ H Q ⟨et, env, h, hE, hH, hP⟩ => ⟨et, env, h, hE, hH, (Pst.of_bind hP).imp fun et1 H1 h1 xs p e hr q vs hv => hs et1 H1 h1 xs vs _ Q hv hr q⟩
end

def bAbs : List D → IH → R D
  | [.int i], h => .ok (.int (if i < 0 then -i else i)) h
  | _, _ => .no
def bMax2 : List D → IH → R D
  | [.int i, .int j], h => .ok (.int (if j > i then j else i)) h
  | _, _ => .no
def bMin2 : List D → IH → R D
  | [.int i, .int j], h => .ok (.int (if j < i then j else i)) h
  | _, _ => .no
def bInt1 : List D → IH → R D
  | [.int i], h => .ok (.int i) h
  | [.bl b], h => .ok (.int (if b then 1 else 0)) h
  | _, _ => .no
def bLen : List D → IH → R D
  | [.str s], h => if s.length ≤ 10000000 then .ok (.int (s.length : Nat)) h else .no
  | [.tup l], h => .ok (.int (l.length : Nat)) h
  | [.fl l], h => .ok (.int (l.length : Nat)) h
  | [.ref n], h => match h[n]? with
    | some (.lst xs) => .ok (.int (xs.length : Nat)) h
    | some (.frz xs) => .ok (.int (xs.length : Nat)) h
    | some (.dk kvs) => .ok (.int (kvs.length : Nat)) h
    | _ => .no
  | _, _ => .no
def bList : List D → IH → R D
  | [x], h => match x with
    | .str _ => .no
    | x => match seqOf h x with
      | some xs => .ok (.ref h.length) (h ++ [.lst xs])
      | none => .no
  | _, _ => .no
def bTuple : List D → IH → R D
  | [x], h => match x with
    | .str _ => .no
    | .tup l => .ok (.tup l) h
    | x => match lstOf h x with
      | some xs => .ok (.tup xs) h
      | none => .no
  | _, _ => .no
def bSum : List D → IH → R D
  | [x], h => match (lstOf h x).bind (allM D.int?) with
    | some ns => .ok (.int ns.sum) h
    | none => .no
  | _, _ => .no
def bAny : List D → IH → R D
  | [x], h => match (lstOf h x).bind (allM D.bl?) with
    | some bs => .ok (.bl (bs.any id)) h
    | none => .no
  | _, _ => .no
def bAll : List D → IH → R D
  | [x], h => match (lstOf h x).bind (allM D.bl?) with
    | some bs => .ok (.bl (bs.all id)) h
    | none => .no
  | _, _ => .no
section
variable {X : Cx} {G : Cf}
theorem list1 {et : List Addr} {H : Hp} {x : D} {vs : List V} (r : DenL G et H [x] vs) : ∃ v, vs = [v] ∧ Den G et H x v := by
  obtain ⟨v, ws, rfl, h1, h2⟩ := denL_cons.mp r
  rw [denL_nil] at h2
  subst h2
  exact ⟨v, rfl, h1⟩
theorem list2 {et : List Addr} {H : Hp} {x y : D} {vs : List V} (r : DenL G et H [x, y] vs) : ∃ v w, vs = [v, w] ∧ Den G et H x v ∧ Den G et H y w := by
  obtain ⟨v, ws, rfl, h1, h2⟩ := denL_cons.mp r
  obtain ⟨w, rfl, h3⟩ := list1 h2
  exact ⟨v, w, rfl, h1, h3⟩
theorem bAbs_ok : CallS G (fun xs H Q => ∃ i, xs = [.int i] ∧ Q (.int (if i < 0 then -i else i)) H) bAbs := by
  intro et H h xs vs W Q rv R p
  unfold bAbs at p
  split at p
  · obtain ⟨v, rfl, h1⟩ := list1 rv
    exact ⟨_, by rw [den_int.mp h1], p.here R _ (by simp)⟩
  · exact p.elim
theorem bMax2_ok : CallS G (fun xs H Q => ∃ i j, xs = [.int i, .int j] ∧ Q (.int (if j > i then j else i)) H) bMax2 := by
  intro et H h xs vs W Q rv R p
  unfold bMax2 at p
  split at p
  · obtain ⟨v, w, rfl, h1, h2⟩ := list2 rv
    exact ⟨_, _, by rw [den_int.mp h1, den_int.mp h2], p.here R _ (by simp)⟩
  · exact p.elim
theorem bMin2_ok : CallS G (fun xs H Q => ∃ i j, xs = [.int i, .int j] ∧ Q (.int (if j < i then j else i)) H) bMin2 := by
  intro et H h xs vs W Q rv R p
  unfold bMin2 at p
  split at p
  · obtain ⟨v, w, rfl, h1, h2⟩ := list2 rv
    exact ⟨_, _, by rw [den_int.mp h1, den_int.mp h2], p.here R _ (by simp)⟩
  · exact p.elim
theorem bInt1_ok : CallS G (fun xs H Q => (∃ i, xs = [.int i] ∧ Q (.int i) H) ∨ ∃ k, xs = [.bl k] ∧ Q (.int (if k then 1 else 0)) H) bInt1 := by
  intro et H h xs vs W Q rv R p
  unfold bInt1 at p
  split at p
  · obtain ⟨v, rfl, h1⟩ := list1 rv
    exact .inl ⟨_, by rw [den_int.mp h1], p.here R _ (by simp)⟩
  · obtain ⟨v, rfl, h1⟩ := list1 rv
    exact .inr ⟨_, by rw [den_bl.mp h1], p.here R _ (by simp)⟩
  · exact p.elim
def rLenA (K : PySem.W.Frag) : List V → Hp → VK → Prop := fun xs H Q => (∃ x n, xs = [x] ∧ LenV K x H n ∧ Q (.int n) H) ∨ (∃ a kvs, xs = [V.ref a] ∧ H a = some (.dK kvs) ∧ Q (.int kvs.length) H)
theorem call_lenA : CallR X (.builtin "len") (rLenA X.K) := CallR.or call_len call_lenD
theorem bLen_ok : CallS G (rLenA G.K) bLen := by
  intro et H h xs vs W Q rv R p
  unfold bLen at p
  split at p
  · split at p
    · rename_i s c
      obtain ⟨v, rfl, h1⟩ := list1 rv
      refine .inl ⟨_, s.length, rfl, ?_, p.here R _ (by simp)⟩
      rw [den_str.mp h1]
      exact ⟨by rw [strV_length]; exact sz c, by rw [strV_length]⟩
    · exact p.elim
  · rename_i l
    obtain ⟨v, rfl, h1⟩ := list1 rv
    obtain ⟨a, vs, rfl, h2, h3⟩ := den_tup.mp h1
    exact .inl ⟨_, l.length, rfl, .inr ⟨vs, h2, h3.len.symm⟩, p.here R _ (by simp)⟩
  · rename_i l
    obtain ⟨v, rfl, h1⟩ := list1 rv
    obtain ⟨a, vs, rfl, h2, h3⟩ := den_fl.mp h1
    exact .inl ⟨_, l.length, rfl, .inl ⟨vs, h2.sq, h3.len.symm⟩, p.here R _ (by simp)⟩
  · obtain ⟨v, rfl, h1⟩ := list1 rv
    obtain ⟨a, h2, rfl⟩ := den_ref.mp h1
    split at p
    · rename_i xs hx
      obtain ⟨vs, h3, h4⟩ := R.cell _ _ a hx h2
      exact .inl ⟨_, xs.length, rfl, .inl ⟨vs, SqL.of h3, h4.len.symm⟩, p.here R _ (by simp)⟩
    · rename_i xs hx
      obtain ⟨vs, h3, h4⟩ := R.cell _ _ a hx h2
      exact .inl ⟨_, xs.length, rfl, .inl ⟨vs, h3.sq, h4.len.symm⟩, p.here R _ (by simp)⟩
    · rename_i kvs hx
      obtain ⟨ws, h3, h4, h5⟩ := R.cell _ _ a hx h2
      have hl := congrArg List.length h4
      simp at hl
      exact .inr ⟨a, ws, rfl, h3, p.here R _ (by simp [hl])⟩
    · exact p.elim
  · exact p.elim
theorem bSum_ok : CallS G (rSum G.K) bSum := by
  intro et H h xs vs W Q rv R p
  unfold bSum at p
  split at p
  · split at p
    · rename_i ns e
      simp only [Option.bind_eq_some_iff] at e
      obtain ⟨ds, e1, e2⟩ := e
      obtain ⟨v, rfl, h1⟩ := list1 rv
      obtain ⟨a, vs, rfl, h2, h3⟩ := lst_ok R e1 h1
      rw [allM_ints e2] at h3
      rw [h3.ints] at h2
      exact ⟨a, ns, rfl, h2, p.here R _ (by simp)⟩
    · exact p.elim
  · exact p.elim
theorem bAny_ok : CallS G (rAny G.K) bAny := by
  intro et H h xs vs W Q rv R p
  unfold bAny at p
  split at p
  · split at p
    · rename_i ns e
      simp only [Option.bind_eq_some_iff] at e
      obtain ⟨ds, e1, e2⟩ := e
      obtain ⟨v, rfl, h1⟩ := list1 rv
      obtain ⟨a, vs, rfl, h2, h3⟩ := lst_ok R e1 h1
      rw [allM_bls e2] at h3
      rw [h3.bls] at h2
      exact ⟨a, ns, rfl, h2, p.here R _ (by simp)⟩
    · exact p.elim
  · exact p.elim
theorem bAll_ok : CallS G (rAll G.K) bAll := by
  intro et H h xs vs W Q rv R p
  unfold bAll at p
  split at p
  · split at p
    · rename_i ns e
      simp only [Option.bind_eq_some_iff] at e
      obtain ⟨ds, e1, e2⟩ := e
      obtain ⟨v, rfl, h1⟩ := list1 rv
      obtain ⟨a, vs, rfl, h2, h3⟩ := lst_ok R e1 h1
      rw [allM_bls e2] at h3
      rw [h3.bls] at h2
      exact ⟨a, ns, rfl, h2, p.here R _ (by simp)⟩
    · exact p.elim
  · exact p.elim
end
end NR

set_option Elab.async false
set_option linter.all false
set_option maxRecDepth 100000
/-! Methods, loops, comprehensions. -/
namespace NR
open PySem PySem.Spec PyProof.Rows L2

/-! ### methods of built-in types -/
def tyD (T : String) (h : IH) : D → Bool
  | .str _ => T == "str"
  | .int _ => T == "int"
  | .fl _ => T == "list"
  | .ref n => match h[n]? with
    | some (.lst _) => T == "list"
    | some (.frz _) => T == "list"
    | some (.dk _) => T == "dict"
    | _ => false
  | _ => false
def mMeth (T : String) (f : D → List D → IH → R D) (mo : ME) (mt : MA) : ME := fun env h => (mo env h).bind fun x h1 => if tyD T h1 x = true then (mt env h1).bind fun xs h2 => f x xs h2 else .no
def MethS (G : Cf) (r : V → List V → Hp → VK → Prop) (f : D → List D → IH → R D) : Prop := ∀ (et : List Addr) (H : Hp) (h : IH) (x : D) (v : V) (xs : List D) (vs : List V) (W : Value → Option Addr → Hp → Prop) (Q : VK), Den G et H x v → DenL G et H xs vs → HRel G et h H →
  Pst G et H (f x xs h) (fun et' H' _ d => ∀ v, Den G et' H' d v → Q v H') W → r v vs H Q
section
variable {X : Cx} {G : Cf} {W : WX} {o e : Expr} {es : List Expr} {mo : ME} {mt : MA} {name : Str} {apos cpos : Pos} {T id : String} {r : V → List V → Hp → VK → Prop} {f : D → List D → IH → R D}
theorem tyD_ok {et : List Addr} {H : Hp} {h : IH} (R : HRel G et h H) {x : D} {v : V} (e : tyD T h x = true) (r : Den G et H x v) : tyV G.K T v H := by
  cases x with
  | str s => rw [den_str.mp r]; exact (show T = "str" by simpa [tyD] using e)
  | int s => rw [den_int.mp r]; exact (show T = "int" by simpa [tyD] using e)
  | fl l =>
    obtain ⟨a, vs, rfl, h2, h3⟩ := den_fl.mp r
    exact .inl ⟨by simpa [tyD] using e, vs, h2.sq⟩
  | ref n =>
    obtain ⟨a, h1, rfl⟩ := den_ref.mp r
    simp only [tyD] at e
    split at e
    · rename_i xs hx
      obtain ⟨vs, h2, h3⟩ := R.cell n _ a hx h1
      exact .inl ⟨by simpa using e, vs, SqL.of h2⟩
    · rename_i xs hx
      obtain ⟨vs, h2, h3⟩ := R.cell n _ a hx h1
      exact .inl ⟨by simpa using e, vs, h2.sq⟩
    · rename_i xs hx
      obtain ⟨vs, h2, h3⟩ := R.cell n _ a hx h1
      exact .inr (.inr (.inl ⟨by simpa using e, .inl ⟨vs, h2⟩⟩))
    · cases e
  | _ => simp [tyD] at e
theorem me_meth (hK : X.K = G.K) (pa : PlainAttrs T) (slot : Slot T name id) (hty : typeOf (.builtin id) = pure (.type "method_descriptor")) (hm : MtR X id r) (hs : MethS G r f) (ho : PE X o (tE G W mo)) (ha : PA X (e :: es) (tA G W mt))
    (hbase : attributeBase o name X.env (eval o X.env) = eval o X.env := by rfl) (hall : ((backTo cpos (starEach (e :: es) X.env)).all (!·.1) && (backToKw cpos (keywordEach [] X.env)).all (·.1.isSome) && decide ((e :: es).length + ([] : List Keyword).length + (if ([] : List Keyword).isEmpty = true then 0 else 1) < 30)) = true := by rfl)
    (hline : (apos.endLine == cpos.line) = true := by rfl) (he : starEach (e :: es) X.env = (false, eval e X.env) :: starEach es X.env := by rfl) (hpl : (backTo cpos (starEach es X.env)).any (·.1) = false := by rfl) :
    PE X (.Call (.Attribute o name apos) (e :: es) [] cpos) (tE G W (mMeth T f mo mt)) := PE.imp (pe_bm pa slot hty hm ho ha hbase hall hline he hpl) fun σ H Q ⟨et, env, h, hE, hH, hP⟩ => by
  refine ⟨et, env, h, hE, hH, (Pst.of_bind hP).imp fun et1 H1 h1 x p e hr q v hv => ?_⟩
  split at q
  · rename_i ht
    rw [hK]
    exact ⟨tyD_ok hr ht hv, et1, env, h1, hE.mono p e, hr, (Pst.of_bind q).imp fun et2 H2 h2 xs p2 e2 hr2 q2 vs hvs => hs et2 H2 h2 x v xs vs _ Q (hv.mono p2 e2) hvs hr2 q2⟩
  · exact q.elim
end
def fAppend : D → List D → IH → R D
  | .ref n, [y], h => match h[n]? with
    | some (.lst xs) => if xs.length < 10000000 then .ok .non (h.set n (.lst (xs ++ [y]))) else .no
    | _ => .no
  | _, _, _ => .no
def rExtendR : V → List V → Hp → VK → Prop := fun x vs H Q => ∃ l b xs zs, x = .ref l ∧ vs = [.ref b] ∧ H l = some (.lst xs) ∧ Rd H b (.lst zs) ∧ xs.length + zs.length ≤ sizeLine ∧ Q .non (upd H l (.lst (xs ++ zs)))
theorem mt_extendR {X : Cx} : MtM X "list.extend" rExtendR := by
  intro pins s σ H x vs v us Q I rx rv h
  obtain ⟨l, b, xs, zs, rfl, rfl, hH, hB, hz, q⟩ := h
  cases rx
  obtain ⟨u, rfl, ru⟩ := rv.one
  cases ru
  obtain ⟨z, its, n, r, hl, e⟩ := I.lstM hH
  obtain ⟨z2, its2, n2, r2, e2⟩ := Inv.lstR I hB
  have hl2 := r2.length
  have hsz : its.toArray.size + its2.toArray.size ≤ sizeLine := by rw [List.size_toArray, List.size_toArray]; omega
  have hlong : ¬ (!its.toArray.isEmpty && Builtin.List.listTooLong (its.toArray.size + its2.toArray.size)) = true := by
    rw [notLongL hsz, Bool.and_false]
    exact Bool.false_ne_true
  refine call_meets F.slot_list_extend ⟨_, e, rfl⟩ F.entry_list_extend (F.args_list_extend_2 _ _)
    (AutoSeq1.list_extend_list_list_0 l its.toArray n b its2.toArray n2 hlong (by rw [List.size_toArray]; omega) (by omega)) ⟨e, e2, ?_⟩
  refine ⟨.non, _, I.lset (its' := its ++ its2) hH e (by simp) (r.append r2) ?_, rfl, q⟩
  rw [List.length_append]
  omega
def fExtend : D → List D → IH → R D
  | .ref n, [y], h => match h[n]?, lsOf h y with
    | some (.lst xs), some ys => if xs.length + ys.length ≤ 10000000 then .ok .non (h.set n (.lst (xs ++ ys))) else .no
    | _, _ => .no
  | _, _, _ => .no
def joinN (a : List Nat) : List (List Nat) → List Nat
  | [] => []
  | [x] => x
  | x :: y :: r => x ++ a ++ joinN a (y :: r)
def fJoin : D → List D → IH → R D
  | .str a, [y], h => match (seqOf h y).bind (allM D.str?) with
    | some ys => if (ys.map List.length).sum + ys.length * a.length ≤ 10000000 then .ok (.str (joinN a ys)) h else .no
    | none => .no
  | _, _, _ => .no
theorem glue_fold (a : List Nat) : ∀ (ys : List (List Nat)) (x : List Nat), (ys.map strV).foldl (fun acc p => acc ++ (strV a).cps ++ p.cps) (strV x).cps = (strV (joinN a (x :: ys))).cps
  | [], x => rfl
  | y :: ys, x => by
    have ih := glue_fold a ys (x ++ a ++ y)
    rw [List.map_cons, List.foldl_cons]
    have e1 : (strV x).cps ++ (strV a).cps ++ (strV y).cps = (strV (x ++ a ++ y)).cps := by simp [strV]
    rw [e1, ih]
    congr 2
    cases ys with
    | nil => simp [joinN]
    | cons z zs => simp [joinN]
theorem join_ok (a : List Nat) (ys : List (List Nat)) : Txt.join (strV a) (ys.map strV) = strV (joinN a ys) := by
  show Builtin.Str.glued _ _ = _
  unfold Builtin.Str.glued
  cases ys with
  | nil => rfl
  | cons y ys =>
    simp only [List.map_cons, List.drop_succ_cons, List.drop_zero, List.headD_cons]
    rw [glue_fold]
section
variable {X : Cx} {G : Cf}
theorem fAppend_ok : MethS G rAppend fAppend := by
  intro et H h x v xs vs W Q rx rv R p
  unfold fAppend at p
  split at p
  · split at p
    · split at p
      · rename_i n y ys hx c
        obtain ⟨w, rfl, h1⟩ := list1 rv
        obtain ⟨a, us, h2, rfl, h3, h4⟩ := den_list R hx rx
        refine ⟨a, us, w, rfl, rfl, h3, ?_, ?_⟩
        · rw [h4.len, sizeLine_eq]; omega
        · have ex : Ext H (upd H a (.lst (us ++ [w]))) := Ext.mut h3 True.intro
          exact p et _ List.prefix_rfl ex (R.set hx h2 rfl h3 True.intro ⟨_, upd_same, (h4.app (denL_cons.mpr ⟨w, [], rfl, h1, by simp⟩)).mono List.prefix_rfl ex⟩) _ (by simp)
      · exact p.elim
    · exact p.elim
  · exact p.elim
theorem fExtend_ok : MethS G rExtendR fExtend := by
  intro et H h x v xs vs W Q rx rv R p
  unfold fExtend at p
  split at p
  · split at p
    · split at p
      · rename_i n y _ _ xs' ys hx hy c
        obtain ⟨w, rfl, h1⟩ := list1 rv
        obtain ⟨a, us, h2, rfl, h3, h4⟩ := den_list R hx rx
        obtain ⟨b, ws, rfl, k3, k4⟩ := ls_ok R hy h1
        refine ⟨a, b, us, ws, rfl, rfl, h3, k3, sz (by rw [h4.len, k4.len]; exact c), ?_⟩
        have ex : Ext H (upd H a (.lst (us ++ ws))) := Ext.mut h3 True.intro
        exact p et _ List.prefix_rfl ex (R.set hx h2 rfl h3 True.intro ⟨_, upd_same, (h4.app k4).mono List.prefix_rfl ex⟩) _ (by simp)
      · exact p.elim
    · exact p.elim
  · exact p.elim
theorem sum_len (ys : List (List Nat)) : ((ys.map strV).map (·.length)).sum = (ys.map List.length).sum := by
  rw [List.map_map]
  congr 1
theorem fJoin_ok : MethS G (fun x xs H Q => ∃ a p, ∃ ys : List Str, x = .str a ∧ xs = [.ref p] ∧ (SqL G.K H p (ys.map V.str) ∨ SqT G.K H p (ys.map V.str)) ∧ (ys.map (·.length)).sum + ys.length * a.length ≤ 16777216 ∧ Q (.str (Txt.join a ys)) H) fJoin := by
  intro et H h x v xs vs W Q rx rv R p
  unfold fJoin at p
  split at p
  · rename_i a y
    split at p
    · rename_i ys e
      split at p
      · rename_i c
        obtain ⟨w, rfl, h1⟩ := list1 rv
        simp only [Option.bind_eq_some_iff] at e
        obtain ⟨ds, e1, e2⟩ := e
        obtain ⟨q, us, rfl, h2, h3⟩ := seq_ok R e1 h1
        rw [allM_strs e2] at h3
        rw [h3.strs] at h2
        refine ⟨strV a, q, ys.map strV, den_str.mp rx, rfl, h2, ?_, ?_⟩
        · rw [sum_len, strV_length, List.length_map]; omega
        · exact p.here R _ (by simp [join_ok])
      · exact p.elim
    · exact p.elim
  · exact p.elim
end

/-! ### what a loop walks -/
inductive Src where
  | st (ds : List D)
  | ls (n : Nat)
  /-- what is read of the heap each time -/
  | dy (f : IH → Option (List D))
def Src.get : Src → IH → Nat → Option D
  | .st ds, _, i => ds[i]?
  | .ls n, h, i => (lstOf h (.ref n)).bind fun xs => xs[i]?
  | .dy f, h, i => (f h).bind fun xs => xs[i]?
def Src.ok : Src → IH → Bool
  | .st _, _ => true
  | .ls n, h => (lstOf h (.ref n)).isSome
  | .dy f, h => (f h).isSome
def Src.many : Src → IH → Nat
  | .st ds, _ => ds.length
  | .ls n, h => ((lstOf h (.ref n)).getD []).length
  | .dy f, h => ((f h).getD []).length
/-- the iterator J yields what the source tells -/
def JRel (G : Cf) (et0 : List Addr) (H0 : Hp) (src : Src) (J : It) : Prop := ∀ (et : List Addr) (H : Hp) (h : IH), et0 <+: et → Ext H0 H → HRel G et h H → src.ok h = true → ∀ i : Nat,
  match src.get h i with
  | some d => J.go i H ∧ ∀ x H', J.yld i H x H' → Ext H H' ∧ HRel G et h H' ∧ Den G et H' d x
  | none => J.stop i H
abbrev MI := EV → IH → R Src
def tI (G : Cf) (W : WX) (m : MI) : TI := fun σ H R => ∃ et env h, EnvR G et H env σ ∧ HRel G et h H ∧
  Pst G et H (m env h) (fun et' H' _ src => ∀ J, JRel G et' H' src J → R J H') (fun c d H' => W c d σ H')
theorem PI.imp {X : Cx} {tg iter : Expr} {w w' : TI} (h : PI X tg iter w) (k : ∀ σ H R, w' σ H R → w σ H R) : PI X tg iter w' := ⟨fun pins s σ H R I x => h.run pins s σ H R I (k σ H R x)⟩
abbrev MG := D → EV → Option EV
/-- the target's slots ws get what they get, no other slot changes -/
def OnlyS (ws : List Nat) (σ σ' : L2.St) : Prop := σ'.length = σ.length ∧ ∀ j, j ∉ ws → σ'[j]? = σ[j]?
def tG (G : Cf) (ws : List Nat) (g : MG) : TG := fun v σ H Q => ∃ et env h d, EnvR G et H env σ ∧ HRel G et h H ∧ Den G et H d v ∧ match g d env with
  | some env' => ∀ σ', OnlyS ws σ σ' → EnvR G et H env' σ' → Q σ' H
  | none => False
theorem PG.imp {X : Cx} {e : Expr} {w w' : TG} (h : PG X e w) (k : ∀ v σ H R, w' v σ H R → w v σ H R) : PG X e w' := ⟨fun pins s σ H v u R I r x => h.run pins s σ H v u R I r (k v σ H R x)⟩
def gSet (i : Nat) : MG := fun d env => some (env.set i (some d))
def gSets (is : List Nat) : MG := fun d env => match d with
  | .tup ds => if ds.length = is.length then some ((is.zip ds).foldl (fun e p => e.set p.1 (some p.2)) env) else none
  | .fl ds => if ds.length = is.length then some ((is.zip ds).foldl (fun e p => e.set p.1 (some p.2)) env) else none
  | _ => none
theorem PG.or {X : Cx} {e : Expr} {w w' : TG} (h : PG X e w) (h' : PG X e w') : PG X e (fun v σ H Q => w v σ H Q ∨ w' v σ H Q) := ⟨fun pins s σ H v u Q I r x => by
  rcases x with x | x
  · exact h.run pins s σ H v u Q I r x
  · exact h'.run pins s σ H v u Q I r x⟩
theorem OnlyS.refl (ws : List Nat) (σ : L2.St) : OnlyS ws σ σ := ⟨rfl, fun _ _ => rfl⟩
theorem OnlyS.set {ws : List Nat} {σ σ' : L2.St} (x : OnlyS ws σ σ') {i : Nat} (hi : i ∈ ws) (v : Option V) : OnlyS ws σ (σ'.set i v) :=
  ⟨by rw [List.length_set, x.1], fun j hj => by
    have hne : i ≠ j := fun z => hj (by rw [← z]; exact hi)
    rw [List.getElem?_set_ne hne]; exact x.2 j hj⟩
section
variable {X : Cx} {G : Cf} {W : WX} {e : Expr} {es : List Expr} {pos : Pos}
theorem mg_name (i : Nat) {x : Str} (hN : X.N.Nodup) (hi : X.N[i]? = some x := by rfl) (hx : Loc X.env.scope x := by first | exact Or.inl rfl | exact Or.inr rfl) (hf : X.fn x = true ∨ X.env.scope.names.lookup x = some .local := by first | exact .inl rfl | exact .inr rfl) :
    PG X (.Name x pos) (tG G [i] (gSet i)) := PG.imp (pg_name hN hi hx hf) fun v σ H Q ⟨et, env, h, d, hE, hH, hD, hP⟩ => by
  exact hP _ ((OnlyS.refl _ _).set (by simp) _) (hE.set i hD)
/-- several names -/
inductive PGN (X : Cx) (G : Cf) : List Nat → List Expr → TGs → Prop
  | nil : PGN X G [] [] gNil
  | cons {i : Nat} {is : List Nat} {e : Expr} {es : List Expr} {t : TGs} : PG X e (gName i) → PGN X G is es t → (assignEach (e :: es) X.env).map (·.2) = assign e X.env :: (assignEach es X.env).map (·.2) → PGN X G (i :: is) (e :: es) (gCons (gName i) t)
theorem PGN.pgs {is : List Nat} {es : List Expr} {t : TGs} (h : PGN X G is es t) : PGs X es t := by
  induction h with
  | nil => exact pgs_nil
  | cons h1 h2 h3 ih => exact pgs_cons h1 ih h3
theorem PGN.run {is : List Nat} {es : List Expr} {t : TGs} (h : PGN X G is es t) {et : List Addr} {H : Hp} {env : EV} {σ σ0 : L2.St} {ds : List D} {vs : List V} {ws : List Nat} {Q : L2.St → Hp → Prop} (hE : EnvR G et H env σ) (hD : DenL G et H ds vs) (hl : ds.length = is.length) (hw : ∀ i ∈ is, i ∈ ws)
    (ho : OnlyS ws σ0 σ) (q : ∀ σ', OnlyS ws σ0 σ' → EnvR G et H ((is.zip ds).foldl (fun e p => e.set p.1 (some p.2)) env) σ' → Q σ' H) : t vs σ H Q := by
  induction h generalizing env σ ds vs with
  | nil =>
    cases ds with
    | nil => rw [denL_nil] at hD; exact ⟨hD, q σ ho hE⟩
    | cons _ _ => simp at hl
  | cons h1 h2 h3 ih =>
    rename_i i is' e' es' t'
    cases ds with
    | nil => simp at hl
    | cons d ds =>
      obtain ⟨v, ws', rfl, r1, r2⟩ := denL_cons.mp hD
      refine ⟨v, ws', rfl, ?_⟩
      exact ih (hE.set i r1) r2 (by simpa using hl) (fun j hj => hw j (List.mem_cons_of_mem _ hj)) (ho.set (hw i List.mem_cons_self) _) q
theorem mg_tup {is : List Nat} {t : TGs} {k n : Nat} (hK : X.K = G.K) (hc : X.calm = true) (h : PGN X G is es t) (hln : is.length = n := by rfl) (hn : (assignEach es X.env).length = n := by rfl) (hst : (assignEach es X.env).findIdx? (·.1) = none := by rfl) :
    PG X (.Tuple es k pos) (tG G is (gSets is)) := PG.imp (PG.or (pg_tup hc h.pgs hn hst) (pg_unl hc h.pgs hn hst)) fun v σ H Q ⟨et, env, h0, d, hE, hH, hD, hP⟩ => by
  unfold gSets at hP
  cases d with
  | tup ds =>
    simp only at hP
    split at hP
    · rename_i hl
      split at hl
      · rename_i l
        obtain ⟨a, vs, rfl, r1, r2⟩ := den_tup.mp hD
        cases hl
        rw [hK]
        exact .inl ⟨a, vs, rfl, r1, by rw [r2.len, l, hln], h.run hE r2 l (fun i hi => hi) (OnlyS.refl _ _) fun σ' o hE' => hP σ' o hE'⟩
      · cases hl
    · exact hP.elim
  | fl ds =>
    simp only at hP
    split at hP
    · rename_i hl
      split at hl
      · rename_i l
        obtain ⟨a, vs, rfl, r1, r2⟩ := den_fl.mp hD
        cases hl
        rw [hK]
        exact .inr ⟨a, vs, rfl, r1.sq, by rw [r2.len, l, hln], h.run hE r2 l (fun i hi => hi) (OnlyS.refl _ _) fun σ' o hE' => hP σ' o hE'⟩
      · cases hl
    · exact hP.elim
  | _ => exact hP.elim
end
end NR

set_option Elab.async false
set_option linter.all false
set_option maxRecDepth 100000
/-! Loops, comprehensions. -/
namespace NR
open PySem PySem.Spec PyProof.Rows L2

/-! ### sources -/
/-- a list or a tuple or a text, as it comes -/
def iSeq (m : ME) : MI := fun env h => (m env h).bind fun x h1 => match x with
  | .ref n => if (lstOf h1 (.ref n)).isSome then .ok (.ls n) h1 else .no
  | .tup l => .ok (.st l) h1
  | .fl l => .ok (.st l) h1
  | .str s => if s.length ≤ 10000000 then .ok (.st (s.map fun c => .str [c])) h1 else .no
  | _ => .no
def intsFrom (lo : Int) (n : Nat) : List D := (List.range n).map fun i => .int (lo + (i : Nat))
def iRange1 (m : MA) : MI := fun env h => (m env h).bind fun xs h1 => match xs with
  | [.int j] => if -10000000 ≤ j ∧ j ≤ 10000000 then .ok (.st (intsFrom 0 j.toNat)) h1 else .no
  | _ => .no
def iRange2 (m : MA) : MI := fun env h => (m env h).bind fun xs h1 => match xs with
  | [.int i, .int j] => if -10000000 ≤ i ∧ i ≤ 10000000 ∧ -10000000 ≤ j ∧ j ≤ 10000000 then .ok (.st (intsFrom i (j - i).toNat)) h1 else .no
  | _ => .no
section
variable {X : Cx} {G : Cf} {W : WX} {e tg : Expr} {es : List Expr} {me : ME} {mt : MA} {pos p : Pos}
/-- a walk of what e holds: a list, a tuple, a text (the reading takes any of the three) -/
theorem pi_any {te : TE} (he : PE X e te) : PI X tg e (fun σ H R => iList X.K te σ H R ∨ iTup X.K te σ H R ∨ iStr te σ H R) :=
  ⟨fun pins s σ H R I x => by
    rcases x with x | x | x
    · exact (pi_list he).run pins s σ H R I x
    · exact (pi_tup he).run pins s σ H R I x
    · exact (pi_str he).run pins s σ H R I x⟩
theorem jrel_list {et : List Addr} {H : Hp} {n : Nat} {a : Addr} (e : et[n]? = some a) : JRel G et H (.ls n) (Itl G.K a) := by
  intro et1 H1 h1 p ex R ok i
  have e1 : et1[n]? = some a := by
    obtain ⟨t, rfl⟩ := p
    rw [List.getElem?_append_left (List.getElem?_eq_some_iff.mp e).1]
    exact e
  have ok' : (lstOf h1 (.ref n)).isSome = true := ok
  obtain ⟨xs, hx⟩ := Option.isSome_iff_exists.mp ok'
  obtain ⟨b, vs, hb, h2, h3⟩ := lst_ok R hx (den_ref.mpr ⟨a, e1, rfl⟩)
  cases hb
  show match (lstOf h1 (.ref n)).bind fun xs => xs[i]? with
    | some d => _
    | none => _
  rw [hx]
  show match xs[i]? with
    | some d => _
    | none => _
  cases hd : xs[i]? with
  | some d =>
    obtain ⟨v, hv, r⟩ := h3.get hd
    refine ⟨⟨vs, v, h2, hv⟩, fun x H' ⟨hH, hy⟩ => ?_⟩
    rw [hH]
    have := hy vs h2
    rw [hv] at this
    cases this
    exact ⟨Ext.refl _, R, r⟩
  | none =>
    refine ⟨vs, h2, ?_⟩
    rw [h3.len]
    exact List.getElem?_eq_none_iff.mp hd
theorem jrel_st {et : List Addr} {H : Hp} {l : List D} {J : It} (k : ∀ (et1 : List Addr) (H1 : Hp) (h1 : IH), et <+: et1 → Ext H H1 → HRel G et1 h1 H1 → ∀ i : Nat, match l[i]? with
    | some d => J.go i H1 ∧ ∀ x H', J.yld i H1 x H' → Ext H1 H' ∧ HRel G et1 h1 H' ∧ Den G et1 H' d x
    | none => J.stop i H1) : JRel G et H (.st l) J := fun et1 H1 h1 p ex R _ i => k et1 H1 h1 p ex R i
theorem mi_seq (hK : X.K = G.K) (he : PE X e (tE G W me)) : PI X tg e (tI G W (iSeq me)) := PI.imp (pi_any he) fun σ H R ⟨et, env, h, hE, hH, hP⟩ => by
  unfold iSeq at hP
  rw [hK]
  cases hr : me env h with
  | no => rw [hr] at hP; exact hP.elim
  | ex c d h1 =>
    rw [hr] at hP
    exact .inl ⟨et, env, h, hE, hH, by rw [hr]; exact hP⟩
  | ok x h1 =>
    rw [hr] at hP
    cases x with
    | ref n =>
      refine .inl ⟨et, env, h, hE, hH, ?_⟩
      rw [hr]
      refine fun et1 H1 p e R1 v hv => ?_
      obtain ⟨a, ha, rfl⟩ := den_ref.mp hv
      have q : Pst G et H (if (lstOf h1 (.ref n)).isSome then NR.R.ok (Src.ls n) h1 else .no) (fun et' H' _ src => ∀ J, JRel G et' H' src J → R J H') (fun c d H' => W c d σ H') := hP
      split at q
      · rename_i ok
        obtain ⟨xs, hx⟩ := Option.isSome_iff_exists.mp ok
        obtain ⟨b, vs, hb, h2, h3⟩ := lst_ok R1 hx hv
        cases hb
        exact ⟨a, rfl, ⟨vs, h2⟩, q et1 H1 p e R1 _ (jrel_list ha)⟩
      · exact q.elim
    | tup l =>
      refine .inr (.inl ⟨et, env, h, hE, hH, ?_⟩)
      rw [hr]
      refine fun et1 H1 p e R1 v hv => ?_
      obtain ⟨a, vs, rfl, h2, h3⟩ := den_tup.mp hv
      refine ⟨a, rfl, ⟨vs, h2⟩, hP et1 H1 p e R1 _ (jrel_st fun et2 H2 h2' p2 e2 R2 i => ?_)⟩
      cases hd : l[i]? with
      | none =>
        refine ⟨vs, e2.sqT h2, ?_⟩
        rw [h3.len]
        exact List.getElem?_eq_none_iff.mp hd
      | some d =>
        obtain ⟨v, hv, r⟩ := h3.get hd
        refine ⟨⟨vs, v, e2.sqT h2, hv⟩, fun x H' ⟨hH, hy⟩ => ?_⟩
        rw [hH]
        have := hy vs (e2.sqT h2)
        rw [hv] at this
        cases this
        exact ⟨Ext.refl _, R2, r.mono p2 e2⟩
    | fl l =>
      refine .inl ⟨et, env, h, hE, hH, ?_⟩
      rw [hr]
      refine fun et1 H1 p e R1 v hv => ?_
      obtain ⟨a, vs, rfl, h2, h3⟩ := den_fl.mp hv
      refine ⟨a, rfl, ⟨vs, h2.sq⟩, hP et1 H1 p e R1 _ (jrel_st fun et2 H2 h2' p2 e2 R2 i => ?_)⟩
      cases hd : l[i]? with
      | none =>
        refine ⟨vs, (h2.ext e2).sq, ?_⟩
        rw [h3.len]
        exact List.getElem?_eq_none_iff.mp hd
      | some d =>
        obtain ⟨v, hv, r⟩ := h3.get hd
        refine ⟨⟨vs, v, (h2.ext e2).sq, hv⟩, fun x H' ⟨hH, hy⟩ => ?_⟩
        rw [hH]
        have := hy vs (h2.ext e2).sq
        rw [hv] at this
        cases this
        exact ⟨Ext.refl _, R2, r.mono p2 e2⟩
    | str s =>
      refine .inr (.inr ⟨et, env, h, hE, hH, ?_⟩)
      rw [hr]
      refine fun et1 H1 p e R1 v hv => ?_
      have q : Pst G et H (if s.length ≤ 10000000 then NR.R.ok (Src.st (s.map fun c => .str [c])) h1 else .no) (fun et' H' _ src => ∀ J, JRel G et' H' src J → R J H') (fun c d H' => W c d σ H') := hP
      split at q
      · refine ⟨strV s, den_str.mp hv, q et1 H1 p e R1 _ (jrel_st fun et2 H2 h2' p2 e2 R2 i => ?_)⟩
        rw [List.getElem?_map]
        cases hs : s[i]? with
        | none =>
          show (strV s).cps.size ≤ i
          simp [strV]
          exact List.getElem?_eq_none_iff.mp hs
        | some c =>
          refine ⟨?_, fun x H' ⟨hH, c', hc, hx⟩ => ?_⟩
          · show i < (strV s).cps.size
            simp [strV]
            exact (List.getElem?_eq_some_iff.mp hs).1
          · subst hx
            rw [hH]
            have : c' = c := by
              have h5 : s[i]? = some c' := by simpa [strV] using hc
              rw [hs] at h5
              exact (Option.some.inj h5).symm
            subst this
            exact ⟨Ext.refl _, R2, by simp [strV]⟩
      · exact q.elim
    | _ => exact hP.elim
theorem ints_get (lo : Int) (n i : Nat) : (intsFrom lo n)[i]? = if i < n then some (.int (lo + (i : Nat))) else none := by
  unfold intsFrom
  rw [List.getElem?_map]
  by_cases h : i < n
  · rw [if_pos h, List.getElem?_range h]
    rfl
  · rw [if_neg h, List.getElem?_eq_none (by simpa using h)]
    rfl
theorem jrel_ints {et : List Addr} {H : Hp} {lo : Int} {n : Nat} : JRel G et H (.st (intsFrom lo n)) (Itr lo n) := jrel_st fun et1 H1 h1 p ex R i => by
  rw [ints_get]
  by_cases h : i < n
  · rw [if_pos h]
    refine ⟨h, fun x H' ⟨hH, hx⟩ => ?_⟩
    rw [hH, hx]
    exact ⟨Ext.refl _, R, by simp⟩
  · rw [if_neg h]
    show n ≤ i
    omega
theorem mi_range1 {a : Expr} (ha : PA X [a] (tA G W mt)) (hm : X.mg "range" = none) (hg : Gl X "range" := by rfl) (hs : starEach [a] X.env = [(false, eval a X.env)] := by rfl) : PI X tg (.Call (.Name "range" p) [a] [] pos) (tI G W (iRange1 mt)) :=
  PI.imp (pi_range1 hg hm ha hs) fun σ H R ⟨et, env, h, hE, hH, hP⟩ => by
    refine ⟨et, env, h, hE, hH, (Pst.of_bind hP).imp fun et1 H1 h1 xs p e hr q vs hv => ?_⟩
    split at q
    · split at q
      · rename_i j c
        obtain ⟨v, rfl, r⟩ := list1 hv
        exact ⟨j, by rw [den_int.mp r], by omega, by omega, q.here hr _ jrel_ints⟩
      · exact q.elim
    · exact q.elim
theorem mi_range2 {a b : Expr} (ha : PA X [a, b] (tA G W mt)) (hm : X.mg "range" = none) (hg : Gl X "range" := by rfl) (hs : starEach [a, b] X.env = [(false, eval a X.env), (false, eval b X.env)] := by rfl) (hs2 : starEach [b] X.env = [(false, eval b X.env)] := by rfl) : PI X tg (.Call (.Name "range" p) [a, b] [] pos) (tI G W (iRange2 mt)) :=
  PI.imp (pi_range2 hg hm ha hs hs2) fun σ H R ⟨et, env, h, hE, hH, hP⟩ => by
    refine ⟨et, env, h, hE, hH, (Pst.of_bind hP).imp fun et1 H1 h1 xs p e hr q vs hv => ?_⟩
    split at q
    · split at q
      · rename_i i j c
        obtain ⟨v, w, rfl, r1, r2⟩ := list2 hv
        exact ⟨i, j, by rw [den_int.mp r1, den_int.mp r2], by omega, q.here hr _ jrel_ints⟩
      · exact q.elim
    · exact q.elim
end

/-! ### for -/
def forM (src : Src) (g : MG) (b : MS) : Nat → Nat → EV → IH → RS
  | 0, _, _, _ => .no
  | m + 1, i, env, h => if src.ok h = true then (match src.get h i with
    | none => .nx env h
    | some d => match g d env with
      | none => .no
      | some e1 => match b e1 h with
        | .nx e2 h2 => forM src g b m (i + 1) e2 h2
        | .ct e2 h2 => forM src g b m (i + 1) e2 h2
        | .bk e2 h2 => .nx e2 h2
        | r => r) else .no
def msFor (it : MI) (g : MG) (b : MS) : MS := fun env h => (it env h).bindS env fun src h1 => forM src g b (src.many h1 + 1) 0 env h1
section
variable {X : Cx} {G : Cf} {W : WX} {iter tg : Expr} {body : List Stmt} {it : MI} {g : MG} {ws : List Nat} {b : MS} {pos : Pos}
theorem ms_for (hc : X.calm = true) (hp : PassesOwn (model X.prog X.w) X.A X.env X.xe) (hi : PI X tg iter (tI G W it)) (hg : PG X tg (tG G ws g)) (hb : PSs X body (tS G W b)) (hs : ∀ x, foldedSetIterable iter X.env x = pure x := by intro _; rfl) :
    PS X (.For tg iter body [] pos) (tS G W (msFor it g b)) := PS.imp (ps_for hp hc hi hg hb hs) fun D σ H ⟨et, env, h, hE, hH, hP⟩ => by
  refine ⟨et, env, h, hE, hH, (PstS.of_bind hE hP).imp fun et1 H1 h1 src p e hr q J hJ => ?_⟩
  refine ⟨fun i m σ H => ∃ et2 env h, et1 <+: et2 ∧ Ext H1 H ∧ EnvR G et2 H env σ ∧ HRel G et2 h H ∧ PstS G et2 H (forM src g b m i env h) D W, ⟨_, et1, env, h1, List.prefix_rfl, Ext.refl _, hE.mono p e, hr, q⟩, fun i m σ H ⟨et2, env, h, pp, ee, hE2, hr2, q2⟩ => ?_⟩
  cases m with
  | zero => exact q2.elim
  | succ m =>
    unfold forM at q2
    split at q2
    · rename_i hok
      have j := hJ et2 H h pp ee hr2 hok i
      revert j q2
      cases hd : src.get h i with
      | none =>
        intro q2 j
        exact .inl ⟨j, q2 et2 H σ List.prefix_rfl (Ext.refl _) hr2 hE2⟩
      | some d =>
        intro q2 j
        dsimp only at q2
        refine .inr ⟨j.1, fun σ' H' => ∃ et3 env3 h3, et1 <+: et3 ∧ Ext H1 H' ∧ EnvR G et3 H' env3 σ' ∧ HRel G et3 h3 H' ∧ PstS G et3 H' (forM src g b m (i + 1) env3 h3) D W, fun σ' H' x => ⟨m, Nat.lt_succ_self m, x⟩, fun x H' hy => ?_⟩
        obtain ⟨ex, hr3, hx⟩ := j.2 x H' hy
        refine ⟨et2, env, h, d, hE2.mono List.prefix_rfl ex, hr3, hx, ?_⟩
        cases hgd : g d env with
        | none => rw [hgd] at q2; exact q2.elim
        | some e1 =>
          rw [hgd] at q2
          dsimp only at q2
          refine fun σ' _ hE' => ⟨et2, e1, h, hE', hr3, ?_⟩
          have q3 := q2
          revert q3
          cases hbr : b e1 h with
          | nx e2 h2 => exact fun q3 et' H'' σ'' p3 e3 hr4 hE4 => ⟨et', e2, h2, pp.trans p3, (ee.trans ex).trans e3, hE4, hr4, PstS.weak p3 (ex.trans e3) q3⟩
          | ct e2 h2 => exact fun q3 et' H'' σ'' p3 e3 hr4 hE4 => ⟨et', e2, h2, pp.trans p3, (ee.trans ex).trans e3, hE4, hr4, PstS.weak p3 (ex.trans e3) q3⟩
          | bk e2 h2 => exact fun q3 et' H'' σ'' p3 e3 hr4 hE4 => q3 et' H'' σ'' p3 (ex.trans e3) hr4 hE4
          | rt d2 h2 => exact fun q3 et' H'' v p3 e3 hr4 hv => q3 et' H'' v p3 (ex.trans e3) hr4 hv
          | ex c d2 e2 h2 => exact fun q3 et' H'' σ'' cls dd p3 e3 hr4 hE4 hx => q3 et' H'' σ'' cls dd p3 (ex.trans e3) hr4 hE4 hx
          | no => exact fun q3 => q3
    · exact q2.elim
end

/-! ### while -/
def whN (c : MT) (b : MS) : Nat → EV → IH → Option RS
  | 0, _, _ => none
  | k + 1, env, h => match c env h with
    | .ok true h1 => match b env h1 with
      | .nx e2 h2 => whN c b k e2 h2
      | .ct e2 h2 => whN c b k e2 h2
      | .bk e2 h2 => some (.nx e2 h2)
      | r => some r
    | .ok false h1 => some (.nx env h1)
    | .ex cl d h1 => some (.ex cl d env h1)
    | .no => some .no
open Classical in
noncomputable def msWhile (c : MT) (b : MS) : MS := fun env h => if x : ∃ r, ∃ k, whN c b k env h = some r then x.choose else .no
theorem whN_mono {c : MT} {b : MS} : ∀ {k j : Nat} {env : EV} {h : IH} {r : RS}, whN c b k env h = some r → k ≤ j → whN c b j env h = some r
  | 0, _, _, _, _, e, _ => by simp [whN] at e
  | k + 1, 0, _, _, _, _, l => absurd l (Nat.not_succ_le_zero _)
  | k + 1, j + 1, env, h, r, e, l => by
    unfold whN at e ⊢
    have l' : k ≤ j := Nat.le_of_succ_le_succ l
    revert e
    cases c env h with
    | ok a h1 =>
      cases a with
      | false => exact fun e => e
      | true =>
        dsimp only
        cases b env h1 with
        | nx e2 h2 => exact fun e => whN_mono e l'
        | ct e2 h2 => exact fun e => whN_mono e l'
        | bk e2 h2 => exact fun e => e
        | rt d2 h2 => exact fun e => e
        | ex c d2 e2 h2 => exact fun e => e
        | no => exact fun e => e
    | ex cl d h1 => exact fun e => e
    | no => exact fun e => e
theorem msWhile_of {c : MT} {b : MS} {k : Nat} {env : EV} {h : IH} {r : RS} (e : whN c b k env h = some r) : msWhile c b env h = r := by
  unfold msWhile
  have x : ∃ r, ∃ k, whN c b k env h = some r := ⟨r, k, e⟩
  rw [dif_pos x]
  obtain ⟨j, hj⟩ := x.choose_spec
  have h1 := whN_mono e (Nat.le_max_left k j)
  have h2 := whN_mono hj (Nat.le_max_right k j)
  rw [h1] at h2
  exact (Option.some.inj h2).symm
/-- one turn of a while -/
theorem msWhile_eq (c : MT) (b : MS) (env : EV) (h : IH) : msWhile c b env h = match c env h with
    | .ok true h1 => match b env h1 with
      | .nx e2 h2 => msWhile c b e2 h2
      | .ct e2 h2 => msWhile c b e2 h2
      | .bk e2 h2 => .nx e2 h2
      | r => r
    | .ok false h1 => .nx env h1
    | .ex cl d h1 => .ex cl d env h1
    | .no => .no := by
  have go : ∀ e2 h2, (∀ k, whN c b (k + 1) env h = whN c b k e2 h2) → msWhile c b env h = msWhile c b e2 h2 := fun e2 h2 hk => by
    by_cases x : ∃ r, ∃ k, whN c b k e2 h2 = some r
    · obtain ⟨r, k, e⟩ := x
      rw [msWhile_of e]
      exact msWhile_of (k := k + 1) (by rw [hk]; exact e)
    · have y : ¬ ∃ r, ∃ k, whN c b k env h = some r := fun ⟨r, k, e⟩ => by
        cases k with
        | zero => simp [whN] at e
        | succ k => rw [hk] at e; exact x ⟨r, k, e⟩
      unfold msWhile
      rw [dif_neg x, dif_neg y]
  cases hc : c env h with
  | ok a h1 =>
    cases a with
    | false => exact msWhile_of (k := 1) (by unfold whN; rw [hc])
    | true =>
      dsimp only
      cases hb : b env h1 with
      | nx e2 h2 => exact go e2 h2 fun k => by conv => lhs; unfold whN; rw [hc]; dsimp only; rw [hb]
      | ct e2 h2 => exact go e2 h2 fun k => by conv => lhs; unfold whN; rw [hc]; dsimp only; rw [hb]
      | bk e2 h2 => exact msWhile_of (k := 1) (by unfold whN; rw [hc]; dsimp only; rw [hb])
      | rt d2 h2 => exact msWhile_of (k := 1) (by unfold whN; rw [hc]; dsimp only; rw [hb])
      | ex cl d2 e2 h2 => exact msWhile_of (k := 1) (by unfold whN; rw [hc]; dsimp only; rw [hb])
      | no => exact msWhile_of (k := 1) (by unfold whN; rw [hc]; dsimp only; rw [hb])
  | ex cl d h1 => exact msWhile_of (k := 1) (by unfold whN; rw [hc])
  | no => exact msWhile_of (k := 1) (by unfold whN; rw [hc])
section
variable {X : Cx} {G : Cf} {W : WX} {c : Expr} {body : List Stmt} {mc : MT} {b : MS} {pos : Pos}
theorem ms_while (hp : PassesOwn (model X.prog X.w) X.A X.env X.xe) (hc : PT X c (tT G W mc)) (hb : PSs X body (tS G W b)) : PS X (.While c body [] pos) (tS G W (msWhile mc b)) := PS.imp (ps_while hp hc hb) fun D σ H ⟨et, env, h, hE, hH, hP⟩ => by
  unfold msWhile at hP
  split at hP
  · rename_i x
    refine ⟨fun m σ H => ∃ et env h r, EnvR G et H env σ ∧ HRel G et h H ∧ whN mc b m env h = some r ∧ PstS G et H r D W, ⟨_, et, env, h, _, hE, hH, x.choose_spec.choose_spec, hP⟩, ?_⟩
    rintro m σ H ⟨et, env, h, r, hE, hH, e, hP⟩
    cases m with
    | zero => simp [whN] at e
    | succ m =>
      unfold whN at e
      refine ⟨et, env, h, hE, hH, ?_⟩
      revert e
      cases mc env h with
      | ok a h1 =>
        cases a with
        | false =>
          intro e
          cases e
          exact fun et1 H1 p ex hr => (show D.nx σ H1 from hP et1 H1 σ p ex hr (hE.mono p ex))
        | true =>
          intro e et1 H1 p ex hr
          dsimp only
          rw [if_pos rfl]
          refine ⟨fun σ' H' => ∃ et env h r, EnvR G et H' env σ' ∧ HRel G et h H' ∧ whN mc b m env h = some r ∧ PstS G et H' r D W, fun σ' H' x => ⟨m, Nat.lt_succ_self m, x⟩, et1, env, h1, hE.mono p ex, hr, ?_⟩
          dsimp only at e
          revert e
          cases hb : b env h1 with
          | nx e2 h2 => exact fun e et2 H2 σ2 p2 ex2 hr2 hE2 => ⟨et2, e2, h2, r, hE2, hr2, e, PstS.weak (p.trans p2) (ex.trans ex2) hP⟩
          | ct e2 h2 => exact fun e et2 H2 σ2 p2 ex2 hr2 hE2 => ⟨et2, e2, h2, r, hE2, hr2, e, PstS.weak (p.trans p2) (ex.trans ex2) hP⟩
          | bk e2 h2 => intro e; cases e; exact fun et2 H2 σ2 p2 ex2 hr2 hE2 => hP et2 H2 σ2 (p.trans p2) (ex.trans ex2) hr2 hE2
          | rt d2 h2 => intro e; cases e; exact fun et2 H2 v p2 ex2 hr2 hv => hP et2 H2 v (p.trans p2) (ex.trans ex2) hr2 hv
          | ex cl d2 e2 h2 => intro e; cases e; exact fun et2 H2 σ2 cls dd p2 ex2 hr2 hE2 hx => hP et2 H2 σ2 cls dd (p.trans p2) (ex.trans ex2) hr2 hE2 hx
          | no => intro e; cases e; exact hP.elim
      | ex cl d h1 => intro e; cases e; exact fun et1 H1 cls dd p ex hr hx => hP et1 H1 σ cls dd p ex hr (hE.mono p ex) hx
      | no => intro e; cases e; exact hP.elim
  · exact hP.elim
end
end NR

set_option Elab.async false
set_option linter.all false
set_option maxRecDepth 100000
/-! Comprehensions, isinstance, the end. -/
namespace NR
open PySem PySem.Spec PyProof.Rows L2

def wipeE (env : EV) : List Nat → EV
  | [] => env
  | v :: vs => (wipeE env vs).set v none
abbrev W0 : WX := fun _ _ _ _ => False
theorem wipe_get (σ : L2.St) (j : Nat) : ∀ vs : List Nat, (wipe σ vs)[j]? = if j ∈ vs then (if j < σ.length then some none else none) else σ[j]?
  | [] => by simp [wipe]
  | v :: vs => by
    unfold wipe
    by_cases h : v = j
    · subst h
      rw [if_pos List.mem_cons_self]
      by_cases hl : v < σ.length
      · rw [List.getElem?_set_self (by rw [wipe_length]; exact hl), if_pos hl]
      · rw [List.getElem?_eq_none (by rw [List.length_set, wipe_length]; omega), if_neg hl]
    · rw [List.getElem?_set_ne h, wipe_get σ j vs]
      have : (j ∈ v :: vs) ↔ j ∈ vs := by
        rw [List.mem_cons]
        exact ⟨fun z => z.elim (fun z => absurd z.symm h) id, .inr⟩
      simp only [this]
theorem wipe_again {σ σ2 : L2.St} {vs : List Nat} (h : OnlyS vs (wipe σ vs) σ2) : wipe σ2 vs = wipe σ vs := by
  apply List.ext_getElem?
  intro j
  rw [wipe_get, wipe_get]
  have hl : σ2.length = σ.length := by rw [h.1, wipe_length]
  by_cases hj : j ∈ vs
  · rw [if_pos hj, if_pos hj, hl]
  · rw [if_neg hj, if_neg hj, h.2 j hj, wipe_out hj]
theorem EnvR.wipe {G : Cf} {et : List Addr} {H : Hp} {env : EV} {σ : L2.St} (x : EnvR G et H env σ) : ∀ vs : List Nat, EnvR G et H (wipeE env vs) (wipe σ vs)
  | [] => x
  | v :: vs => by
    have ih := x.wipe vs
    unfold wipeE L2.wipe
    refine ⟨by simp [ih.1], fun i d e => ?_⟩
    by_cases h : v = i
    · subst h
      by_cases hl : v < (wipeE env vs).length
      · rw [List.getElem?_set_self hl] at e; cases e
      · rw [List.getElem?_eq_none (by rw [List.length_set]; omega)] at e; cases e
    · rw [List.getElem?_set_ne h] at e
      obtain ⟨u, a, b⟩ := ih.2 i d e
      exact ⟨u, by rw [List.getElem?_set_ne h]; exact a, b⟩
def mYes : MT := fun _ h => .ok true h
def lcM (src : Src) (g : MG) (t : MT) (e : ME) (n : Nat) : Nat → Nat → EV → IH → R D
  | 0, _, _, _ => .no
  | m + 1, i, env, h => if src.ok h = true then (match src.get h i with
    | none => .ok (.ref n) h
    | some d => match g d env with
      | none => .no
      | some e1 => match t e1 h with
        | .ok true h2 => match e e1 h2 with
          | .ok y h3 => match h3[n]? with
            | some (.lst acc) => if acc.length < 10000000 then lcM src g t e n m (i + 1) env (h3.set n (.lst (acc ++ [y]))) else .no
            | _ => .no
          | _ => .no
        | .ok false h2 => lcM src g t e n m (i + 1) env h2
        | _ => .no) else .no
def mLc (it : MI) (g : MG) (t : MT) (e : ME) (ws : List Nat) : ME := fun env h => (it env h).bind fun src h1 => lcM src g t e h1.length (src.many h1 + 1) 0 (wipeE env ws) (h1 ++ [.lst []])
section
variable {X : Cx} {G : Cf} {W : WX} {elt tg iter : Expr} {ifs : List Expr} {scope : Scope} {own : List (Str × Nat)} {it : MI} {g : MG} {t : MT} {e : ME} {pos : Pos}
theorem mts_nil : PTs X [] (tT G W mYes) := ⟨fun pins s σ H Q I ⟨et, env, h, hE, hH, hP⟩ => pts_nil.run pins s σ H Q I (show Q true H from hP.here hH)⟩
theorem mts_one {c : Expr} {m : MT} (h : PT X c (tT G W m)) : PTs X [c] (tT G W m) := pts_one h
theorem tLc_of {σ : L2.St} {H : Hp} {Q : VK} (x : tE G W (mLc it g t e (own.map (·.2))) σ H Q) : tLc (tI G W it) (tG G (own.map (·.2)) g) (tT G W0 t) (tE G W0 e) (own.map (·.2)) σ H Q := by
  obtain ⟨et, env, h, hE, hH, hP⟩ := x
  refine ⟨et, env, h, hE, hH, (Pst.of_bind hP).imp fun et1 H1 h1 src p ex hr q J hJ Dd hD => ?_⟩
  have pf : et1 <+: et1 ++ [Dd] := List.prefix_append _ _
  have ex0 : Ext H1 (upd H1 Dd (.lst [])) := Ext.new hD
  have hr0 : HRel G (et1 ++ [Dd]) (h1 ++ [.lst []]) (upd H1 Dd (.lst [])) := hr.push hD ⟨[], upd_same, by simp⟩
  have hE0 : EnvR G (et1 ++ [Dd]) (upd H1 Dd (.lst [])) env σ := (hE.mono p ex).mono pf ex0
  have at0 : (et1 ++ [Dd])[h1.length]? = some Dd := by
    rw [← hr.len, List.getElem?_append_right (Nat.le_refl _), Nat.sub_self]
    rfl
  refine ⟨fun i m H => ∃ et2 h, et1 ++ [Dd] <+: et2 ∧ Ext H1 H ∧ EnvR G et2 H (wipeE env (own.map (·.2))) (wipe σ (own.map (·.2))) ∧ HRel G et2 h H ∧ Pst G et2 H (lcM src g t e h1.length m i (wipeE env (own.map (·.2))) h) (fun et' H' _ d => ∀ v, Den G et' H' d v → Q v H') (fun c d H' => W c d σ H'),
    ⟨_, et1 ++ [Dd], h1 ++ [.lst []], List.prefix_rfl, ex0, hE0.wipe _, hr0, Pst.weak pf ex0 q⟩, fun i m H ⟨et2, h, pp, ee, hE2, hr2, q2⟩ => ?_⟩
  have at2 : et2[h1.length]? = some Dd := by
    obtain ⟨t2, rfl⟩ := pp
    rw [List.getElem?_append_left (List.getElem?_eq_some_iff.mp at0).1]
    exact at0
  cases m with
  | zero => exact q2.elim
  | succ m =>
    unfold lcM at q2
    split at q2
    · rename_i hok
      have j := hJ et2 H h (pf.trans pp) ee hr2 hok i
      revert j q2
      cases hd : src.get h i with
      | none =>
        intro q2 j
        exact .inl ⟨j, q2.here hr2 _ (den_ref.mpr ⟨Dd, at2, rfl⟩)⟩
      | some d =>
        intro q2 j
        dsimp only at q2
        refine .inr ⟨j.1, fun H' => ∃ et3 h3, et1 ++ [Dd] <+: et3 ∧ Ext H1 H' ∧ EnvR G et3 H' (wipeE env (own.map (·.2))) (wipe σ (own.map (·.2))) ∧ HRel G et3 h3 H' ∧ Pst G et3 H' (lcM src g t e h1.length m (i + 1) (wipeE env (own.map (·.2))) h3) (fun et' H' _ d => ∀ v, Den G et' H' d v → Q v H') (fun c d H' => W c d σ H'),
          fun H' x => ⟨m, Nat.lt_succ_self m, x⟩, fun x H' hy => ?_⟩
        obtain ⟨ex1, hr3, hx⟩ := j.2 x H' hy
        have hE3 := hE2.mono List.prefix_rfl ex1
        refine ⟨et2, _, h, d, hE3, hr3, hx, ?_⟩
        cases hgd : g d (wipeE env (own.map (·.2))) with
        | none => rw [hgd] at q2; exact q2.elim
        | some e1 =>
          rw [hgd] at q2
          dsimp only at q2
          refine fun σ2 o2 hE4 => ⟨wipe_again o2, et2, e1, h, hE4, hr3, ?_⟩
          revert q2
          cases ht : t e1 h with
          | no => exact fun q2 => q2
          | ex _ _ _ => exact fun q2 => q2.elim
          | ok b h2 =>
            cases b with
            | false =>
              intro q2 et4 H4 p4 ex4 hr4
              dsimp only
              rw [if_neg Bool.false_ne_true]
              exact ⟨et4, h2, pp.trans p4, (ee.trans ex1).trans ex4, hE3.mono p4 ex4, hr4, Pst.weak p4 (ex1.trans ex4) q2⟩
            | true =>
              intro q2 et4 H4 p4 ex4 hr4
              dsimp only at q2 ⊢
              rw [if_pos rfl]
              refine ⟨et4, e1, h2, hE4.mono p4 ex4, hr4, ?_⟩
              revert q2
              cases he : e e1 h2 with
              | no => exact fun q2 => q2
              | ex _ _ _ => exact fun q2 => q2.elim
              | ok y h3 =>
                intro q2 et5 H5 p5 ex5 hr5 v hv
                dsimp only at q2
                split at q2
                · rename_i acc hacc
                  split at q2
                  · rename_i hl
                    have at5 : et5[h1.length]? = some Dd := by
                      obtain ⟨t5, rfl⟩ := p4.trans p5
                      rw [List.getElem?_append_left (List.getElem?_eq_some_iff.mp at2).1]
                      exact at2
                    obtain ⟨us, hus, dus⟩ := hr5.cell _ _ _ hacc at5
                    have ex6 : Ext H5 (upd H5 Dd (.lst (us ++ [v]))) := Ext.mut hus True.intro
                    have hr6 := hr5.set (u := .lst (us ++ [v])) (c' := .lst (acc ++ [y])) hacc at5 rfl hus True.intro ⟨_, upd_same, (dus.app (denL_cons.mpr ⟨v, [], rfl, hv, by simp⟩)).mono List.prefix_rfl ex6⟩
                    refine ⟨us, hus, by rw [dus.len, sizeLine_eq]; omega, et5, _, (pp.trans p4).trans p5, (((ee.trans ex1).trans ex4).trans ex5).trans ex6, ((hE3.mono p4 ex4).mono p5 ex5).mono List.prefix_rfl ex6, hr6, ?_⟩
                    exact Pst.weak (p4.trans p5) (((ex1.trans ex4).trans ex5).trans ex6) q2
                  · exact q2.elim
                · exact q2.elim
    · exact q2.elim
theorem me_lc (hc : X.calm = true) (hN : X.N.Nodup) (hi : PI X tg iter (tI G W it)) (ok : BlkOk X.N X.env.scope scope own)
    (hg : ∀ (s : Shared) (H : Hp) (C : Addr) (cl : List (Str × Addr)) (fp : List Addr), PG (X.blk s H scope (compEnvC scope cl C X.env) fp) tg (tG G (own.map (·.2)) g))
    (ht : ∀ (s : Shared) (H : Hp) (C : Addr) (cl : List (Str × Addr)) (fp : List Addr), PTs (X.blk s H scope (compEnvC scope cl C X.env) fp) ifs (tT G W0 t))
    (he : ∀ (s : Shared) (H : Hp) (C : Addr) (cl : List (Str × Addr)) (fp : List Addr), PE (X.blk s H scope (compEnvC scope cl C X.env) fp) elt (tE G W0 e)) (hs : ∀ x, foldedSetIterable iter X.env x = pure x := by intro _; rfl) :
    PE X (.ListComp elt [⟨tg, iter, ifs, 0⟩] scope pos) (tE G W (mLc it g t e (own.map (·.2)))) := PE.imp (pe_lc hc hN hi ok hg ht he hs) fun _ _ _ x => tLc_of x
theorem ms_setLc (i : Nat) {y : Str} {py spos : Pos} (hc : X.calm = true) (hN : X.N.Nodup) (hi : PI X tg iter (tI G W it)) (ok : BlkOk X.N X.env.scope scope own)
    (hg : ∀ (s : Shared) (H : Hp) (C : Addr) (cl : List (Str × Addr)) (fp : List Addr), PG (X.blk s H scope (compEnvC scope cl C X.env) fp) tg (tG G (own.map (·.2)) g))
    (ht : ∀ (s : Shared) (H : Hp) (C : Addr) (cl : List (Str × Addr)) (fp : List Addr), PTs (X.blk s H scope (compEnvC scope cl C X.env) fp) ifs (tT G W0 t))
    (he : ∀ (s : Shared) (H : Hp) (C : Addr) (cl : List (Str × Addr)) (fp : List Addr), PE (X.blk s H scope (compEnvC scope cl C X.env) fp) elt (tE G W0 e))
    (hsw : swapsWith (.ListComp elt [⟨tg, iter, ifs, 0⟩] scope pos) (some (.Name y py)) spos.line X.env = pure true) (hy : X.N[i]? = some y := by rfl) (hyl : X.env.scope.names.lookup y = some .local := by rfl) (hs : ∀ x, foldedSetIterable iter X.env x = pure x := by intro _; rfl) :
    PS X (.Assign [.Name y py] (.ListComp elt [⟨tg, iter, ifs, 0⟩] scope pos) spos) (tS G W (msSet i (mLc it g t e (own.map (·.2))))) := PS.imp (ps_setLc hc hN hy hyl hsw hi ok hg ht he hs) fun D σ H ⟨et, env, h, hE, hH, hP⟩ => by
  refine tLc_of ⟨et, env, h, hE, hH, (PstS.of_bind hE hP).imp fun et1 H1 h1 d p e hr q v hv => q et1 H1 _ List.prefix_rfl (Ext.refl _) hr ((hE.mono p e).set i hv)⟩
end

/-! ### isinstance -/
def isT (T : String) (h : IH) : D → Option Bool
  | .non => kitB "NoneType" T
  | .bl _ => kitB "bool" T
  | .int _ => kitB "int" T
  | .str _ => kitB "str" T
  | .tup _ => kitB "tuple" T
  | .fl _ => kitB "list" T
  | .fd _ _ => kitB "dict" T
  | .ref n => match h[n]? with
    | some (.lst _) => kitB "list" T
    | some (.frz _) => kitB "list" T
    | some (.dk _) => kitB "dict" T
    | _ => none
  | _ => none
def mIs (T : String) (m : ME) : ME := fun env h => (m env h).bind fun x h1 => match isT T h1 x with
  | some b => .ok (.bl b) h1
  | none => .no
section
variable {X : Cx} {G : Cf} {W : WX} {a : Expr} {ma : ME} {pos p p2 : Pos} {T : String} {y : Str}
theorem sqT_ty {K : PySem.W.Frag} {H : Hp} {a : Addr} {vs : List V} (h : SqT K H a vs) : TyX K H (.ref a) (.type "tuple") := by
  rcases h with (h | ⟨o, h⟩) | ⟨o, its, n, hk, hc, _⟩
  · exact .base (.tup h)
  · exact .fTuple h
  · exact .kTuple hk hc
theorem frzL_ty {K : PySem.W.Frag} {H : Hp} {a : Addr} {vs : List V} (h : FrzL K H a vs) : TyX K H (.ref a) (.type "list") := by
  rcases h with ⟨o, h⟩ | ⟨o, its, n, hk, hc, _⟩
  · exact .base (.frz h)
  · exact .kList hk hc
theorem isT_ok {et : List Addr} {H : Hp} {h : IH} (R : HRel G et h H) {x : D} {v : V} {b : Bool} (e : isT T h x = some b) (r : Den G et H x v) : ∃ t, TyX G.K H v t ∧ PySem.W.kitOne G.K t (.type T) = some b := by
  cases x with
  | non => rw [den_non.mp r]; exact ⟨_, .base .non, kit_ty e⟩
  | bl _ => rw [den_bl.mp r]; exact ⟨_, .base (.bl _), kit_ty e⟩
  | int _ => rw [den_int.mp r]; exact ⟨_, .base (.int _), kit_ty e⟩
  | str _ => rw [den_str.mp r]; exact ⟨_, .base (.str _), kit_ty e⟩
  | tup l =>
    obtain ⟨a, vs, rfl, h1, _⟩ := den_tup.mp r
    exact ⟨_, sqT_ty (TpT.sq h1), kit_ty e⟩
  | ref n =>
    obtain ⟨a, h1, rfl⟩ := den_ref.mp r
    simp only [isT] at e
    split at e
    · rename_i xs hx
      obtain ⟨vs, h2, _⟩ := R.cell n _ a hx h1
      exact ⟨_, .base (.lst h2), kit_ty e⟩
    · rename_i xs hx
      obtain ⟨vs, h2, _⟩ := R.cell n _ a hx h1
      exact ⟨_, frzL_ty h2, kit_ty e⟩
    · rename_i xs hx
      obtain ⟨vs, h2, _⟩ := R.cell n _ a hx h1
      exact ⟨_, .base (.dK h2), kit_ty e⟩
    · cases e
  | fl l =>
    obtain ⟨a, vs, rfl, h1, _⟩ := den_fl.mp r
    exact ⟨_, frzL_ty (K := G.K) h1.frz, kit_ty e⟩
  | fd ks l =>
    obtain ⟨a, ws, rfl, ⟨o, h1⟩, _⟩ := den_fd.mp r
    exact ⟨_, .fDict h1, kit_ty e⟩
  | exc a => simp [isT] at e
theorem me_is (hK : X.K = G.K) (ha : PE X a (tE G W ma)) (hm : X.mg "isinstance" = none) (hmT : X.mg y = none) (hv : bootBuiltins "isinstance" = some (.builtin "isinstance") := by decide +kernel) (hvT : bootBuiltins y = some (.type T) := by decide +kernel) (hg : Gl X "isinstance" := by rfl) (hgT : Gl X y := by rfl) (hnT : y ≠ "__name__" := by decide) (hdT : (y == ("__debug__" : Str)) = false := by decide)
    (hs1 : starEach [a, .Name y p2] X.env = (false, eval a X.env) :: starEach [.Name y p2] X.env := by rfl) (hs2 : starEach [.Name y p2] X.env = (false, eval (.Name y p2) X.env) :: starEach [] X.env := by rfl) (hpl : (backTo pos (starEach [.Name y p2] X.env)).any (·.1) = false := by rfl) :
    PE X (.Call (.Name "isinstance" p) [a, .Name y p2] [] pos) (tE G W (mIs T ma)) :=
  PE.imp (pe_callB call_isi hg hm hv (pa_cons ha (pa_cons (pe_bltn (v := .ty T) hgT hmT hvT rfl hnT hdT) pa_nil hs2) hs1) (by decide) (by decide) hs1 hpl) fun σ H Q ⟨et, env, h, hE, hH, hP⟩ => by
    refine ⟨et, env, h, hE, hH, (Pst.of_bind hP).imp fun et1 H1 h1 x p e hr q v hv => ?_⟩
    split at q
    · rename_i b hb
      obtain ⟨t, h2, h3⟩ := isT_ok hr hb hv
      rw [hK]
      exact ⟨v, .ty T, t, _, b, rfl, .ty T, h2, h3, q.here hr _ (by simp)⟩
    · exact q.elim
end
/-! ### the law's promise -/
def spLaw (G : Cf) (fm : MF) : Sp := fun vs H Q E => ∃ (a : Addr) (ns : List Int), vs = [.ref a] ∧ ns.length ≤ 63 ∧ Only H ∧ SqL G.K H a (ns.map V.int) ∧ ∀ H', Q (.bl true) H'
theorem FrzL.of_only {K : PySem.W.Frag} {H : Hp} {a : Addr} {vs : List V} (o : Only H) (h : SqL K H a vs) : FrzL K H a vs := by
  rcases h with (h | ⟨ob, h⟩) | h
  · rcases o a with z | ⟨o', xs, z⟩
    · rw [z] at h; cases h
    · rw [z] at h; cases h
  · exact .inl ⟨ob, h⟩
  · exact .inr h
/-- the law's function says True on every script -/
def LawOk (fm : MF) : Prop := ∀ ns : List Int, ns.length ≤ 63 → ∃ h', fm [.ref 0] [.frz (ns.map D.int)] = .ok (.bl true) h'
theorem law_ok {P : Program} {w : World} {K : PySem.W.Frag} {mg : Str → Option Value} {base : Heap} {CX : CXT} {k : Nat} {f : Addr} {fd : FuncData} {ps : List Str} {G : Cf} {fm : MF} (F : FnOk P w K mg base CX k f fd ps (FSp G 1 fm)) (hl : LawOk fm) : FnOk P w K mg base CX k f fd ps (spLaw G fm) :=
  F.imp fun vs H Q E ⟨a, ns, e, l, o, hS, q⟩ => by
    refine ⟨by rw [e]; rfl, [a], [.ref 0], [.frz (ns.map D.int)], ?_, ⟨rfl, ?_, ?_⟩, ?_⟩
    · rw [e]
      exact denL_cons.mpr ⟨_, [], rfl, den_ref.mpr ⟨a, rfl, rfl⟩, by simp⟩
    · intro n m c c' b h1 h2 h3 h4 f1 f2
      have : n = 0 := by
        have := (List.getElem?_eq_some_iff.mp h3).1
        simp at this
        omega
      subst this
      simp at h1
      subst h1
      cases f1
    · intro n c b h1 h2
      have : n = 0 := by
        have := (List.getElem?_eq_some_iff.mp h2).1
        simp at this
        omega
      subst this
      simp at h1 h2
      subst h1 h2
      exact ⟨_, FrzL.of_only o hS, DenL.ofInts⟩
    · obtain ⟨h', e2⟩ := hl ns l
      rw [e2]
      intro et' H' _ _ _ v hv
      rw [den_bl.mp hv]
      exact q H'
end NR

set_option Elab.async false
set_option linter.all false
set_option maxRecDepth 100000
/-! o[i] op= e; callees. -/
namespace NR
open PySem PySem.Spec PyProof.Rows L2
section
variable {X : Cx}
theorem get_list : PGet X (rIxL X.K) := by
  intro pins s σ H x y v u Q I rx ry h
  obtain ⟨p, xs, i, z, rfl, rfl, hq, he, q⟩ := h
  cases rx
  obtain ⟨t, rfl⟩ := ry
  obtain ⟨its, r, pl, hz⟩ := I.list hq
  obtain ⟨j, h1, h2, h3, h4, h5⟩ := atI_get he
  obtain ⟨w, ew, rw'⟩ := r.get h2
  have hl := r.length
  have hn := line63
  have fin : EP X pins σ Q w s := ⟨z, H, I, rw', q⟩
  by_cases h0 : 0 ≤ i
  · have hj : i.toNat = j := by
      rw [seqIndex_of h0 h5] at h1
      exact Option.some.inj h1
    exact wpAny_getItem_list pl.isList h0 (by omega) (by rw [hj]; simpa using ew) fin
  · have hj : (i + (its.toArray.size : Int)).toNat = j := by
      rw [seqIndex_neg (by omega) h4] at h1
      rw [List.size_toArray, ← hl]
      exact Option.some.inj h1
    exact wpAny_getItem_list_neg pl.isList (by omega) (by rw [List.size_toArray] <;> omega) (by omega) (by rw [hj]; simpa using ew) fin
end
/-- a list's item -/
def getL (o i : D) (h : IH) : Option D := match i with
  | .int k => (lstOf h o).bind fun xs => (ixN xs.length k).bind fun j => xs[j]?
  | _ => none
def msAugI (f : D → D → IH → R D) (mo mi me : ME) : MS := fun env h => (mo env h).bindS env fun o h1 => (mi env h1).bindS env fun i h2 => match getL o i h2 with
  | none => .no
  | some x => (me env h2).bindS env fun y h3 => (f x y h3).bindS env fun z h4 => match putD o i z h4 with
    | some h5 => .nx env h5
    | none => .no
section
variable {X : Cx} {G : Cf} {W : WX} {o i e : Expr} {me mo mi : ME} {pos tpos : Pos} {r : R2} {f : D → D → IH → R D} {op : Operator}
theorem getL_ok {et : List Addr} {H : Hp} {h : IH} {x y d : D} {v w : V} {Q : VK} (R : HRel G et h H) (e : getL x y h = some d) (rx : Den G et H x v) (ry : Den G et H y w) (q : ∀ u, Den G et H d u → Q u H) : rIxL G.K v w H Q := by
  unfold getL at e
  split at e
  · rename_i k
    simp only [Option.bind_eq_some_iff] at e
    obtain ⟨xs, e1, e2⟩ := e
    obtain ⟨a, vs, rfl, h1, h2⟩ := lst_ok R e1 rx
    obtain ⟨u, e3, r3⟩ := atI_den h2 (k := k) (by simpa only [Option.bind_eq_some_iff] using e2)
    exact ⟨a, vs, k, u, rfl, den_int.mp ry, h1, e3, q u r3⟩
  · cases e
theorem ms_augI (hK : X.K = G.K) (hop : OpR X (inplaceOp op) r) (hs : OpS G r f) (ho : PE X o (tE G W mo)) (hi : PE X i (tE G W mi)) (he : PE X e (tE G W me))
    (ha : ∀ ov iv new, augStore i ov iv new = (do holding [new, ov, iv] (setItem ov iv new); release [new, ov, iv] []; pure .next) := by intros; rfl) : PS X (.AugAssign (.Subscript o i tpos) op e pos) (tS G W (msAugI f mo mi me)) :=
  PS.imp (ps_augS ho hi get_list he (tip := r) hop set_list ha) fun D σ H ⟨et, env, h, hE, hH, hP⟩ => by
    refine ⟨et, env, h, hE, hH, (PstS.of_bind hE hP).imp fun et1 H1 h1 o p e hr q vo ho => ?_⟩
    have hE1 := hE.mono p e
    refine ⟨et1, env, h1, hE1, hr, (PstS.of_bind hE1 q).imp fun et2 H2 h2 i p2 e2 hr2 q2 vi hi => ?_⟩
    have hE2 := hE1.mono p2 e2
    have ho2 := ho.mono p2 e2
    revert q2
    cases hg : getL o i h2 with
    | none => exact fun q2 => q2.elim
    | some x =>
      intro q2
      dsimp only at q2
      rw [hK]
      refine getL_ok hr2 hg ho2 hi fun vx hx => ?_
      refine ⟨et2, env, h2, hE2, hr2, (PstS.of_bind hE2 q2).imp fun et3 H3 h3 y p3 e3 hr3 q3 vy hy => ?_⟩
      have hE3 := hE2.mono p3 e3
      refine hs et3 H3 h3 x y vx vy _ _ (hx.mono p3 e3) hy hr3 ((PstS.of_bind hE3 q3).imp fun et4 H4 h4 z p4 e4 hr4 q4 vz hz => ?_)
      have hE4 := hE3.mono p4 e4
      revert q4
      cases hp : putD o i z h4 with
      | none => exact fun q4 => q4.elim
      | some h5 =>
        intro q4
        exact put_ok hr4 hp ((ho2.mono p3 e3).mono p4 e4) ((hi.mono p3 e3).mono p4 e4) hz fun H' ex hr5 => q4 et4 H' σ List.prefix_rfl ex hr5 (hE4.mono List.prefix_rfl ex)
end
/-! ### a def by its name -/
structure FnG (P : Program) (w : World) (K : PySem.W.Frag) (mg : Str → Option Value) (base : Heap) (G : Cf) (x : Str) (k n : Nat) (fm : MF) : Prop where
  ex : ∃ f fd ps, FnOk P w K mg base (L2.CX P w) k f fd ps (FSp G n fm) ∧ mg x = some (.ref f) ∧ PySem.W.keepIn K (.ref f) = true ∧ Binds K fd ps []
section
variable {X : Cx} {G : Cf} {W : WX} {k j n : Nat} {fm : MF} {x : Str} {p pos : Pos} {e : Expr} {es : List Expr} {mt : MA}
theorem me_callG (F : FnG X.prog X.w X.K X.mg X.base G x k n fm) (hr : Room j X.A) (hj : k ≤ j) (tk : Takes X W) (ha : PA X (e :: es) (tA G W mt)) (hg : Gl X x := by rfl) (hdb : (x == ("__debug__" : Str)) = false := by decide)
    (he : starEach (e :: es) X.env = (false, eval e X.env) :: starEach es X.env := by rfl) (hpl : (backTo pos (starEach es X.env)).any (·.1) = false := by rfl) : PE X (.Call (.Name x p) (e :: es) [] pos) (tE G W (mCall n fm mt)) := by
  obtain ⟨f, fd, ps, h1, h2, h3, h4⟩ := F.ex
  exact me_call h1 (hr.mono hj) h2 h3 h4 tk ha hg hdb he hpl
theorem me_callG0 (F : FnG X.prog X.w X.K X.mg X.base G x k n fm) (hr : Room j X.A) (hj : k ≤ j) (tk : Takes X W) (hg : Gl X x := by rfl) (hdb : (x == ("__debug__" : Str)) = false := by decide) : PE X (.Call (.Name x p) [] [] pos) (tE G W (mCall n fm mNil)) := by
  obtain ⟨f, fd, ps, h1, h2, h3, h4⟩ := F.ex
  exact me_call0 h1 (hr.mono hj) h2 h3 h4 tk hg hdb
end
/-- what the written part tells of a def -/
structure DefAt (K : PySem.W.Frag) (mg : Str → Option Value) (x : Str) (st : Stmt) (ps : List Str) : Prop where
  ex : ∃ f fd, Fun K x x st f fd ∧ mg x = some (.ref f) ∧ Binds K fd ps []
theorem DefAt.fn {P : Program} {w : World} {K : PySem.W.Frag} {mg : Str → Option Value} {base : Heap} {G : Cf} {x : Str} {st : Stmt} {ps : List Str} {k n : Nat} {fm : MF} (d : DefAt K mg x st ps) (h : ∀ f fd, Fun K x x st f fd → FnOk P w K mg base (L2.CX P w) k f fd ps (FSp G n fm)) : FnG P w K mg base G x k n fm := by
  obtain ⟨f, fd, h1, h2, h3⟩ := d.ex
  exact ⟨f, fd, ps, h f fd h1, h2, h1.kp, h3⟩
end NR

set_option Elab.async false
set_option linter.all false
set_option maxRecDepth 100000
/-! list(x), tuple(x), a, b = e; constants; the end. -/
namespace NR
open PySem PySem.Spec PyProof.Rows L2
section
variable {X : Cx} {G : Cf} {W : WX}
def rListA (K : PySem.W.Frag) : List V → Hp → VK → Prop := fun xs H Q => ∃ p ys, xs = [.ref p] ∧ (SqL K H p ys ∨ SqT K H p ys) ∧ ∀ l, H l = none → Q (.ref l) (upd H l (.lst ys))
def rTupleA (K : PySem.W.Frag) : List V → Hp → VK → Prop := fun xs H Q => ∃ p ys, xs = [.ref p] ∧ ((SqL K H p ys ∧ ∀ l, H l = none → Q (.ref l) (upd H l (.tup ys))) ∨ (SqT K H p ys ∧ Q (.ref p) H))
theorem call_listA : CallR X (.type "list") (rListA X.K) := call_list_of
theorem call_tupleA : CallR X (.type "tuple") (rTupleA X.K) := call_tuple_of
theorem bList_ok : CallS G (rListA G.K) bList := by
  intro et H h xs vs W Q rv R p
  unfold bList at p
  split at p
  · split at p
    · exact p.elim
    · split at p
      · rename_i ys e
        obtain ⟨v, rfl, h1⟩ := list1 rv
        obtain ⟨a, vs, rfl, h2, h3⟩ := seq_ok R e h1
        exact ⟨a, vs, rfl, h2, p.newL R h3⟩
      · exact p.elim
  · exact p.elim
theorem bTuple_ok : CallS G (rTupleA G.K) bTuple := by
  intro et H h xs vs W Q rv R p
  unfold bTuple at p
  split at p
  · split at p
    · exact p.elim
    · obtain ⟨v, rfl, h1⟩ := list1 rv
      obtain ⟨a, vs, rfl, h2, h3⟩ := den_tup.mp h1
      exact ⟨a, vs, rfl, .inr ⟨h2, p.here R _ h1⟩⟩
    · split at p
      · rename_i ys e
        obtain ⟨v, rfl, h1⟩ := list1 rv
        obtain ⟨a, vs, rfl, h2, h3⟩ := lst_ok R e h1
        exact ⟨a, vs, rfl, .inl ⟨h2, p.newT R h3⟩⟩
      · exact p.elim
  · exact p.elim
def msSetT (g : MG) (m : ME) : MS := fun env h => (m env h).bindS env fun d h1 => match g d env with
  | some e => .nx e h1
  | none => .no
theorem ms_setT {es : List Expr} {k : Nat} {e : Expr} {me : ME} {g : MG} {ws : List Nat} {pos pos' : Pos} (he : PE X e (tE G W me)) (hg : PG X (.Tuple es k pos') (tG G ws g)) (hs : swapsWithSole [.Tuple es k pos'] e pos.line X.env = pure false := by rfl) (hw : swappedStores [.Tuple es k pos'] e X.env = pure none := by rfl)
    (h1 : (assignEach [.Tuple es k pos'] X.env).map (·.2) = [assign (.Tuple es k pos') X.env] := by rfl) : PS X (.Assign [.Tuple es k pos'] e pos) (tS G W (msSetT g me)) :=
  PS.imp (ps_asg he hg hs hw h1) fun D σ H ⟨et, env, h, hE, hH, hP⟩ => by
    refine ⟨et, env, h, hE, hH, (PstS.of_bind hE hP).imp fun et1 H1 h1 d p e hr q v hv => ?_⟩
    refine ⟨et1, env, h1, d, hE.mono p e, hr, hv, ?_⟩
    cases hgd : g d env with
    | none => rw [hgd] at q; exact q.elim
    | some e1 =>
      rw [hgd] at q
      exact fun σ' _ hE' => q et1 H1 σ' List.prefix_rfl (Ext.refl _) hr hE'
end
/-- a constant of the top -/
def GlC (mg : Str → Option Value) (x : Str) (d : D) : Prop := ∃ u, OfC d u ∧ mg x = some u
theorem me_globG {X : Cx} {G : Cf} {W : WX} {x : Str} {d : D} {pos : Pos} (g : GlC X.mg x d) (hg : Gl X x := by rfl) (hd : (x == ("__debug__" : Str)) = false := by decide) : PE X (.Name x pos) (tE G W (mC d)) := by
  obtain ⟨u, h1, h2⟩ := g
  exact me_glob d h1 h2 hg hd
theorem glI_of {K : PySem.W.Frag} {h : Heap} {mg : Str → Option Value} {x : Str} {n : Int} {d : D} (X : K.In h) (Gn : h.Ns mainGlobals mg) (g : ∃ t, PySem.W.nsIn K mainGlobals x = some (some (.int n t))) (e : (match d with | .int m => decide (m = n) | _ => false) = true) : GlC mg x d := by
  obtain ⟨t, g⟩ := g
  cases d with
  | int m =>
    have e' : m = n := by simpa using e
    subst e'
    exact ⟨_, ⟨t, rfl⟩, PySem.W.mg_of X Gn g⟩
  | _ => cases e
theorem glS_of {K : PySem.W.Frag} {h : Heap} {mg : Str → Option Value} {x s : Str} {d : D} (X : K.In h) (Gn : h.Ns mainGlobals mg) (g : ∃ t, PySem.W.nsIn K mainGlobals x = some (some (.str s t))) (e : (match d with | .str m => decide (strV m = s) | _ => false) = true) : GlC mg x d := by
  obtain ⟨t, g⟩ := g
  cases d with
  | str m =>
    have e' : strV m = s := by simpa using e
    subst e'
    exact ⟨_, ⟨t, rfl⟩, PySem.W.mg_of X Gn g⟩
  | _ => cases e
theorem cx_no {P : Program} {w : World} {H : Hp} {s : Shared} {e : Value} {s' : Shared} (hx : L2.CX P w [] H s (fun _ _ _ => False) e s') : False := by
  obtain ⟨_, _, _, _, _, _, _, _, _, _, _, _, z⟩ := hx
  exact z
end NR

set_option Elab.async false
set_option linter.all false
set_option maxRecDepth 100000
/-! Texts: list(s), tuple(s), count, find, index of one sign; displays of dicts. -/
namespace NR
open PySem PySem.Spec PyProof.Rows L2
theorem vals_of_get : ∀ {xs : List V} {us : List Value}, xs.length = us.length → (∀ (i : Nat) (x : V) (u : Value), xs[i]? = some x → us[i]? = some u → RelV x u) → Vals xs us
  | [], [], _, _ => .nil
  | [], _ :: _, h, _ => by simp at h
  | _ :: _, [], h, _ => by simp at h
  | x :: xs, u :: us, h, k => .cons (k 0 x u rfl rfl) (vals_of_get (by simpa using h) fun i a b h1 h2 => k (i + 1) a b (by simpa using h1) (by simpa using h2))
def sgD (s : List Nat) : List D := s.map fun c => .str [c]
def sgV (s : List Nat) : List V := s.map fun c => .str (strV [c])
theorem sg_den {G : Cf} {et : List Addr} {H : Hp} : ∀ {s : List Nat}, DenL G et H (sgD s) (sgV s)
  | [] => by simp [sgD, sgV]
  | c :: s => denL_cons.mpr ⟨_, _, rfl, by simp [strV], sg_den⟩
theorem sg_vals {s : List Nat} {acc : Array Value} (h : ItemsOf (SignAt (strV s)) acc (strV s).cps.size) : Vals (sgV s) acc.toList := by
  obtain ⟨h1, h2⟩ := h
  refine vals_of_get ?_ fun i x u hx hu => ?_
  · simp [sgV, strV] at h1 ⊢
    exact h1.symm
  · obtain ⟨c, t, h3, h4⟩ := h2 i u (by simpa using hu)
    subst h4
    have h5 : s[i]? = some c := by simpa [strV] using h3
    unfold sgV at hx
    rw [List.getElem?_map, h5] at hx
    cases hx
    exact ⟨t, rfl⟩
section
variable {X : Cx} {G : Cf} {W : WX}
def rListS : List V → Hp → VK → Prop := fun xs H Q => ∃ z : List Nat, xs = [.str (strV z)] ∧ z.length ≤ 10000000 ∧ ∀ l, H l = none → Q (.ref l) (upd H l (.lst (sgV z)))
def rTupS : List V → Hp → VK → Prop := fun xs H Q => ∃ z : List Nat, xs = [.str (strV z)] ∧ z.length ≤ 10000000 ∧ ∀ l, H l = none → Q (.ref l) (upd H l (.tup (sgV z)))
theorem call_listS (hc : X.calm = true) : CallR X (.type "list") rListS := by
  intro pins s σ H xs us Q I r h
  obtain ⟨z, rfl, hz, q⟩ := h
  obtain ⟨u, rfl, t, rfl⟩ := vals1 r
  refine call_list_str (I.ok.hd hc) (strV z) t (fun h' tk acc c' hk hD hacc => ?_) (by show (strV z).length ≤ _; rw [strV_length]; exact sz hz)
  refine ⟨.ref s.heap.objs.size, upd H s.heap.objs.size (.lst (sgV z)), I.laid (t' := tk) hk (Nat.le_refl _)
    (show ObjOk X.prog X.w _ _ _ (.lst (sgV z)) from ⟨by simp only [sgV, List.length_map]; exact sz hz, acc.toList, c', sg_vals hacc, by rw [Array.toArray_toList]; exact hD⟩), rfl, q _ (I.hok.fresh (Nat.le_refl _))⟩
theorem call_tupS (hc : X.calm = true) : CallR X (.type "tuple") rTupS := by
  intro pins s σ H xs us Q I r h
  obtain ⟨z, rfl, hz, q⟩ := h
  obtain ⟨u, rfl, t, rfl⟩ := vals1 r
  refine call_tuple_str (I.ok.hd hc) (strV z) t (fun h' tk acc hk hacc => ?_) (by show (strV z).length ≤ _; rw [strV_length]; exact sz hz)
  have I1 : Inv X pins σ H { s with heap := h', toks := tk } := I.kept (t' := tk) hk
  refine ⟨.ref h'.objs.size, upd H h'.objs.size (.tup (sgV z)), I1.laid (t' := tk) (fun b o e => Heap.get?_push_of_some _ e) (Nat.le_refl _)
    (show ObjOk X.prog X.w _ _ _ (.tup (sgV z)) from ⟨by simp only [sgV, List.length_map]; exact sz hz, acc.toList, sg_vals hacc, ?_⟩), rfl, q _ (I1.hok.fresh (Nat.le_refl _))⟩
  have := IsTup.new h' acc.toList.toArray
  simpa using this
def bListX : List D → IH → R D
  | [.str s], h => if s.length ≤ 10000000 then .ok (.ref h.length) (h ++ [.lst (sgD s)]) else .no
  | xs, h => bList xs h
def bTupleX : List D → IH → R D
  | [.str s], h => if s.length ≤ 10000000 then .ok (.tup (sgD s)) h else .no
  | xs, h => bTuple xs h
def rListX (K : PySem.W.Frag) : List V → Hp → VK → Prop := fun xs H Q => rListA K xs H Q ∨ rListS xs H Q
def rTupleX (K : PySem.W.Frag) : List V → Hp → VK → Prop := fun xs H Q => rTupleA K xs H Q ∨ rTupS xs H Q
theorem call_listX (hc : X.calm = true) : CallR X (.type "list") (rListX X.K) := CallR.or call_listA (call_listS hc)
theorem call_tupleX (hc : X.calm = true) : CallR X (.type "tuple") (rTupleX X.K) := CallR.or call_tupleA (call_tupS hc)
theorem bListX_ok : CallS G (rListX G.K) bListX := by
  intro et H h xs vs W Q rv R p
  unfold bListX at p
  split at p
  · rename_i s
    obtain ⟨v, rfl, r⟩ := list1 rv
    split at p
    · rename_i l
      exact .inr ⟨s, by rw [den_str.mp r], l, p.newL R sg_den⟩
    · exact p.elim
  · exact .inl (bList_ok et H h xs vs W Q rv R p)
theorem bTupleX_ok : CallS G (rTupleX G.K) bTupleX := by
  intro et H h xs vs W Q rv R p
  unfold bTupleX at p
  split at p
  · rename_i s
    obtain ⟨v, rfl, r⟩ := list1 rv
    split at p
    · rename_i l
      exact .inr ⟨s, by rw [den_str.mp r], l, p.newT R sg_den⟩
    · exact p.elim
  · exact .inl (bTuple_ok et H h xs vs W Q rv R p)
end

/-! ### places of a sign -/
def fnd (c : Nat) : List Nat → Option Nat
  | [] => none
  | d :: s => if d = c then some 0 else (fnd c s).map (· + 1)
theorem fnd_none {c : Nat} : ∀ {s : List Nat}, fnd c s = none ↔ c ∉ s
  | [] => by simp [fnd]
  | d :: s => by
    unfold fnd
    by_cases e : d = c
    · simp [e]
    · rw [if_neg e]
      simp [fnd_none (s := s), Ne.symm e]
theorem fnd_some {c : Nat} : ∀ {s : List Nat} {i : Nat}, fnd c s = some i ↔ s[i]? = some c ∧ ∀ k, k < i → s[k]? ≠ some c
  | [], i => by simp [fnd]
  | d :: s, i => by
    unfold fnd
    by_cases e : d = c
    · rw [if_pos e]
      subst e
      constructor
      · intro h
        cases h
        exact ⟨rfl, fun k hk => absurd hk (Nat.not_lt_zero k)⟩
      · rintro ⟨h1, h2⟩
        cases i with
        | zero => rfl
        | succ i => exact absurd rfl (h2 0 (Nat.succ_pos i))
    · rw [if_neg e]
      cases i with
      | zero =>
        simp only [List.getElem?_cons_zero, Option.some.injEq, e, false_and, iff_false]
        cases fnd c s <;> simp
      | succ i =>
        rw [show (Option.map (· + 1) (fnd c s) = some (i + 1)) ↔ fnd c s = some i by cases fnd c s <;> simp, fnd_some (s := s)]
        constructor
        · rintro ⟨h1, h2⟩
          refine ⟨by simpa using h1, fun k hk => ?_⟩
          cases k with
          | zero => simpa using e
          | succ k => simpa using h2 k (by omega)
        · rintro ⟨h1, h2⟩
          exact ⟨by simpa using h1, fun k hk => by simpa using h2 (k + 1) (by omega)⟩
open Builtin.Str StrLaws in
theorem occ_fnd (s : List Nat) (c : Nat) : (match fnd c s with | some i => ∃ r, occurrences (strV s) (strV [c]) 0 (strV s).length 1 = i :: r | none => occurrences (strV s) (strV [c]) 0 (strV s).length 1 = []) := by
  have at_ : ∀ i, At (strV s) (strV [c]) (strV s).length i ↔ s[i]? = some c := fun i => by
    have := subAt_one (strV s) c i
    simpa [strV, At] using this
  rcases occ_head (strV s) (strV [c]) 1 (Nat.le_refl 1) with ⟨h1, h2⟩ | ⟨i, r, h1, h2, h3⟩
  · have : fnd c s = none := fnd_none.mpr fun hm => by
      obtain ⟨i, hi⟩ := List.mem_iff_getElem?.mp hm
      exact h2 i ((at_ i).mpr hi)
    rw [this]
    exact h1
  · have : fnd c s = some i := fnd_some.mpr ⟨(at_ i).mp h2, fun k hk e => h3 k hk ((at_ k).mpr e)⟩
    rw [this]
    exact ⟨r, h1⟩
open Builtin.Str StrLaws in
theorem occ_go (s : List Nat) (c limit : Nat) : ∀ (l : List Nat) (st : Array Nat × Nat), l.Pairwise (· < ·) → (∀ i ∈ l, st.2 ≤ i) → st.1.size + l.length ≤ limit →
    (forIn l st (occBody (strV s) (strV [c]) (strV s).length limit)).run.fst.toList = st.1.toList ++ l.filter (fun i => decide (s[i]? = some c))
  | [], st, _, _, _ => by simp
  | a :: l, st, hp, hf, hl => by
    have hp' := List.pairwise_cons.mp hp
    have ha : st.2 ≤ a := hf a List.mem_cons_self
    rw [List.length_cons] at hl
    have at_ : (a + (strV [c]).length ≤ (strV s).length ∧ subAt (strV s) (strV [c]) a = true) ↔ s[a]? = some c := by
      have := subAt_one (strV s) c a
      simpa [strV] using this
    rw [List.forIn_cons]
    unfold occBody
    by_cases hc : s[a]? = some c
    · have c1 : ((st.fst.size < limit ∧ st.snd ≤ a) ∧ a + (strV [c]).length ≤ (strV s).length) ∧ subAt (strV s) (strV [c]) a = true := ⟨⟨⟨by omega, ha⟩, (at_.mpr hc).1⟩, (at_.mpr hc).2⟩
      rw [if_pos c1]
      refine (occ_go s c limit l (st.1.push a, a + (strV [c]).length) hp'.2 (fun i hi => ?_) (by simp; omega)).trans ?_
      · have := hp'.1 i hi
        show a + (strV [c]).length ≤ i
        rw [strV_length]
        exact this
      · rw [List.filter_cons, if_pos (by simpa using hc)]
        simp
    · have c2 : ¬ (((st.fst.size < limit ∧ st.snd ≤ a) ∧ a + (strV [c]).length ≤ (strV s).length) ∧ subAt (strV s) (strV [c]) a = true) := fun z => hc (at_.mp ⟨z.1.2, z.2⟩)
      rw [if_neg c2]
      refine (occ_go s c limit l (st.1, st.2) hp'.2 (fun i hi => hf i (List.mem_cons_of_mem _ hi)) (by show st.1.size + l.length ≤ limit; omega)).trans ?_
      rw [List.filter_cons, if_neg (by simpa using hc)]
theorem filter_range (c : Nat) : ∀ (s : List Nat) (n : Nat), s.length ≤ n → ((List.range n).filter (fun i => decide (s[i]? = some c))).length = s.count c
  | [], n, _ => by simp
  | d :: s, 0, h => by simp at h
  | d :: s, n + 1, h => by
    rw [List.range_succ_eq_map, List.filter_cons, List.filter_map]
    have ih := filter_range c s n (by simpa using h)
    have e : ((fun i => decide ((d :: s)[i]? = some c)) ∘ Nat.succ) = fun i => decide (s[i]? = some c) := by funext i; simp
    rw [e]
    by_cases hd : d = c
    · subst hd
      simp [ih]
    · simp [ih, hd]
theorem count_one (s : List Nat) (c : Nat) : Txt.count (strV s) (strV [c]) = (s.count c : Nat) := by
  unfold Txt.count
  rw [StrLaws.occ_eq]
  have h := occ_go s c ((strV s).length + 1) (List.range' 0 ((strV s).length + 1 - 0)) (#[], 0) (List.pairwise_lt_range') (fun _ _ => Nat.zero_le _) (by simp)
  rw [h]
  have e : List.range' 0 ((strV s).length + 1 - 0) = List.range (s.length + 1) := by rw [strV_length, List.range_eq_range']; rfl
  rw [e]
  show (((([] : List Nat) ++ _).length : Nat) : Int) = _
  rw [List.nil_append, filter_range c s _ (by omega)]
theorem find_one (s : List Nat) (c : Nat) : Txt.find (strV s) (strV [c]) = match fnd c s with | some i => (i : Int) | none => -1 := by
  have := occ_fnd s c
  unfold Txt.find
  revert this
  cases fnd c s with
  | none => intro h; rw [h]
  | some i => rintro ⟨r, h⟩; rw [h]
def fCount : D → List D → IH → R D
  | .str s, [.str [c]], h => .ok (.int (s.count c : Nat)) h
  | _, _, _ => .no
def fFind : D → List D → IH → R D
  | .str s, [.str [c]], h => .ok (.int (match fnd c s with | some i => (i : Int) | none => -1)) h
  | _, _, _ => .no
def fIndex : D → List D → IH → R D
  | .str s, [.str [c]], h => match fnd c s with
    | some i => .ok (.int (i : Nat)) h
    | none => .no
  | _, _, _ => .no
section
variable {X : Cx} {G : Cf} {W : WX}
theorem fCount_ok : MethS G (fun x xs H Q => ∃ a b, x = .str a ∧ xs = [.str b] ∧ Q (.int (Txt.count a b)) H) fCount := by
  intro et H h x v xs vs W Q rx rv R p
  unfold fCount at p
  split at p
  · obtain ⟨w, rfl, r⟩ := list1 rv
    exact ⟨_, _, den_str.mp rx, by rw [den_str.mp r], p.here R _ (by rw [count_one]; simp)⟩
  · exact p.elim
theorem fFind_ok : MethS G (fun x xs H Q => ∃ a b, x = .str a ∧ xs = [.str b] ∧ Q (.int (Txt.find a b)) H) fFind := by
  intro et H h x v xs vs W Q rx rv R p
  unfold fFind at p
  split at p
  · obtain ⟨w, rfl, r⟩ := list1 rv
    exact ⟨_, _, den_str.mp rx, by rw [den_str.mp r], p.here R _ (by rw [find_one]; simp)⟩
  · exact p.elim
theorem fIndex_ok : MethS G (fun x xs H Q => ∃ a b i rest, x = .str a ∧ xs = [.str b] ∧ Builtin.Str.occurrences a b 0 a.length 1 = i :: rest ∧ Q (.int (i : Nat)) H) fIndex := by
  intro et H h x v xs vs W Q rx rv R p
  unfold fIndex at p
  split at p
  · rename_i s c
    obtain ⟨w, rfl, r⟩ := list1 rv
    have o := occ_fnd s c
    revert p o
    cases fnd c s with
    | none => exact fun p => p.elim
    | some i =>
      rintro p ⟨rest, o⟩
      exact ⟨_, _, i, rest, den_str.mp rx, by rw [den_str.mp r], o, p.here R _ (by simp)⟩
  · exact p.elim
end

/-! ### displays of dicts: texts and ints as keys -/
def keyD? : D → Option DKey
  | .int i => some (.inl i)
  | .str s => some (.inr s)
  | _ => none
def putKD {κ : Type} [DecidableEq κ] (kvs : List (κ × D)) (k : κ) (v : D) : List (κ × D) := if (kvs.any fun p => decide (p.1 = k)) = true then kvs.map (fun p => if p.1 = k then (p.1, v) else p) else kvs ++ [(k, v)]
def mPr : List (ME × ME) → EV → IH → R (List (D × D))
  | [], _, h => .ok [] h
  | (k, v) :: r, env, h => (k env h).bind fun x h1 => (v env h1).bind fun y h2 => (mPr r env h2).bind fun ps h3 => .ok ((x, y) :: ps) h3
def keyPs : List (D × D) → Option (List (DKey × D))
  | [] => some []
  | p :: r => match keyD? p.1, keyPs r with
    | some k, some l => some ((k, p.2) :: l)
    | _, _ => none
def dkAt (h : IH) (n : Nat) : Bool := match h[n]? with
  | some (.dk []) => true
  | _ => false
def mDict (ps : List (ME × ME)) : ME := fun env h => (mPr ps env (h ++ [.dk []])).bind fun qs h1 => match keyPs qs with
  | some kvs => if kvs.length ≤ 15 ∧ dkAt h1 h.length = true then .ok (.ref h.length) (h1.set h.length (.dk (kvs.foldl (fun acc p => putKD acc p.1 p.2) []))) else .no
  | none => .no
theorem keyV_inj {a b : DKey} (e : keyV a = keyV b) : a = b := by
  cases a <;> cases b <;> simp [keyV] at e
  · rw [e]
  · rw [strV_inj e]
theorem any_keys {κ κ' : Type} [DecidableEq κ] [DecidableEq κ'] {f : κ → κ'} (inj : ∀ a b, f a = f b → a = b) (k : κ) : ∀ {kvs : List (κ × D)} {ws : List (κ' × V)}, ws.map (·.1) = kvs.map (fun p => f p.1) → (ws.any fun p => decide (p.1 = f k)) = kvs.any fun p => decide (p.1 = k)
  | [], [], _ => rfl
  | [], _ :: _, h => by simp at h
  | _ :: _, [], h => by simp at h
  | p :: kvs, q :: ws, h => by
    simp only [List.map_cons, List.cons.injEq] at h
    rw [List.any_cons, List.any_cons, any_keys inj k h.2, h.1]
    congr 1
    exact decide_eq_decide.mpr ⟨inj _ _, fun e => by rw [e]⟩
theorem denK_set {κ κ' : Type} [DecidableEq κ] [DecidableEq κ'] {f : κ → κ'} (inj : ∀ a b, f a = f b → a = b) {G : Cf} {et : List Addr} {H : Hp} {k : κ} {d : D} {v : V} (r : Den G et H d v) : ∀ {kvs : List (κ × D)} {ws : List (κ' × V)}, DenK f G et H kvs ws →
    DenK f G et H (kvs.map fun p => if p.1 = k then (p.1, d) else p) (ws.map fun p => if p.1 = f k then (p.1, v) else p)
  | [], [], _ => ⟨rfl, by simp⟩
  | [], _ :: _, h => by have := h.1; simp at this
  | _ :: _, [], h => by have := h.1; simp at this
  | p :: kvs, q :: ws, h => by
    obtain ⟨h1, h2⟩ := h
    simp only [List.map_cons, List.cons.injEq] at h1
    simp only [List.map_cons] at h2
    obtain ⟨v0, ws0, e0, h3, h4⟩ := denL_cons.mp h2
    simp only [List.cons.injEq] at e0
    obtain ⟨rfl, rfl⟩ := e0
    obtain ⟨i1, i2⟩ := denK_set inj r (kvs := kvs) (ws := ws) ⟨h1.2, h4⟩
    by_cases e : p.1 = k
    · have e' : q.1 = f k := by rw [h1.1, e]
      refine ⟨?_, ?_⟩
      · simp only [List.map_cons, e, e', if_pos]
        rw [i1]
      · simp only [List.map_cons, if_pos e, if_pos e']
        exact denL_cons.mpr ⟨v, _, rfl, r, i2⟩
    · have e' : ¬ q.1 = f k := fun z => e (inj _ _ (h1.1.symm.trans z))
      refine ⟨?_, ?_⟩
      · simp only [List.map_cons, if_neg e, if_neg e']
        rw [i1, h1.1]
      · simp only [List.map_cons, if_neg e, if_neg e']
        exact denL_cons.mpr ⟨q.2, _, rfl, h3, i2⟩
theorem denK_put {κ κ' : Type} [DecidableEq κ] [DecidableEq κ'] {f : κ → κ'} (inj : ∀ a b, f a = f b → a = b) {G : Cf} {et : List Addr} {H : Hp} {k : κ} {d : D} {v : V} (r : Den G et H d v) {kvs : List (κ × D)} {ws : List (κ' × V)} (h : DenK f G et H kvs ws) :
    DenK f G et H (putKD kvs k d) (putK ws (f k) v) := by
  unfold putKD putK
  rw [any_keys inj k h.1]
  split
  · exact denK_set inj r h
  · exact ⟨by simp [h.1], by
      rw [List.map_append, List.map_append]
      exact DenL.app h.2 (denL_cons.mpr ⟨v, [], rfl, r, by simp⟩)⟩
theorem denK_fold {G : Cf} {et : List Addr} {H : Hp} : ∀ {more : List (DKey × D)} {mw : List (Key × V)} {kvs : List (DKey × D)} {ws : List (Key × V)}, DenK keyV G et H more mw → DenK keyV G et H kvs ws → DenK keyV G et H (more.foldl (fun acc p => putKD acc p.1 p.2) kvs) (mergeK ws mw)
  | [], [], _, _, _, h => h
  | [], _ :: _, _, _, h, _ => by have := h.1; simp at this
  | _ :: _, [], _, _, h, _ => by have := h.1; simp at this
  | p :: more, q :: mw, kvs, ws, h, h0 => by
    obtain ⟨h1, h2⟩ := h
    simp only [List.map_cons, List.cons.injEq] at h1
    simp only [List.map_cons] at h2
    obtain ⟨v0, ws0, e0, h3, h4⟩ := denL_cons.mp h2
    simp only [List.cons.injEq] at e0
    obtain ⟨rfl, rfl⟩ := e0
    show DenK keyV G et H (more.foldl _ (putKD kvs p.1 p.2)) (mergeK (putK ws q.1 q.2) mw)
    refine denK_fold ⟨h1.2, h4⟩ ?_
    rw [h1.1]
    exact denK_put (fun a b => keyV_inj) h3 h0
theorem keyPs_ok {G : Cf} {et : List Addr} {H : Hp} : ∀ {ps : List (D × D)} {kvs : List (DKey × D)} {vs : List (V × V)}, keyPs ps = some kvs → DenL G et H (ps.map (·.1)) (vs.map (·.1)) → DenL G et H (ps.map (·.2)) (vs.map (·.2)) → ∃ ws : List (Key × V), vs = ws.map (fun kv => (kV kv.1, kv.2)) ∧ DenK keyV G et H kvs ws
  | [], kvs, [], e, _, _ => by
    simp only [keyPs, Option.some.injEq] at e
    subst e
    exact ⟨[], rfl, rfl, by simp⟩
  | [], _, _ :: _, _, h, _ => by
    have := h.len
    simp at this
  | _ :: _, _, [], _, h, _ => by
    have := h.len
    simp at this
  | p :: ps, kvs, q :: vs, e, h1, h2 => by
    unfold keyPs at e
    split at e
    · rename_i k l e1 e2
      cases e
      simp only [List.map_cons] at h1 h2
      obtain ⟨v0, w0, z0, a1, a2⟩ := denL_cons.mp h1
      simp only [List.cons.injEq] at z0
      obtain ⟨rfl, rfl⟩ := z0
      obtain ⟨v0, w0, z0, b1, b2⟩ := denL_cons.mp h2
      simp only [List.cons.injEq] at z0
      obtain ⟨rfl, rfl⟩ := z0
      obtain ⟨ws, rfl, c1, c2⟩ := keyPs_ok e2 a2 b2
      refine ⟨(keyV k, q.2) :: ws, ?_, ?_, ?_⟩
      · have : q.1 = kV (keyV k) := by
          unfold keyD? at e1
          split at e1
          · rename_i i he; cases e1; rw [he] at a1; exact den_int.mp a1
          · rename_i i he; cases e1; rw [he] at a1; exact den_str.mp a1
          · cases e1
        obtain ⟨q1, q2⟩ := q
        simp only at this
        subst this
        rfl
      · simp [c1]
      · exact denL_cons.mpr ⟨q.2, _, rfl, b1, c2⟩
    · cases e
section
variable {X : Cx} {G : Cf} {W : WX} {pos : Pos}
/-- the pairs of a display -/
structure Prs (X : Cx) (G : Cf) (W : WX) (pos : Pos) (keys : List (Option Expr)) (values : List Expr) (ps : List (ME × ME)) : Prop where
  pp : PPs X pos keys values (ps.map fun p => (tE G W p.1, tE G W p.2))
theorem prs_nil : Prs X G W pos [] [] [] := ⟨pps_nil⟩
theorem prs_cons {k v : Expr} {ks : List (Option Expr)} {vs : List Expr} {mk mv : ME} {ps : List (ME × ME)} (hk : PE X k (tE G W mk)) (hv : PE X v (tE G W mv)) (h : Prs X G W pos ks vs ps) : Prs X G W pos (some k :: ks) (v :: vs) ((mk, mv) :: ps) := ⟨pps_cons hk hv h.pp⟩
theorem tPairs_of {σ : L2.St} : ∀ {ps : List (ME × ME)} {H : Hp} {Q : List (V × V) → Hp → Prop} {et : List Addr} {env : EV} {h : IH}, EnvR G et H env σ → HRel G et h H →
    Pst G et H (mPr ps env h) (fun et' H' h' qs => HRel G et' h' H' → ∀ vs : List (V × V), DenL G et' H' (qs.map (·.1)) (vs.map (·.1)) → DenL G et' H' (qs.map (·.2)) (vs.map (·.2)) → Q vs H') (fun c d H' => W c d σ H') →
    tPairs (ps.map fun p => (tE G W p.1, tE G W p.2)) σ H Q
  | [], H, Q, et, env, h, hE, hH, hP => hP et H List.prefix_rfl (Ext.refl H) hH hH [] (by simp) (by simp)
  | (k, v) :: ps, H, Q, et, env, h, hE, hH, hP => by
    refine ⟨et, env, h, hE, hH, (Pst.of_bind hP).imp fun et1 H1 h1 x p1 e1 hr1 q1 vx hx => ?_⟩
    have hE1 := hE.mono p1 e1
    refine ⟨et1, env, h1, hE1, hr1, (Pst.of_bind q1).imp fun et2 H2 h2 y p2 e2 hr2 q2 vy hy => ?_⟩
    have hE2 := hE1.mono p2 e2
    refine tPairs_of hE2 hr2 ((Pst.of_bind q2).imp fun et3 H3 h3 qs p3 e3 hr3 q3 _ vs a1 a2 => ?_)
    exact q3 et3 H3 List.prefix_rfl (Ext.refl _) hr3 hr3 ((vx, vy) :: vs) (denL_cons.mpr ⟨vx, _, rfl, (hx.mono p2 e2).mono p3 e3, a1⟩) (denL_cons.mpr ⟨vy, _, rfl, hy.mono p3 e3, a2⟩)
theorem me_dict {keys : List (Option Expr)} {values : List Expr} {ps : List (ME × ME)} (h : Prs X G W pos keys values ps) (hall : keys.all (·.isSome) = true := by rfl) (hl : keys.length = values.length := by rfl) (h0 : keys ≠ [] := by exact fun z => nomatch z) (h15 : keys.length ≤ 15 := by decide) :
    PE X (.Dict keys values pos) (tE G W (mDict ps)) := PE.imp (pe_disp h.pp hall hl h0 h15) fun σ H Q ⟨et, env, h, hE, hH, hP⟩ p hp => by
  have hH1 : HRel G (et ++ [p]) (h ++ [.dk []]) (upd H p (.dK [])) := hH.push hp ⟨[], upd_same, rfl, by simp⟩
  have pf : et <+: et ++ [p] := List.prefix_append _ _
  refine tPairs_of (hE.mono pf (Ext.new hp)) hH1 ((Pst.of_bind (Pst.weak pf (Ext.new hp) hP)).imp fun et2 H2 h2 qs p2 e2 hr2 q2 => ?_)
  split at q2
  · rename_i kvs ek
    split at q2
    · rename_i c
      intro _ vs a1 a2
      obtain ⟨ws, rfl, k1⟩ := keyPs_ok ek a1 a2
      have hp2 : et2[h.length]? = some p := by
        obtain ⟨t, rfl⟩ := p2
        rw [List.getElem?_append_left (by simp [hH.len]), ← hH.len]
        simp
      have hc := c.2
      unfold dkAt at hc
      split at hc
      · rename_i hcell
        obtain ⟨w0, c1, c2, c3⟩ := hr2.cell _ _ p hcell hp2
        have w00 : w0 = [] := by simpa using c2
        subst w00
        have hl : ws.length = kvs.length := by have := congrArg List.length k1.1; simpa using this
        refine ⟨c1, ws, rfl, by rw [hl]; exact c.1, ?_⟩
        have hcl : CellOk G et2 (upd H2 p (.dK (mergeK [] ws))) p (.dk (kvs.foldl (fun acc p => putKD acc p.1 p.2) [])) :=
          ⟨_, upd_same, (denK_fold k1 (kvs := []) (ws := []) ⟨rfl, by simp⟩).mono List.prefix_rfl (Ext.mut c1 trivial)⟩
        exact q2 et2 _ List.prefix_rfl (Ext.mut c1 trivial) (hr2.set hcell hp2 rfl c1 trivial hcl) _ (den_ref.mpr ⟨p, hp2, rfl⟩)
      · cases hc
    · exact q2.elim
  · exact q2.elim
theorem me_dict0 : PE X (.Dict [] [] pos) (tE G W (mDict [])) := PE.imp pe_dnewK fun σ H Q ⟨et, env, h, hE, hH, hP⟩ p hp => by
  have hH1 : HRel G (et ++ [p]) (h ++ [.dk []]) (upd H p (.dK [])) := hH.push hp ⟨[], upd_same, rfl, by simp⟩
  have e : mDict [] env h = .ok (.ref h.length) (h ++ [.dk []]) := by
    simp [mDict, mPr, R.bind, keyPs, dkAt]
  rw [e] at hP
  refine hP (et ++ [p]) _ (List.prefix_append _ _) (Ext.new hp) hH1 _ (den_ref.mpr ⟨p, ?_, rfl⟩)
  rw [← hH.len]
  simp
end
end NR

set_option Elab.async false
set_option linter.all false
set_option maxRecDepth 100000
/-! Lists and dicts that are locked: values from then on. -/
namespace NR
open PySem PySem.Spec PyProof.Rows L2
open Classical in
/-- what an expression made anew is locked -/
noncomputable def fzR (h : IH) (r : R D) : R D := match r with
  | .ok (.ref n) h' => match h'[n]? with
    | some (.lst xs) => if h.length ≤ n ∧ D.loL h.length xs = true ∧ okB h.length h h' then .ok (.fl xs) (h'.take h.length) else .ok (.ref n) h'
    | some (.dk kvs) => if h.length ≤ n ∧ D.loL h.length (kvs.map (·.2)) = true ∧ okB h.length h h' then .ok (.fd (kvs.map (·.1)) (kvs.map (·.2))) (h'.take h.length) else .ok (.ref n) h'
    | _ => .ok (.ref n) h'
  | r => r
noncomputable def mFz (m : ME) : ME := fun env h => fzR h (m env h)
/-- a variable's list is locked ahead of a statement -/
def msFz (i : Nat) (b : MS) : MS := fun env h => match env[i]? with
  | some (some (.ref n)) => match h[n]? with
    | some (.lst xs) => b (env.set i (some (.fl xs))) (h.set n (.frz xs))
    | _ => b env h
  | _ => b env h
section
variable {G : Cf} {et et' : List Addr} {H H' : Hp} {h h' : IH}
theorem HRel.lock (R : HRel G et h H) {a : Addr} {o u : HO} (ho : H a = some o) (mu : Mut (some o)) (nin : ∀ (n : Nat) (c : Cell), h[n]? = some c → et[n]? = some a → c.isFrz = true) : HRel G et h (upd H a u) := by
  have ex : Ext H (upd H a u) := Ext.mut ho mu
  refine ⟨R.len, R.nd, fun n c b h1 h2 => ?_⟩
  have old := R.cell n c b h1 h2
  by_cases nb : b = a
  · subst nb
    have hf := nin n c h1 h2
    cases c with
    | frz xs =>
      obtain ⟨vs, h5, h6⟩ := old
      exact ⟨vs, h5.ext ex, h6.mono List.prefix_rfl ex⟩
    | _ => cases hf
  · exact old.mono List.prefix_rfl ex fun w e => by rw [upd_ne nb]; exact e
/-- a new cell is locked and forgotten -/
theorem HRel.lockNew {R0 : HRel G et h H} (R : HRel G et' h' H') (p : et <+: et') {n : Nat} {a : Addr} {c : Cell} {o u : HO} (hn : h'[n]? = some c) (ha : et'[n]? = some a) (f : c.isFrz = false) (ho : H' a = some o) (mu : Mut (some o)) (ln : h.length ≤ n)
    (ok : okB h.length h h') : HRel G et (h'.take h.length) (upd H' a u) := by
  have al := okB_all R0 ok
  have R1 := R.cut p al
  rw [R0.len] at R1
  refine R1.lock ho mu fun m c' h1 h2 => ?_
  have hm : m < h.length := by
    have := (List.getElem?_eq_some_iff.mp h1).1
    rw [List.length_take] at this
    omega
  rw [List.getElem?_take_of_lt hm] at h1
  obtain ⟨t, rfl⟩ := p
  have h3 : (et ++ t)[m]? = some a := by
    rw [List.getElem?_append_left (by rw [R0.len]; exact hm)]
    exact h2
  cases hf : c'.isFrz with
  | true => rfl
  | false =>
    have := R.nd m n c' c a h1 hn h3 ha hf f
    omega
end
section
variable {X : Cx} {G : Cf} {W : WX} {e : Expr} {m : ME} {st : Stmt} {b : MS}
theorem me_fz (he : PE X e (tE G W m)) : PE X e (tE G W (mFz m)) := ⟨fun pins s σ H Q I ⟨et, env, h, hE, hH, hP⟩ => by
  have main : Pst G et H (m env h) (fun et' H' _ d => ∀ v, Den G et' H' d v → Q v H' ∨ ∃ a u, H' a = some u ∧ Mut (some u) ∧ ∀ od, Q v (upd H' a (.frz od u))) (fun c d H' => W c d σ H') := by
    have hP : Pst G et H (fzR h (m env h)) _ _ := hP
    revert hP
    cases m env h with
    | no => exact fun z => z
    | ex c d h' => exact fun z => z
    | ok d h' =>
      intro hP
      have dull : Pst G et H (.ok d h') (fun et' H' _ d => ∀ v, Den G et' H' d v → Q v H') (fun c d H' => W c d σ H') → Pst G et H (.ok d h') (fun et' H' _ d => ∀ v, Den G et' H' d v → Q v H' ∨ ∃ a u, H' a = some u ∧ Mut (some u) ∧ ∀ od, Q v (upd H' a (.frz od u))) (fun c d H' => W c d σ H') := fun z => z.imp fun et1 H1 h1 a p e hr q v hv => .inl (q v hv)
      unfold fzR at hP
      split at hP
      · rename_i n h2 heq
        cases heq
        split at hP
        · rename_i xs hx
          split at hP
          · rename_i c
            intro et' H' p e hr v hv
            obtain ⟨a, ha, rfl⟩ := den_ref.mp hv
            obtain ⟨vs, k1, k2⟩ := hr.cell n _ a hx ha
            refine .inr ⟨a, .lst vs, k1, True.intro, fun od => ?_⟩
            have hr2 : HRel G et (h'.take h.length) (upd H' a (.frz od (.lst vs))) := HRel.lockNew (R0 := hH) hr p hx ha rfl k1 True.intro c.1 c.2.2
            have ex : Ext H' (upd H' a (.frz od (.lst vs))) := Ext.mut k1 True.intro
            have lo := c.2.1
            rw [← hH.len] at lo
            exact hP et _ List.prefix_rfl (e.trans ex) hr2 _ (den_fl.mpr ⟨a, vs, rfl, ⟨od, upd_same⟩, (k2.back p lo).mono List.prefix_rfl ex⟩)
          · exact dull hP
        · rename_i xs hx
          split at hP
          · rename_i c
            intro et' H' p e hr v hv
            obtain ⟨a, ha, rfl⟩ := den_ref.mp hv
            obtain ⟨ws, k1, k2, k3⟩ := hr.cell n _ a hx ha
            refine .inr ⟨a, .dK ws, k1, True.intro, fun od => ?_⟩
            have hr2 : HRel G et (h'.take h.length) (upd H' a (.frz od (.dK ws))) := HRel.lockNew (R0 := hH) hr p hx ha rfl k1 True.intro c.1 c.2.2
            have ex : Ext H' (upd H' a (.frz od (.dK ws))) := Ext.mut k1 True.intro
            have lo := c.2.1
            rw [← hH.len] at lo
            exact hP et _ List.prefix_rfl (e.trans ex) hr2 _ (den_fd.mpr ⟨a, ws, rfl, ⟨od, upd_same⟩, by rw [k2, List.map_map]; rfl, (k3.back p lo).mono List.prefix_rfl ex⟩)
          · exact dull hP
        · exact dull hP
      · exact dull hP
  refine thn (he.run pins s σ H _ I ⟨et, env, h, hE, hH, main⟩) fun v s1 ⟨x, H1, I1, r, q⟩ => ?_
  rcases q with q | ⟨a, u, k1, mu, q⟩
  · exact ⟨x, H1, I1, r, q⟩
  · obtain ⟨od, I2⟩ := I1.lock k1 mu
    exact ⟨x, _, I2, r, q od⟩⟩
theorem ms_fz (i : Nat) (hs : PS X st (tS G W b)) : PS X st (tS G W (msFz i b)) := ⟨fun pins s σ H D I ⟨et, env, h, hE, hH, hP⟩ => by
  unfold msFz at hP
  split at hP
  · rename_i n he
    split at hP
    · rename_i xs hx
      obtain ⟨v, e1, r⟩ := hE.2 i _ he
      obtain ⟨a, ha, rfl⟩ := den_ref.mp r
      obtain ⟨vs, k1, k2⟩ := hH.cell n _ a hx ha
      obtain ⟨od, I1⟩ := I.lock k1 True.intro
      have ex : Ext H (upd H a (.frz od (.lst vs))) := Ext.mut k1 True.intro
      have hf : DenL G et (upd H a (.frz od (.lst vs))) xs vs := k2.mono List.prefix_rfl ex
      have hE1 := (hE.mono (et' := et) List.prefix_rfl ex).set i (den_fl.mpr ⟨a, vs, rfl, ⟨od, upd_same⟩, hf⟩)
      have es : σ.set i (some (.ref a)) = σ := by
        apply List.ext_getElem?
        intro j
        by_cases hj : i = j
        · subst hj
          rw [List.getElem?_set_self (List.getElem?_eq_some_iff.mp e1).1, e1]
        · rw [List.getElem?_set_ne hj]
      rw [es] at hE1
      have hc : CellOk G et (upd H a (.frz od (.lst vs))) a (.frz xs) := ⟨vs, .inl ⟨od, upd_same⟩, hf⟩
      exact hs.run pins s σ _ D I1 ⟨et, _, _, hE1, hH.set hx ha rfl k1 True.intro hc, hP.weak List.prefix_rfl ex⟩
    · exact hs.run pins s σ H D I ⟨et, env, h, hE, hH, hP⟩
  · exact hs.run pins s σ H D I ⟨et, env, h, hE, hH, hP⟩⟩
theorem ms_setF {i : Nat} (hs : PS X st (tS G W (msSet i m))) : PS X st (tS G W (msSet i (mFz m))) := ⟨fun pins s σ H D I ⟨et, env, h, hE, hH, hP⟩ => by
  have main : PstS G et H (msSet i m env h) { D with nx := fun σ' H' => D.nx σ' H' ∨ ∃ a u, H' a = some u ∧ Mut (some u) ∧ ∀ od, D.nx σ' (upd H' a (.frz od u)) } W := by
    have hP : PstS G et H ((fzR h (m env h)).bindS env fun d h1 => .nx (env.set i (some d)) h1) D W := hP
    show PstS G et H ((m env h).bindS env fun d h1 => .nx (env.set i (some d)) h1) _ W
    revert hP
    cases m env h with
    | no => exact fun z => z
    | ex c d h' => exact fun z => z
    | ok d h' =>
      intro hP
      have dull : PstS G et H (.nx (env.set i (some d)) h') D W → PstS G et H (.nx (env.set i (some d)) h') { D with nx := fun σ' H' => D.nx σ' H' ∨ ∃ a u, H' a = some u ∧ Mut (some u) ∧ ∀ od, D.nx σ' (upd H' a (.frz od u)) } W := fun z et1 H1 σ1 p e r E => .inl (z et1 H1 σ1 p e r E)
      have slots : ∀ {n : Nat} {et' : List Addr} {H' : Hp} {σ' : L2.St} {a : Addr} {d' : NR.D} {H2 : Hp}, EnvR G et' H' (env.set i (some (.ref n))) σ' → et <+: et' → et'[n]? = some a → Ext H' H2 → Den G et H2 d' (.ref a) → EnvR G et H2 (env.set i (some d')) σ' := fun {n et' H' σ' a d' H2} E p ha ex r => by
        refine ⟨by have := E.1; simpa using this, fun j d'' q => ?_⟩
        by_cases hj : i = j
        · subst hj
          by_cases hl : i < env.length
          · rw [List.getElem?_set_self hl] at q
            cases q
            obtain ⟨v, e1, r1⟩ := E.2 i (.ref n) (by rw [List.getElem?_set_self hl])
            obtain ⟨b, hb, rfl⟩ := den_ref.mp r1
            rw [ha] at hb
            cases hb
            exact ⟨_, e1, r⟩
          · rw [List.getElem?_eq_none (by simp; omega)] at q
            cases q
        · rw [List.getElem?_set_ne hj] at q
          obtain ⟨v0, _, r0⟩ := hE.2 j d'' q
          obtain ⟨v, e1, r1⟩ := E.2 j d'' (by rw [List.getElem?_set_ne hj]; exact q)
          exact ⟨v, e1, (r1.back p r0.lo).mono List.prefix_rfl ex⟩
      unfold fzR at hP
      split at hP
      · rename_i n h2 heq
        cases heq
        split at hP
        · rename_i xs hx
          split at hP
          · rename_i c
            intro et' H' σ' p e hr E
            obtain ⟨a, ha⟩ := hr.addr hx
            obtain ⟨vs, k1, k2⟩ := hr.cell n _ a hx ha
            refine .inr ⟨a, .lst vs, k1, True.intro, fun od => ?_⟩
            have hr2 : HRel G et (h'.take h.length) (upd H' a (.frz od (.lst vs))) := HRel.lockNew (R0 := hH) hr p hx ha rfl k1 True.intro c.1 c.2.2
            have ex : Ext H' (upd H' a (.frz od (.lst vs))) := Ext.mut k1 True.intro
            have lo := c.2.1
            rw [← hH.len] at lo
            exact hP et _ σ' List.prefix_rfl (e.trans ex) hr2 (slots E p ha ex (den_fl.mpr ⟨a, vs, rfl, ⟨od, upd_same⟩, (k2.back p lo).mono List.prefix_rfl ex⟩))
          · exact dull hP
        · rename_i xs hx
          split at hP
          · rename_i c
            intro et' H' σ' p e hr E
            obtain ⟨a, ha⟩ := hr.addr hx
            obtain ⟨ws, k1, k2, k3⟩ := hr.cell n _ a hx ha
            refine .inr ⟨a, .dK ws, k1, True.intro, fun od => ?_⟩
            have hr2 : HRel G et (h'.take h.length) (upd H' a (.frz od (.dK ws))) := HRel.lockNew (R0 := hH) hr p hx ha rfl k1 True.intro c.1 c.2.2
            have ex : Ext H' (upd H' a (.frz od (.dK ws))) := Ext.mut k1 True.intro
            have lo := c.2.1
            rw [← hH.len] at lo
            exact hP et _ σ' List.prefix_rfl (e.trans ex) hr2 (slots E p ha ex (den_fd.mpr ⟨a, ws, rfl, ⟨od, upd_same⟩, by rw [k2, List.map_map]; rfl, (k3.back p lo).mono List.prefix_rfl ex⟩))
          · exact dull hP
        · exact dull hP
      · exact dull hP
  refine thn (hs.run pins s σ H _ I ⟨et, env, h, hE, hH, main⟩) fun f s1 q => ?_
  cases f with
  | next =>
    obtain ⟨σ', H', I2, q⟩ := q
    rcases q with q | ⟨a, u, k1, mu, q⟩
    · exact ⟨σ', H', I2, q⟩
    · obtain ⟨od, I3⟩ := I2.lock k1 mu
      exact ⟨σ', _, I3, q od⟩
  | brk => exact q
  | cont => exact q
  | ret v => exact q⟩
end
end NR

set_option Elab.async false
set_option linter.all false
set_option maxRecDepth 100000
/-! Exceptions: raise, try .. except X (as e), isinstance of what is caught. -/
namespace NR
open PySem PySem.Spec PyProof.Rows L2
/-- classes by their names -/
def clOf (l : List (Str × Addr)) (s : Str) : Addr := (l.lookup s).getD 0
/-- ValueError, or an own class -/
def clV (cl : Str → Addr) (y : Str) : V := if y = "ValueError" then .ty "ValueError" else .ref (cl y)
def clU (cl : Str → Addr) (y : Str) : Value := if y = "ValueError" then .type "ValueError" else .ref (cl y)
abbrev CTab := List ((Str × Str) × Bool)
def CTab.get (t : CTab) (c y : Str) : Option Bool := t.lookup (c, y)
/-- an own class over ValueError, without __init__ -/
structure ExC1 (K : PySem.W.Frag) (mg : Str → Option Value) (x : Str) (C : Addr) : Prop where
  g : mg x = some (.ref C)
  q : PySem.W.excIn K C [.type "ValueError", .type "Exception", .type "BaseException", .type "object"] "ValueError.__new__" = true
  k : PySem.W.keepIn K (.ref C) = true
  b : PySem.W.subIn K (.ref C) (.type "BaseException") = some true
  t : PySem.W.typeIn K (.ref C) = some (.type "type")
  e : ExcC K C
/-- pairs of classes: is the one under the other (as a clause asks, as isinstance asks) -/
def ExH (K : PySem.W.Frag) (cl : Str → Addr) (t : CTab) : Prop := ∀ p ∈ t, PySem.W.exmOne K (.ref (cl p.1.1)) (clU cl p.1.2) = some p.2
def ExI (K : PySem.W.Frag) (cl : Str → Addr) (t : CTab) : Prop := ∀ p ∈ t, PySem.W.kitOne K (.ref (cl p.1.1)) (clU cl p.1.2) = some p.2 ∧ ExcC K (cl p.1.1)
theorem exH_nil {K : PySem.W.Frag} {cl : Str → Addr} : ExH K cl [] := fun _ h => by cases h
theorem exH_cons {K : PySem.W.Frag} {cl : Str → Addr} {t : CTab} {p : (Str × Str) × Bool} (h : PySem.W.exmOne K (.ref (cl p.1.1)) (clU cl p.1.2) = some p.2) (r : ExH K cl t) : ExH K cl (p :: t) := fun q hq => by
  rcases List.mem_cons.mp hq with rfl | hq
  · exact h
  · exact r q hq
theorem exI_nil {K : PySem.W.Frag} {cl : Str → Addr} : ExI K cl [] := fun _ h => by cases h
theorem exI_cons {K : PySem.W.Frag} {cl : Str → Addr} {t : CTab} {p : (Str × Str) × Bool} (h : PySem.W.kitOne K (.ref (cl p.1.1)) (clU cl p.1.2) = some p.2) (e : ExcC K (cl p.1.1)) (r : ExI K cl t) : ExI K cl (p :: t) := fun q hq => by
  rcases List.mem_cons.mp hq with rfl | hq
  · exact ⟨h, e⟩
  · exact r q hq
theorem CTab.mem : ∀ {t : CTab} {c y : Str} {b : Bool}, t.get c y = some b → ((c, y), b) ∈ t
  | [], _, _, _, h => by simp [CTab.get] at h
  | (k, v) :: t, c, y, b, h => by
    unfold CTab.get at h
    rw [List.lookup_cons] at h
    split at h
    · rename_i e
      cases h
      have := eq_of_beq e
      rw [← this]
      exact List.mem_cons_self
    · exact List.mem_cons_of_mem _ (CTab.mem (t := t) h)
theorem ExH.get {K : PySem.W.Frag} {cl : Str → Addr} {t : CTab} (x : ExH K cl t) {c y : Str} {b : Bool} (h : t.get c y = some b) : PySem.W.exmOne K (.ref (cl c)) (clU cl y) = some b := x _ (CTab.mem h)
theorem ExI.get {K : PySem.W.Frag} {cl : Str → Addr} {t : CTab} (x : ExI K cl t) {c y : Str} {b : Bool} (h : t.get c y = some b) : PySem.W.kitOne K (.ref (cl c)) (clU cl y) = some b ∧ ExcC K (cl c) := x _ (CTab.mem h)

theorem kit_ref {K : PySem.W.Frag} {C D : Addr} {b : Bool} (hdct : PySem.W.hasDictIn K C = true) (ht : PySem.W.typeIn K (.ref C) = some (.type "type")) (h : PySem.W.subIn K (.ref D) (.ref C) = some b) (h0 : PySem.W.subIn K (.ref C) (.ref C) = some true) : PySem.W.kitOne K (.ref D) (.ref C) = some b := by
  obtain ⟨cd, hc, _⟩ := PySem.W.any_some hdct
  unfold PySem.W.kitOne
  split
  · rename_i e
    have := eq_of_beq e
    cases this
    rw [h0] at h
    exact h
  · unfold PySem.W.kitCls
    dsimp only
    rw [hc, ht]
    exact h
theorem kit_val {K : PySem.W.Frag} {D : Addr} {b : Bool} (h : PySem.W.subIn K (.ref D) (.type "ValueError") = some b) : PySem.W.kitOne K (.ref D) (.type "ValueError") = some b := by
  unfold PySem.W.kitOne
  split
  · rename_i e
    have := eq_of_beq e
    cases this
  · unfold PySem.W.kitCls
    dsimp only
    rw [if_pos (by decide +kernel)]
    exact h
/-! ### raise -/
def msRaise (x : Str) : MS := fun env h => .ex x none env h
section
variable {X : Cx} {G : Cf} {W : WX}
theorem ms_raise {x m : Str} {j : Nat} {p p2 pos pos2 : Pos} (hc : X.calm = true) (tk : Takes X W) (F : ExC1 X.K X.mg x (G.C x)) (hg : Gl X x := by rfl) (hdb : (x == ("__debug__" : Str)) = false := by decide) :
    PS X (.Raise (some (.Call (.Name x p) [.Constant (.str m) j p2] [] pos)) none pos2) (tS G W (msRaise x)) :=
  PS.imp (ps_raise hc tk (pmk_own PySem.F.excBase_ValueError F.q F.g F.k (raises_own F.b F.t) hg hdb)) fun D σ H ⟨et, env, h, hE, hH, hP⟩ =>
    hP et H σ _ none List.prefix_rfl (Ext.refl H) hH hE ⟨rfl, rfl⟩
end
/-! ### isinstance in a suite -/
def rIsET (K : PySem.W.Frag) (D a : Addr) : List V → Hp → VK → Prop := fun xs H Q => ∃ (tp : Addr) (cs : List V) (us : List Value) (b : Bool), xs = [.ref a, .ref tp] ∧ H tp = some (.tup cs) ∧ Paired ClsV cs us ∧ PySem.W.kitAny K (.ref D) us = some b ∧ Q (.bl b) H
theorem call_isET {X : Cx} {a D : Addr} {oe : Obj} {pn : List (Addr × Obj)} (C : ExcC X.K D) (hz : Zc (.ref D) none oe) (hf : ∃ vs, oe.data = .fields vs) : CallR (X.suite a ((a, oe) :: pn)) (.builtin "isinstance") (rIsET X.K D a) := by
  intro pins s σ H xs us Q I r h
  obtain ⟨tp, cs, ws, b, rfl, hT, k, e, q⟩ := h
  obtain ⟨u1, u2, rfl, r1, r2⟩ := vals2 r
  cases (show u2 = Value.ref tp from r2)
  cases (show u1 = Value.ref a from r1)
  obtain ⟨hget, _⟩ := I.pin (a, oe) (List.mem_append.mpr (.inl List.mem_cons_self))
  obtain ⟨vs, hv⟩ := hf
  have J : PySem.W.InstAt s.heap a oe D none := by
    obtain ⟨oc, od, oda, osl⟩ := oe
    obtain ⟨h1, h2⟩ := hz
    dsimp only at h1 h2 hv
    subst h1 h2 hv
    exact ⟨hget, rfl, rfl, trivial⟩
  obtain ⟨_, its, rv, o, h1, h2, n, h3⟩ := (show ObjOk _ _ H s.heap tp (.tup cs) from I.hok tp _ hT)
  have e3 := ClsV.all k rv
  subst e3
  obtain ⟨oc, od, dt, sl⟩ := o
  simp only at h2 h3
  subst h2 h3
  exact PySem.W.kia_tup (PySem.W.handS_kitx_exc C.hg C.hk C.hs C.hd C.ha C.hn C.ht C.hm) I.kIn J h1 e (fun z => nomatch z) fun tk => ⟨.bl b, H, I.kept (t' := tk) fun _ _ z => z, rfl, q⟩
theorem pe_no {X : Cx} {G : Cf} {W : WX} {e : Expr} {m : ME} (h0 : ∀ env h, m env h = .no) : PE X e (tE G W m) := ⟨fun _ _ _ _ _ _ ⟨et, env, h, _, _, hP⟩ => by
  rw [h0] at hP
  exact hP.elim⟩
def mIsE (t : CTab) (c : Str) (a i : Nat) (y : Str) : ME := fun env h => match env[i]? with
  | some (some (.exc a')) => if a' = a then (match t.get c y with | some b => .ok (.bl b) h | none => .no) else .no
  | _ => .no
def mIsET (t : CTab) (c : Str) (a i : Nat) (ys : List Str) : ME := fun env h => match env[i]? with
  | some (some (.exc a')) => if a' = a then (match allM' (t.get c) ys with | some bs => .ok (.bl (bs.any id)) h | none => .no) else .no
  | _ => .no
where allM' (f : Str → Option Bool) : List Str → Option (List Bool)
  | [] => some []
  | y :: ys => match f y, allM' f ys with
    | some b, some bs => some (b :: bs)
    | _, _ => none
/-- the classes that a tuple names -/
inductive CNs (X : Cx) (cl : Str → Addr) : List Str → List Expr → Prop
  | nil : CNs X cl [] []
  | own {y : Str} {ys : List Str} {es : List Expr} {p : Pos} (hg : Gl X y) (hm : X.mg y = some (.ref (cl y))) (hn : y ≠ "ValueError") (hd : (y == ("__debug__" : Str)) = false) (h : CNs X cl ys es) : CNs X cl (y :: ys) (.Name y p :: es)
  | val {ys : List Str} {es : List Expr} {p : Pos} (hg : Gl X "ValueError") (hm : X.mg "ValueError" = none) (h : CNs X cl ys es) : CNs X cl ("ValueError" :: ys) (.Name "ValueError" p :: es)
section
variable {X : Cx} {cl : Str → Addr}
theorem clV_own {y : Str} (hn : y ≠ "ValueError") : clV cl y = .ref (cl y) := by unfold clV; rw [if_neg hn]
theorem clU_own {y : Str} (hn : y ≠ "ValueError") : clU cl y = .ref (cl y) := by unfold clU; rw [if_neg hn]
theorem clV_val : clV cl "ValueError" = .ty "ValueError" := if_pos rfl
theorem clU_val : clU cl "ValueError" = .type "ValueError" := if_pos rfl
theorem clV_U (y : Str) : ClsV (clV cl y) (clU cl y) := by
  unfold clV clU
  split
  · exact .ty _
  · exact .own _
theorem CNs.pa : ∀ {ys : List Str} {es : List Expr}, CNs X cl ys es → PA X es (fun _ H Q => Q (ys.map (clV cl)) H)
  | [], _, .nil => pa_nil
  | _ :: _, _, .own (y := y) hg hm hn hd h => ⟨fun pos pins s σ H Q I q => (pa_cons (pe_glob (v := .ref (cl y)) hg hm rfl hd) h.pa rfl).run pos pins s σ H Q I (by rw [List.map_cons, clV_own hn] at q; exact q)⟩
  | _ :: _, _, .val hg hm h => ⟨fun pos pins s σ H Q I q => (pa_cons (pe_bltn (v := .ty "ValueError") hg hm (by decide +kernel : bootBuiltins "ValueError" = some (.type "ValueError")) rfl) h.pa rfl).run pos pins s σ H Q I (by rw [List.map_cons, clV_val] at q; exact q)⟩
theorem CNs.len : ∀ {ys : List Str} {es : List Expr}, CNs X cl ys es → es.length = ys.length
  | [], _, .nil => rfl
  | _ :: _, _, .own _ _ _ _ h => by simp [h.len]
  | _ :: _, _, .val _ _ h => by simp [h.len]
theorem paired_cls : ∀ ys : List Str, Paired ClsV (ys.map (clV cl)) (ys.map (clU cl))
  | [] => .nil
  | y :: ys => .cons (clV_U y) (paired_cls ys)
theorem kitAny_of {K : PySem.W.Frag} {t : CTab} {c : Str} (F : ExI K cl t) : ∀ {ys : List Str} {bs : List Bool}, mIsET.allM' (t.get c) ys = some bs → PySem.W.kitAny K (.ref (cl c)) (ys.map (clU cl)) = some (bs.any id)
  | [], bs, e => by
    simp only [mIsET.allM', Option.some.injEq] at e
    subst e
    rfl
  | y :: ys, bs, e => by
    unfold mIsET.allM' at e
    split at e
    · rename_i b bs' e1 e2
      cases e
      rw [List.map_cons]
      unfold PySem.W.kitAny
      rw [(F.get e1).1]
      cases b with
      | true => simp
      | false =>
        dsimp only
        rw [kitAny_of F e2]
        simp
    · cases e
end
section
variable {X : Cx} {G : Cf} {W : WX} {a : Addr} {oe : Obj} {pn : List (Addr × Obj)} {p p1 p2 pos : Pos}
theorem me_isE {t : CTab} {c y n : Str} (i : Nat) (hz : Zc (.ref (G.C c)) none oe) (hf : ∃ vs, oe.data = .fields vs) (F : ExI X.K G.C t) (hm : X.mg "isinstance" = none) (hy : CNs (X.suite a ((a, oe) :: pn)) G.C [y] [.Name y p2])
    (hN : X.N[i]? = some n := by rfl) (hv : Vis X.env.scope n := by first | exact Or.inl rfl | exact Or.inr (Or.inl rfl) | exact Or.inr (Or.inr rfl)) (hg : Gl X "isinstance" := by rfl) (hd : (n == ("__debug__" : Str)) = false := by decide) (hcd : (n == ("__classdict__" : Str)) = false := by decide) (hb : bootBuiltins "isinstance" = some (.builtin "isinstance") := by decide +kernel)
    (hs1 : starEach [.Name n p1, .Name y p2] X.env = (false, eval (.Name n p1) X.env) :: starEach [.Name y p2] X.env := by rfl) (hpl : (backTo pos (starEach [.Name y p2] X.env)).any (·.1) = false := by rfl) :
    PE (X.suite a ((a, oe) :: pn)) (.Call (.Name "isinstance" p) [.Name n p1, .Name y p2] [] pos) (tE G W (mIsE t c a i y)) := by
  cases hg0 : t.get c y with
  | none =>
    refine pe_no fun env h => ?_
    unfold mIsE
    split
    · split
      · rw [hg0]
      · rfl
    · rfl
  | some b0 =>
  have C := (F.get hg0).2
  exact PE.imp (pe_callB (X := X.suite a ((a, oe) :: pn)) (call_isE C hz hf) hg hm hb (pa_cons (pe_var (X := X.suite a ((a, oe) :: pn)) hN hv hd hcd) hy.pa hs1) (by decide) (by decide) hs1 hpl) fun σ H Q ⟨et, env, h, hE, hH, hP⟩ => by
    unfold mIsE at hP
    split at hP
    · rename_i a' ha
      obtain ⟨v, e1, r⟩ := hE.2 i _ ha
      have ev : v = .ref a' := by simpa [Den] using r
      subst ev
      split at hP
      · rename_i ea
        subst ea
        split at hP
        · rename_i b hb
          exact ⟨_, e1, clV G.C y, clU G.C y, b, rfl, fun u ru => ClsV.eq (clV_U y) ru, (F.get hb).1, hP.here hH _ (by simp)⟩
        · exact hP.elim
      · exact hP.elim
    · exact hP.elim
theorem me_isET {t : CTab} {c n : Str} {ys : List Str} {es : List Expr} {k : Nat} (i : Nat) (hz : Zc (.ref (G.C c)) none oe) (hf : ∃ vs, oe.data = .fields vs) (F : ExI X.K G.C t) (hm : X.mg "isinstance" = none) (hy : CNs (X.suite a ((a, oe) :: pn)) G.C ys es)
    (hN : X.N[i]? = some n := by rfl) (hv : Vis X.env.scope n := by first | exact Or.inl rfl | exact Or.inr (Or.inl rfl) | exact Or.inr (Or.inr rfl)) (hl : ys.length ≤ 1000 := by decide) (hl0 : ys.length ≠ 0 := by decide) (hg : Gl X "isinstance" := by rfl) (hd : (n == ("__debug__" : Str)) = false := by decide) (hcd : (n == ("__classdict__" : Str)) = false := by decide) (hb : bootBuiltins "isinstance" = some (.builtin "isinstance") := by decide +kernel)
    (hs1 : starEach [.Name n p1, .Tuple es k p2] X.env = (false, eval (.Name n p1) X.env) :: starEach [.Tuple es k p2] X.env := by rfl) (hs2 : starEach [.Tuple es k p2] X.env = (false, eval (.Tuple es k p2) X.env) :: starEach [] X.env := by rfl) (hpl : (backTo pos (starEach [.Tuple es k p2] X.env)).any (·.1) = false := by rfl) :
    PE (X.suite a ((a, oe) :: pn)) (.Call (.Name "isinstance" p) [.Name n p1, .Tuple es k p2] [] pos) (tE G W (mIsET t c a i ys)) := by
  cases hg0 : mIsET.allM' (t.get c) ys with
  | none =>
    refine pe_no fun env h => ?_
    unfold mIsET
    split
    · split
      · rw [hg0]
      · rfl
    · rfl
  | some bs0 =>
  rcases Nat.eq_zero_or_pos ys.length with h0 | h0
  · exact absurd h0 hl0
  have C : ExcC X.K (G.C c) := by
    cases ys with
    | nil => exact absurd rfl hl0
    | cons y ys =>
      unfold mIsET.allM' at hg0
      split at hg0
      · rename_i b bs e1 e2
        exact (F.get e1).2
      · cases hg0
  exact PE.imp (pe_callB (X := X.suite a ((a, oe) :: pn)) (call_isET C hz hf) hg hm hb (pa_cons (pe_var (X := X.suite a ((a, oe) :: pn)) hN hv hd hcd) (pa_cons (pe_tup hy.pa) pa_nil hs2) hs1) (by decide) (by decide) hs1 hpl) fun σ H Q ⟨et, env, h, hE, hH, hP⟩ => by
    unfold mIsET at hP
    split at hP
    · rename_i a' ha
      obtain ⟨v, e1, r⟩ := hE.2 i _ ha
      have ev : v = .ref a' := by simpa [Den] using r
      subst ev
      split at hP
      · rename_i ea
        subst ea
        split at hP
        · rename_i bs hb
          refine ⟨_, e1, sz (by rw [List.length_map]; omega), fun tp htp => ?_⟩
          exact ⟨tp, _, _, _, rfl, upd_same, paired_cls ys, kitAny_of F hb, hP et (upd H tp (.tup _)) List.prefix_rfl (Ext.new htp) (hH.new htp) _ (by simp)⟩
        · exact hP.elim
      · exact hP.elim
    · exact hP.elim
end
/-! ### try -/
def RS.unset (i : Nat) : RS → RS
  | .nx e h => .nx (e.set i none) h
  | .bk e h => .bk (e.set i none) h
  | .ct e h => .ct (e.set i none) h
  | .rt d h => .rt d h
  | .ex _ _ _ _ => .no
  | .no => .no
def RS.calm : RS → RS
  | .ex _ _ _ _ => .no
  | r => r
open Classical in
/-- the same whatever the number is -/
noncomputable def anyA (F : Nat → RS) : RS := if e : ∃ r, ∀ a, F a = r then choose e else .no
theorem anyA_eq {F : Nat → RS} {r : RS} (e : ∀ a, F a = r) : anyA F = r := by
  have ex : ∃ r, ∀ a, F a = r := ⟨r, e⟩
  unfold anyA
  rw [dif_pos ex]
  exact ((Classical.choose_spec ex 0).symm.trans (e 0))
theorem anyA_or (F : Nat → RS) : (∀ a, F a = anyA F) ∨ anyA F = .no := by
  by_cases e : ∃ r, ∀ a, F a = r
  · unfold anyA
    rw [dif_pos e]
    exact .inl (Classical.choose_spec e)
  · unfold anyA
    rw [dif_neg e]
    exact .inr rfl
/-- try: body except y as (slot i): suite -/
noncomputable def msTryAs (t : CTab) (y : Str) (i : Nat) (body : MS) (suite : Str → Nat → MS) : MS := fun env h => match body env h with
  | .ex c none e h1 => match t.get c y with
    | some true => anyA fun a => RS.unset i (suite c a (e.set i (some (.exc a))) h1)
    | some false => .ex c none e h1
    | none => .no
  | .ex _ _ _ _ => .no
  | r => r
def msTry (t : CTab) (y : Str) (body : MS) (suite : Str → MS) : MS := fun env h => match body env h with
  | .ex c none e h1 => match t.get c y with
    | some true => RS.calm (suite c e h1)
    | some false => .ex c none e h1
    | none => .no
  | .ex _ _ _ _ => .no
  | r => r
theorem EnvR.unset {G : Cf} {et : List Addr} {H : Hp} {env : EV} {σ : L2.St} (x : EnvR G et H env σ) (i : Nat) (v : Option V) : EnvR G et H (env.set i none) (σ.set i v) := by
  refine ⟨by simp [x.1], fun j d q => ?_⟩
  by_cases hj : i = j
  · subst hj
    by_cases hl : i < env.length
    · rw [List.getElem?_set_self hl] at q
      cases q
    · rw [List.getElem?_eq_none (by simp; omega)] at q
      cases q
  · rw [List.getElem?_set_ne hj] at q
    obtain ⟨v, e1, r⟩ := x.2 j d q
    exact ⟨v, by rw [List.getElem?_set_ne hj]; exact e1, r⟩
section
variable {X : Cx} {G : Cf} {W : WX} {body suite : List Stmt} {b₀ : Stmt} {np pos pos' : Pos}
theorem ms_tryAs {t : CTab} {y n : Str} (i : Nat) {mb : MS} {ms : Str → Nat → MS} (hs : X.stack = X.env :: X.outer) (hf : X.env.frame = some X.env.locals) (hN : X.N.Nodup) (F : ExH X.K G.C t) (hm : X.mg y = some (.ref (G.C y))) (tk : Takes X W)
    (hb : ∀ (W : WX) (pn : List (Addr × Obj)) (xe : Value → Shared → Prop), Takes (X.tr pn xe) W → PassesOwn (model X.prog X.w) X.A X.env xe → PSs (X.tr pn xe) body (tS G W mb))
    (hsu : ∀ (c : Str) (a : Addr) (oe : Obj) (pn : List (Addr × Obj)), Zc (.ref (G.C c)) none oe → (∃ vs, oe.data = .fields vs) → PSs (X.suite a ((a, oe) :: pn)) (b₀ :: suite) (tS G W0 (ms c a)))
    (hi : X.N[i]? = some n := by rfl) (hln : X.env.kindOf n = some .local := by rfl) (hg : Gl X y := by rfl) (hn : y ≠ "ValueError" := by decide) (hd : (y == ("__debug__" : Str)) = false := by decide) :
    PS X (.Try body [.ExceptHandler (some (.Name y np)) (some n) (b₀ :: suite) pos'] [] [] pos) (tS G W (msTryAs t y i mb ms)) := by
  refine PS.imp (ps_try_as (i := i) (tb := fun W => tS G W mb) (ts := fun a cls d D σ H => ∃ c, cls = .ref (G.C c) ∧ d = none ∧ tS G W0 (ms c a) D σ H) (Wout := W) hs hf hN hi hln ⟨hg, hd, .inl hm⟩ tk hb
    (fun a oe cls d pn hz hf => ⟨fun pins s σ H D I ⟨c, h1, h2, r⟩ => by subst h1 h2; exact (hsu c a oe pn hz hf).run pins s σ H D I r⟩)) fun D σ H ⟨et, env, h, hE, hH, hP⟩ => ⟨et, env, h, hE, hH, ?_⟩
  unfold msTryAs at hP
  revert hP
  cases mb env h with
  | no => exact fun z => z
  | nx e h1 => exact fun z => z
  | rt e h1 => exact fun z => z
  | bk e h1 => exact fun z => z
  | ct e h1 => exact fun z => z
  | ex c d e h1 =>
    cases d with
    | some fs => exact fun z => z.elim
    | none =>
      intro hP et' H' σ' cls dd p ex hr hE' hx
      obtain ⟨rfl, hdd⟩ := hx
      have hdd : dd = none := hdd
      subst hdd
      dsimp only at hP
      cases ht : t.get c y with
      | none => rw [ht] at hP; exact hP.elim
      | some b =>
        rw [ht] at hP
        refine ⟨b, by have := F.get ht; rw [clU_own hn] at this; exact this, fun hb a _ => ?_, fun hb => ?_⟩
        · subst hb
          dsimp only at hP
          refine ⟨c, rfl, rfl, et', e.set i (some (.exc a)), h1, hE'.set i (by simp [Den]), hr, ?_⟩
          have q := PstS.weak p ex hP
          rcases anyA_or (fun a => RS.unset i (ms c a (e.set i (some (.exc a))) h1)) with z | z
          · rw [← z a] at q
            revert q
            cases ms c a (e.set i (some (.exc a))) h1 with
            | no => exact fun z => z
            | rt d h2 => exact fun z => z
            | ex _ _ _ _ => exact fun z => z.elim
            | nx e2 h2 => exact fun q et1 H1 σ1 p1 e1 r1 E1 => q et1 H1 _ p1 e1 r1 (E1.unset i none)
            | bk e2 h2 => exact fun q et1 H1 σ1 p1 e1 r1 E1 => q et1 H1 _ p1 e1 r1 (E1.unset i none)
            | ct e2 h2 => exact fun q et1 H1 σ1 p1 e1 r1 E1 => q et1 H1 _ p1 e1 r1 (E1.unset i none)
          · rw [z] at q
            exact q.elim
        · subst hb
          exact hP et' H' σ' _ none p ex hr hE' ⟨rfl, rfl⟩
theorem ms_try {t : CTab} {y : Str} {mb : MS} {ms : Str → MS} (hs : X.stack = X.env :: X.outer) (hf : X.env.frame = some X.env.locals) (F : ExH X.K G.C t) (hm : X.mg y = some (.ref (G.C y))) (tk : Takes X W)
    (hb : ∀ (W : WX) (pn : List (Addr × Obj)) (xe : Value → Shared → Prop), Takes (X.tr pn xe) W → PassesOwn (model X.prog X.w) X.A X.env xe → PSs (X.tr pn xe) body (tS G W mb))
    (hsu : ∀ (c : Str) (a : Addr) (oe : Obj) (pn : List (Addr × Obj)), Zc (.ref (G.C c)) none oe → (∃ vs, oe.data = .fields vs) → PSs (X.suite a ((a, oe) :: pn)) (b₀ :: suite) (tS G W0 (ms c)))
    (hg : Gl X y := by rfl) (hn : y ≠ "ValueError" := by decide) (hd : (y == ("__debug__" : Str)) = false := by decide) :
    PS X (.Try body [.ExceptHandler (some (.Name y np)) none (b₀ :: suite) pos'] [] [] pos) (tS G W (msTry t y mb ms)) := by
  refine PS.imp (ps_try_only (tb := fun W => tS G W mb) (ts := fun a cls d D σ H => ∃ c, cls = .ref (G.C c) ∧ d = none ∧ tS G W0 (ms c) D σ H) (Wout := W) hs hf ⟨hg, hd, .inl hm⟩ tk hb
    (fun a oe cls d pn hz hf => ⟨fun pins s σ H D I ⟨c, h1, h2, r⟩ => by subst h1 h2; exact (hsu c a oe pn hz hf).run pins s σ H D I r⟩)) fun D σ H ⟨et, env, h, hE, hH, hP⟩ => ⟨et, env, h, hE, hH, ?_⟩
  unfold msTry at hP
  revert hP
  cases mb env h with
  | no => exact fun z => z
  | nx e h1 => exact fun z => z
  | rt e h1 => exact fun z => z
  | bk e h1 => exact fun z => z
  | ct e h1 => exact fun z => z
  | ex c d e h1 =>
    cases d with
    | some fs => exact fun z => z.elim
    | none =>
      intro hP et' H' σ' cls dd p ex hr hE' hx
      obtain ⟨rfl, hdd⟩ := hx
      have hdd : dd = none := hdd
      subst hdd
      dsimp only at hP
      cases ht : t.get c y with
      | none => rw [ht] at hP; exact hP.elim
      | some b =>
        rw [ht] at hP
        refine ⟨b, by have := F.get ht; rw [clU_own hn] at this; exact this, fun hb a _ => ?_, fun hb => ?_⟩
        · subst hb
          dsimp only at hP
          refine ⟨c, rfl, rfl, et', e, h1, hE', hr, ?_⟩
          have q := PstS.weak p ex hP
          revert q
          cases ms c e h1 with
          | ex _ _ _ _ => exact fun z => z.elim
          | _ => exact fun z => z
        · subst hb
          exact hP et' H' σ' _ none p ex hr hE' ⟨rfl, rfl⟩
end
end NR

set_option Elab.async false
set_option linter.all false
set_option maxRecDepth 100000
/-! sorted, max, min of a list; pop, index; methods without arguments; one of two readings. -/
namespace NR
open PySem PySem.Spec PyProof.Rows L2
def relabelS (scope sc : Scope) : Scope :=
  { scope with names := scope.names.map fun (n, k) => if (k == .free && sc.kind == .function && sc.names.lookup n == some .cell) then (n, .cell) else (n, k) }
/-- a comprehension within another one -/
theorem blkOk_in {N : List Str} {outer sc scope : Scope} {env : PySem.Env} {own : List (Str × Nat)} (hs : env.scope = sc) (h : blkC N (relabelS outer sc) scope own = true) : BlkOk N (relabel outer env) scope own := by
  have e : relabel outer env = relabelS outer sc := by subst hs; rfl
  rw [e]
  exact blkOk_by h
/-- one of two readings of an expression -/
def mOrE (m1 m2 : ME) : ME := fun env h => match m1 env h with
  | .no => m2 env h
  | r => r
section
variable {X : Cx} {G : Cf} {W : WX} {e o : Expr} {m1 m2 mo : ME} {name : Str} {apos cpos : Pos} {T id : String} {r : V → List V → Hp → VK → Prop} {f : D → List D → IH → R D}
theorem me_orE (h1 : PE X e (tE G W m1)) (h2 : PE X e (tE G W m2)) : PE X e (tE G W (mOrE m1 m2)) := ⟨fun pins s σ H Q I ⟨et, env, h, hE, hH, hP⟩ => by
  unfold mOrE at hP
  cases e1 : m1 env h with
  | no =>
    rw [e1] at hP
    exact h2.run pins s σ H Q I ⟨et, env, h, hE, hH, hP⟩
  | ok d h' => rw [e1] at hP; exact h1.run pins s σ H Q I ⟨et, env, h, hE, hH, by rw [e1]; exact hP⟩
  | ex c d h' => rw [e1] at hP; exact h1.run pins s σ H Q I ⟨et, env, h, hE, hH, by rw [e1]; exact hP⟩⟩
/-- a method without arguments -/
def mMeth0 (T : String) (f : D → List D → IH → R D) (mo : ME) : ME := fun env h => (mo env h).bind fun x h1 => if tyD T h1 x = true then f x [] h1 else .no
theorem me_meth0 (hK : X.K = G.K) (pa : PlainAttrs T) (slot : Slot T name id) (hty : typeOf (.builtin id) = pure (.type "method_descriptor")) (hm : MtR X id r) (hs : MethS G r f) (ho : PE X o (tE G W mo))
    (hbase : attributeBase o name X.env (eval o X.env) = eval o X.env := by rfl) (hline : (apos.endLine == cpos.line) = true := by rfl) :
    PE X (.Call (.Attribute o name apos) [] [] cpos) (tE G W (mMeth0 T f mo)) := PE.imp (pe_bm0 pa slot hty hm ho hbase hline) fun σ H Q ⟨et, env, h, hE, hH, hP⟩ => by
  refine ⟨et, env, h, hE, hH, (Pst.of_bind hP).imp fun et1 H1 h1 x p e hr q v hv => ?_⟩
  split at q
  · rename_i ht
    rw [hK]
    exact ⟨tyD_ok hr ht hv, hs et1 H1 h1 x v [] [] _ Q hv (by simp) hr q⟩
  · exact q.elim
end
def isrt (ns : List Int) : List Int := ns.mergeSort (fun a b => decide (a ≤ b))
theorem isrt_perm (ns : List Int) : (isrt ns).Perm ns := List.mergeSort_perm _ _
theorem isrt_sorted (ns : List Int) : (isrt ns).Pairwise (· ≤ ·) := by
  have := List.pairwise_mergeSort (le := fun a b : Int => decide (a ≤ b)) (fun a b c h1 h2 => by simp at *; omega) (fun a b => by simp; omega) ns
  exact this.imp (by simp)
theorem isrt_eq {ns ms : List Int} (p : ms.Perm ns) (s : ms.Pairwise (· ≤ ·)) : ms = isrt ns :=
  List.Perm.eq_of_pairwise (fun _ _ _ _ a b => Int.le_antisymm a b) s (isrt_sorted ns) (p.trans (isrt_perm ns).symm)
def bSorted : List D → IH → R D
  | [x], h => match (lstOf h x).bind (allM D.int?) with
    | some ns => .ok (.ref h.length) (h ++ [.lst ((isrt ns).map D.int)])
    | none => .no
  | _, _ => .no
def imax : List Int → Int
  | [] => 0
  | x :: xs => xs.foldl (fun a b => if b > a then b else a) x
def imin : List Int → Int
  | [] => 0
  | x :: xs => xs.foldl (fun a b => if b < a then b else a) x
theorem imax_go : ∀ (xs : List Int) (x : Int), xs.foldl (fun a b => if b > a then b else a) x ∈ x :: xs ∧ ∀ y ∈ x :: xs, y ≤ xs.foldl (fun a b => if b > a then b else a) x
  | [], x => by simp
  | z :: xs, x => by
    obtain ⟨h1, h2⟩ := imax_go xs (if z > x then z else x)
    rw [List.foldl_cons]
    generalize xs.foldl (fun a b => if b > a then b else a) (if z > x then z else x) = F at *
    refine ⟨?_, fun y hy => ?_⟩
    · rcases List.mem_cons.mp h1 with h | h
      · rw [h]; split <;> simp
      · exact List.mem_cons_of_mem _ (List.mem_cons_of_mem _ h)
    · have h3 := h2 _ List.mem_cons_self
      rcases List.mem_cons.mp hy with rfl | hy
      · split at h3 <;> omega
      · rcases List.mem_cons.mp hy with rfl | hy
        · split at h3 <;> omega
        · exact h2 y (List.mem_cons_of_mem _ hy)
theorem imin_go : ∀ (xs : List Int) (x : Int), xs.foldl (fun a b => if b < a then b else a) x ∈ x :: xs ∧ ∀ y ∈ x :: xs, xs.foldl (fun a b => if b < a then b else a) x ≤ y
  | [], x => by simp
  | z :: xs, x => by
    obtain ⟨h1, h2⟩ := imin_go xs (if z < x then z else x)
    rw [List.foldl_cons]
    generalize xs.foldl (fun a b => if b < a then b else a) (if z < x then z else x) = F at *
    refine ⟨?_, fun y hy => ?_⟩
    · rcases List.mem_cons.mp h1 with h | h
      · rw [h]; split <;> simp
      · exact List.mem_cons_of_mem _ (List.mem_cons_of_mem _ h)
    · have h3 := h2 _ List.mem_cons_self
      rcases List.mem_cons.mp hy with rfl | hy
      · split at h3 <;> omega
      · rcases List.mem_cons.mp hy with rfl | hy
        · split at h3 <;> omega
        · exact h2 y (List.mem_cons_of_mem _ hy)
theorem imax_mem {ns : List Int} (h : 0 < ns.length) : imax ns ∈ ns := by
  cases ns with
  | nil => simp at h
  | cons x xs => exact (imax_go xs x).1
theorem imax_le {ns : List Int} {y : Int} (h : y ∈ ns) : y ≤ imax ns := by
  cases ns with
  | nil => cases h
  | cons x xs => exact (imax_go xs x).2 y h
theorem imin_mem {ns : List Int} (h : 0 < ns.length) : imin ns ∈ ns := by
  cases ns with
  | nil => simp at h
  | cons x xs => exact (imin_go xs x).1
theorem imin_le {ns : List Int} {y : Int} (h : y ∈ ns) : imin ns ≤ y := by
  cases ns with
  | nil => cases h
  | cons x xs => exact (imin_go xs x).2 y h
def bMax1 : List D → IH → R D
  | [x], h => match (lstOf h x).bind (allM D.int?) with
    | some ns => if 0 < ns.length then .ok (.int (imax ns)) h else .no
    | none => .no
  | _, _ => .no
def bMin1 : List D → IH → R D
  | [x], h => match (lstOf h x).bind (allM D.int?) with
    | some ns => if 0 < ns.length then .ok (.int (imin ns)) h else .no
    | none => .no
  | _, _ => .no
def fPop0 : D → List D → IH → R D
  | .ref n, [], h => match h[n]? with
    | some (.lst xs) => match xs[xs.length - 1]? with
      | some y => .ok y (h.set n (.lst xs.dropLast))
      | none => .no
    | _ => .no
  | _, _, _ => .no
def fPopAt : D → List D → IH → R D
  | .ref n, [.int i], h => match h[n]? with
    | some (.lst xs) => match ixN xs.length i with
      | some k => match xs[k]? with
        | some y => if -(2 ^ 63) ≤ i ∧ i < 2 ^ 63 then .ok y (h.set n (.lst (xs.eraseIdx k))) else .no
        | none => .no
      | none => .no
    | _ => .no
  | _, _, _ => .no
def fClear : D → List D → IH → R D
  | .ref n, [], h => match h[n]? with
    | some (.lst xs) => .ok .non (h.set n (.lst []))
    | _ => .no
  | _, _, _ => .no
/-- the first place in a list of ints, of texts -/
def fIndexL : D → List D → IH → R D
  | x, [.int y], h => match (lstOf h x).bind (allM D.int?) with
    | some ns => if y ∈ ns then .ok (.int (ns.idxOf y : Nat)) h else .no
    | none => .no
  | x, [.str y], h => match (lstOf h x).bind (allM D.str?) with
    | some ns => if y ∈ ns then .ok (.int (ns.idxOf y : Nat)) h else .no
    | none => .no
  | _, _, _ => .no
section
variable {G : Cf}
theorem ints_den {et : List Addr} {H : Hp} {h : IH} {x : D} {v : V} {ns : List Int} (R : HRel G et h H) (e : (lstOf h x).bind (allM D.int?) = some ns) (r : Den G et H x v) : ∃ a, v = .ref a ∧ SqL G.K H a (ns.map V.int) := by
  simp only [Option.bind_eq_some_iff] at e
  obtain ⟨xs, e1, e2⟩ := e
  obtain ⟨a, vs, rfl, h1, h2⟩ := lst_ok R e1 r
  rw [allM_ints e2] at h2
  rw [h2.ints] at h1
  exact ⟨a, rfl, h1⟩
theorem strs_den {et : List Addr} {H : Hp} {h : IH} {x : D} {v : V} {ns : List (List Nat)} (R : HRel G et h H) (e : (lstOf h x).bind (allM D.str?) = some ns) (r : Den G et H x v) : ∃ a, v = .ref a ∧ SqL G.K H a ((ns.map strV).map V.str) := by
  simp only [Option.bind_eq_some_iff] at e
  obtain ⟨xs, e1, e2⟩ := e
  obtain ⟨a, vs, rfl, h1, h2⟩ := lst_ok R e1 r
  rw [allM_strs e2] at h2
  rw [h2.strs] at h1
  exact ⟨a, rfl, h1⟩
theorem bSorted_ok : CallS G (rSortedI G.K) bSorted := by
  intro et H h xs vs W Q rv R p
  unfold bSorted at p
  split at p
  · split at p
    · rename_i x ns e
      obtain ⟨v, rfl, r⟩ := list1 rv
      obtain ⟨a, rfl, hs⟩ := ints_den R e r
      refine ⟨a, ns, rfl, hs, fun ns' q pm so hq => ?_⟩
      rw [isrt_eq pm so]
      exact p.newL R DenL.ofInts q hq
    · exact p.elim
  · exact p.elim
theorem bMax1_ok : CallS G (rMax G.K) bMax1 := by
  intro et H h xs vs W Q rv R p
  unfold bMax1 at p
  split at p
  · split at p
    · rename_i x ns e
      split at p
      · rename_i c
        obtain ⟨v, rfl, r⟩ := list1 rv
        obtain ⟨a, rfl, hs⟩ := ints_den R e r
        refine ⟨a, ns, rfl, hs, c, fun m hm hle => ?_⟩
        have : m = imax ns := Int.le_antisymm (imax_le hm) (hle _ (imax_mem c))
        subst this
        exact p.here R _ (by simp)
      · exact p.elim
    · exact p.elim
  · exact p.elim
theorem bMin1_ok : CallS G (rMin G.K) bMin1 := by
  intro et H h xs vs W Q rv R p
  unfold bMin1 at p
  split at p
  · split at p
    · rename_i x ns e
      split at p
      · rename_i c
        obtain ⟨v, rfl, r⟩ := list1 rv
        obtain ⟨a, rfl, hs⟩ := ints_den R e r
        refine ⟨a, ns, rfl, hs, c, fun m hm hle => ?_⟩
        have : m = imin ns := Int.le_antisymm (hle _ (imin_mem c)) (imin_le hm)
        subst this
        exact p.here R _ (by simp)
      · exact p.elim
    · exact p.elim
  · exact p.elim
theorem DenL.dropLast {et : List Addr} {H : Hp} {ds : List D} {vs : List V} (h : DenL G et H ds vs) : DenL G et H ds.dropLast vs.dropLast := by
  rw [List.dropLast_eq_take, List.dropLast_eq_take, h.len]
  exact h.take _
theorem DenL.eraseIdx {et : List Addr} {H : Hp} {ds : List D} {vs : List V} (h : DenL G et H ds vs) (k : Nat) : DenL G et H (ds.eraseIdx k) (vs.eraseIdx k) := by
  rw [List.eraseIdx_eq_take_drop_succ, List.eraseIdx_eq_take_drop_succ]
  exact (h.take _).app (h.drop _)
theorem fPop0_ok : MethS G rPop fPop0 := by
  intro et H h x v xs vs W Q rx rv R p
  unfold fPop0 at p
  split at p
  · split at p
    · rename_i n _ ys hx
      split at p
      · rename_i y hy
        obtain ⟨a, us, h2, rfl, h3, h4⟩ := den_list R hx rx
        obtain ⟨w, e1, r1⟩ := h4.get hy
        refine ⟨a, us, w, rfl, by simpa using rv, h3, by rw [h4.len]; exact e1, ?_⟩
        have ex : Ext H (upd H a (.lst us.dropLast)) := Ext.mut h3 True.intro
        exact p et _ List.prefix_rfl ex (R.set hx h2 rfl h3 True.intro ⟨_, upd_same, (h4.dropLast).mono List.prefix_rfl ex⟩) _ (r1.mono List.prefix_rfl ex)
      · exact p.elim
    · exact p.elim
  · exact p.elim
theorem fPopAt_ok : MethS G rPopAt fPopAt := by
  intro et H h x v xs vs W Q rx rv R p
  unfold fPopAt at p
  split at p
  · split at p
    · rename_i n i _ ys hx
      split at p
      · rename_i k hk
        split at p
        · rename_i y hy
          split at p
          · rename_i c
            obtain ⟨w, rfl, h1⟩ := list1 rv
            obtain ⟨a, us, h2, rfl, h3, h4⟩ := den_list R hx rx
            obtain ⟨w2, e1, r1⟩ := h4.get hy
            refine ⟨a, us, i, k, w2, rfl, by rw [den_int.mp h1], h3, c.1, c.2, by rw [h4.len]; exact (ixN_seq hk).1, e1, ?_⟩
            have ex : Ext H (upd H a (.lst (us.eraseIdx k))) := Ext.mut h3 True.intro
            exact p et _ List.prefix_rfl ex (R.set hx h2 rfl h3 True.intro ⟨_, upd_same, (h4.eraseIdx k).mono List.prefix_rfl ex⟩) _ (r1.mono List.prefix_rfl ex)
          · exact p.elim
        · exact p.elim
      · exact p.elim
    · exact p.elim
  · exact p.elim
theorem idx_first {A : Type} [BEq A] [LawfulBEq A] : ∀ {ns : List A} {y : A}, y ∈ ns → ns[ns.idxOf y]? = some y ∧ ∀ m z, m < ns.idxOf y → ns[m]? = some z → (z == y) = false
  | [], _, h => by cases h
  | n :: ns, y, h => by
    by_cases e : n = y
    · subst e
      rw [List.idxOf_cons_self]
      exact ⟨rfl, fun m z hm => absurd hm (Nat.not_lt_zero m)⟩
    · have e' : (n == y) = false := beq_eq_false_iff_ne.mpr e
      rw [List.idxOf_cons, e']
      have hm : y ∈ ns := by
        rcases List.mem_cons.mp h with h | h
        · exact absurd h.symm e
        · exact h
      obtain ⟨h1, h2⟩ := idx_first hm
      refine ⟨by simpa using h1, fun m z hm hz => ?_⟩
      cases m with
      | zero => simp at hz; subst hz; exact e'
      | succ m => exact h2 m z (by simpa using hm) (by simpa using hz)
theorem fIndexL_ok : MethS G (rIndex G.K) fIndexL := by
  intro et H h x v xs vs W Q rx rv R p
  unfold fIndexL at p
  split at p
  · rename_i y
    split at p
    · rename_i ns e
      split at p
      · rename_i c
        obtain ⟨w, rfl, h1⟩ := list1 rv
        obtain ⟨a, rfl, hs⟩ := ints_den R e rx
        obtain ⟨q1, q2⟩ := idx_first c
        refine ⟨a, _, w, ns.idxOf y, .int y, rfl, rfl, hs, by rw [den_int.mp h1]; rfl, ?_, by rw [List.getElem?_map, q1]; rfl, by rw [den_int.mp h1]; simp [eqV], fun m z' hm hz => ?_, p.here R _ (by simp)⟩
        · simp [flatV]
        · rw [List.getElem?_map] at hz
          cases hn : ns[m]? with
          | none => rw [hn] at hz; cases hz
          | some z0 =>
            rw [hn] at hz
            cases hz
            rw [den_int.mp h1]
            exact q2 m z0 hm hn
      · exact p.elim
    · exact p.elim
  · rename_i y
    split at p
    · rename_i ns e
      split at p
      · rename_i c
        obtain ⟨w, rfl, h1⟩ := list1 rv
        obtain ⟨a, rfl, hs⟩ := strs_den R e rx
        obtain ⟨q1, q2⟩ := idx_first c
        refine ⟨a, _, w, ns.idxOf y, .str (strV y), rfl, rfl, hs, by rw [den_str.mp h1]; rfl, ?_, by rw [List.getElem?_map, List.getElem?_map, q1]; rfl, by rw [den_str.mp h1]; simp [eqV], fun m z' hm hz => ?_, p.here R _ (by simp)⟩
        · simp [flatV]
        · rw [List.getElem?_map, List.getElem?_map] at hz
          cases hn : ns[m]? with
          | none => rw [hn] at hz; cases hz
          | some z0 =>
            rw [hn] at hz
            cases hz
            rw [den_str.mp h1]
            have := q2 m z0 hm hn
            exact beq_eq_false_iff_ne.mpr fun z => (beq_eq_false_iff_ne.mp this) (strV_inj z)
      · exact p.elim
    · exact p.elim
  · exact p.elim
end
end NR

set_option Elab.async false
set_option linter.all false
set_option maxRecDepth 100000
/-! zip and enumerate over whatever is not written: lists, tuples, texts, mixed. -/
namespace NR
open PySem PySem.Spec PyProof.Rows L2
open Sem (wp)

inductive Kd where
  | ls (a : Addr)
  | tp (a : Addr)
  | tx (x : Str)
def Kd.v : Kd → V
  | .ls a => .ref a
  | .tp a => .ref a
  | .tx x => .str x
def Kd.At (K : PySem.W.Frag) (H : Hp) : Kd → List V → Prop
  | .ls a, xs => SqL K H a xs
  | .tp a, xs => SqT K H a xs
  | .tx x, xs => xs = x.cps.toList.map fun c => V.str ⟨#[c]⟩
def Kd.It (h : Heap) (it : Addr) : Kd → Nat → Prop
  | .ls a, i => h.IsListIter it a i
  | .tp a, i => h.IsTupleIter it a i
  | .tx x, i => ∃ t, h.IsStrIter it (strIterType x) x t i
def Kd.ad : Kd → List Addr
  | .ls a => [a]
  | .tp a => [a]
  | .tx _ => []
theorem Kd.It.keep {h h' : Heap} {it : Addr} {k : Kd} {i : Nat} (q : k.It h it i) (e : ∀ o, h.get? it = some o → h'.get? it = some o) : k.It h' it i := by
  cases k with
  | ls a => exact Heap.IsListIter.at q e
  | tp a => exact Heap.IsTupleIter.at q e
  | tx x => obtain ⟨t, o, ho, r⟩ := q; exact ⟨t, o, e o ho, r⟩
theorem Kd.It.obj {h : Heap} {it : Addr} {k : Kd} {i : Nat} (q : k.It h it i) : ∃ o, h.get? it = some o ∧ ∀ v, o.data ≠ .cell v := by
  cases k with
  | ls a => obtain ⟨o, e, c, d⟩ := q; exact ⟨o, e, fun v z => by rw [d] at z; cases z⟩
  | tp a => obtain ⟨o, e, c, d⟩ := q; exact ⟨o, e, fun v z => by rw [d] at z; cases z⟩
  | tx x => obtain ⟨t, o, e, c, d⟩ := q; exact ⟨o, e, fun v z => by rw [d] at z; cases z⟩
section
variable {X : Cx} {pins : List (Addr × Obj)} {σ : L2.St} {H : Hp} {s : Shared}
theorem Kd.At.inj (I : Inv X pins σ H s) {k : Kd} {xs ys : List V} (a : k.At X.K H xs) (b : k.At X.K H ys) : xs = ys := by
  cases k with
  | ls d => exact I.list_inj a b
  | tp d => exact I.tuple_inj a b
  | tx x => exact a.trans b.symm
theorem vals_draw {xs : List V} {its : List Value} (r : Vals xs its) {j : Nat} {u : Value} (e : its.toArray[j]? = some u) : ∃ x, xs[j]? = some x ∧ RelV x u := by
  have hl := r.length
  have e' : its[j]? = some u := by simpa using e
  have hj : j < its.length := (List.getElem?_eq_some_iff.mp e').1
  have hx : xs[j]? = some (xs[j]'(by omega)) := List.getElem?_eq_getElem (by omega)
  obtain ⟨u', hu, ru⟩ := r.get hx
  rw [e'] at hu
  cases hu
  exact ⟨_, hx, ru⟩
theorem Kd.draws (I : Inv X pins σ H s) (k : Kd) {xs : List V} {it : Addr} {i : Nat} (ha : k.At X.K H xs) (hi : k.It s.heap it i) (hn : it ∉ k.ad) {A : Around} (hh : A.handled = none) :
    ∃ (P : Nat → Value → Prop) (St : Nat → Heap → Prop), Draws X.prog X.w A it (it :: k.ad) xs.length P St ∧ St i s.heap ∧ (∀ j u, P j u → ∃ x, xs[j]? = some x ∧ RelV x u) ∧ ∀ j h, St j h → k.It h it j := by
  cases k with
  | ls a =>
    obtain ⟨its, rv, p, hz⟩ := I.list ha
    have e : its.toArray.size = xs.length := by have := rv.length; simp; omega
    have D := Draws.list (prog := X.prog) (w := X.w) (A := A) hh it a (fun z => hn (by simp [Kd.ad, z])) its.toArray
    rw [e] at D
    exact ⟨_, _, D, ⟨hi, p.isList⟩, fun j u q => vals_draw rv q, fun j h q => q.1⟩
  | tp a =>
    obtain ⟨its, rv, p, hz⟩ := I.tuple ha
    have e : its.toArray.size = xs.length := by have := rv.length; simp; omega
    have D := Draws.tuple (prog := X.prog) (w := X.w) (A := A) hh it a (fun z => hn (by simp [Kd.ad, z])) its.toArray
    rw [e] at D
    exact ⟨_, _, D, ⟨hi, p⟩, fun j u q => vals_draw rv q, fun j h q => q.1⟩
  | tx x =>
    obtain ⟨t, hi⟩ := hi
    have e : x.cps.size = xs.length := by rw [show xs = _ from ha]; simp
    have D := Draws.text (prog := X.prog) (w := X.w) (A := A) hh it x t
    rw [e] at D
    refine ⟨_, _, D, hi, fun j u ⟨c, t', hc, q⟩ => ⟨.str ⟨#[c]⟩, ?_, t', q⟩, fun j h q => ⟨t, q⟩⟩
    rw [show xs = _ from ha]
    simp [hc]
theorem Kd.begins (I : Inv X pins σ H s) (k : Kd) {xs : List V} (ha : k.At X.K H xs) {u : Value} (r : RelV k.v u) :
    ∃ (o : Obj) (B : Heap → Prop), Begins u o B ∧ B s.heap ∧ (∀ (h : Heap) (it : Addr), h.get? it = some o → k.It h it 0) ∧ ∀ b ∈ k.ad, b < s.heap.objs.size := by
  cases k with
  | ls a =>
    obtain ⟨its, rv, p, hz⟩ := I.list ha
    obtain rfl : u = Value.ref a := r
    exact ⟨_, _, begins_list a its.toArray, p.isList, fun h it e => ⟨_, e, rfl, rfl⟩, fun b hb => by
      obtain rfl : b = a := by simpa [Kd.ad] using hb
      exact p.lt⟩
  | tp a =>
    obtain ⟨its, rv, p, hz⟩ := I.tuple ha
    obtain rfl : u = Value.ref a := r
    refine ⟨_, _, begins_tuple a its.toArray, p, fun h it e => ⟨_, e, rfl, rfl⟩, fun b hb => ?_⟩
    obtain rfl : b = a := by simpa [Kd.ad] using hb
    obtain ⟨o, e, _⟩ := p
    exact Heap.lt_size e
  | tx x =>
    obtain ⟨t, rfl⟩ := r
    exact ⟨_, _, begins_text x t, trivial, fun h it e => ⟨t, _, e, rfl, rfl⟩, fun b hb => by simp [Kd.ad] at hb⟩
end

/-- two walked side by side, n of them -/
def Itq (K : PySem.W.Frag) (k1 k2 : Kd) (n : Nat) : It :=
  ⟨fun i H => i < n ∧ ∃ xs ys, k1.At K H xs ∧ k2.At K H ys ∧ min xs.length ys.length = n,
    fun i H v H' => ∃ T x y, v = .ref T ∧ H T = none ∧ H' = upd H T (.tup [x, y]) ∧ (∀ xs, k1.At K H xs → xs[i]? = some x) ∧ ∀ ys, k2.At K H ys → ys[i]? = some y,
    fun i H => n ≤ i ∧ ∃ xs ys, k1.At K H xs ∧ k2.At K H ys ∧ min xs.length ys.length = n⟩
def Ieq (K : PySem.W.Frag) (k : Kd) (c : Int) (n : Nat) : It :=
  ⟨fun i H => i < n ∧ ∃ xs, k.At K H xs ∧ xs.length = n,
    fun i H v H' => ∃ T x, v = .ref T ∧ H T = none ∧ H' = upd H T (.tup [.int (c + (i : Nat)), x]) ∧ ∀ xs, k.At K H xs → xs[i]? = some x,
    fun i H => n ≤ i ∧ ∃ xs, k.At K H xs ∧ xs.length = n⟩
def Zst (k1 k2 : Kd) (n N : Nat) (i : Nat) (h : Heap) : Prop :=
  i ≤ n ∧ IsZip h (N + 4) (N + 2) (N + 3) .none ∧ IsTupOf2 h (N + 2) (.ref N) (.ref (N + 1)) ∧ (∃ a b, IsTupOf2 h (N + 3) a b) ∧ k1.It h N i ∧ k2.It h (N + 1) i
theorem Zst.obj {k1 k2 : Kd} {n N i : Nat} {h : Heap} (q : Zst k1 k2 n N i h) : ∀ b ∈ [N + 4, N + 2, N + 3, N, N + 1], ∃ o, h.get? b = some o ∧ ∀ v, o.data ≠ .cell v := by
  obtain ⟨_, z, ti, ⟨a, b, to⟩, p1, p2⟩ := q
  intro c hc
  have : c = N + 4 ∨ c = N + 2 ∨ c = N + 3 ∨ c = N ∨ c = N + 1 := by simpa using hc
  rcases this with e | e | e | e | e <;> subst e
  · exact ⟨_, z, fun v x => nomatch x⟩
  · exact ⟨_, ti, fun v x => nomatch x⟩
  · exact ⟨_, to, fun v x => nomatch x⟩
  · exact p1.obj
  · exact p2.obj
theorem ad_new {k : Kd} {N j : Nat} (h : ∀ b ∈ k.ad, b < N) : N + j ∉ k.ad := fun x => absurd (h _ x) (Nat.not_lt.mpr (Nat.le_add_right N j))
section
variable {P : Program} {w : World} {K : PySem.W.Frag} {elts : List Expr} {kk : Nat} {tpos : Pos}
theorem turn_zq (k1 k2 : Kd) (n N : Nat) (h1 : ∀ b ∈ k1.ad, b < N) (h2 : ∀ b ∈ k2.ad, b < N) :
    Turn P w K (.Tuple elts kk tpos) (Itq K k1 k2 n) [N + 4, N + 2, N + 3, N, N + 1] (N + 4) (Zst k1 k2 n N) where
  mem := by simp
  obj := fun i h q => q.obj
  keep := fun i h h' q k => by
    obtain ⟨l, z, ti, ⟨a, b, to⟩, p1, p2⟩ := q
    exact ⟨l, k _ (by simp) _ z, k _ (by simp) _ ti, ⟨a, b, k _ (by simp) _ to⟩, p1.keep fun o e => k _ (by simp) o e, p2.keep fun o e => k _ (by simp) o e⟩
  item := by
    intro X hP hw hK hc i pins s σ H E I hf st hg
    subst hP hw hK
    obtain ⟨hlt, xs, ys, a1, a2, hm⟩ := hg
    have live : ∀ b ∈ [N + 4, N + 2, N + 3, N, N + 1], b < s.heap.objs.size := fun b hb => by
      obtain ⟨o, e, _⟩ := st.obj b hb
      exact Heap.lt_size e
    obtain ⟨hle, hz, hTI, hTO, q1, q2⟩ := st
    obtain ⟨P1, S1, D1, s1, r1, g1⟩ := Kd.draws (A := X.A.in1) I k1 a1 q1 (ad_new (j := 0) h1) (I.ok.hd hc)
    obtain ⟨P2, S2, D2, s2, r2, g2⟩ := Kd.draws (A := X.A.in1) I k2 a2 q2 (ad_new (j := 1) h2) (I.ok.hd hc)
    have Wz := GoesN.zip2 (elts := elts) (x1 := kk) (pos := tpos) (zip_sep2 h1 h2) D1 D2
    refine Wz.goes i s _ E (by rw [hm]; exact hlt) ⟨hz, hTI, hTO, s1, s2⟩ fun v h' tk hY st' hk htk => ?_
    obtain ⟨T, u1, u2, rfl, hT, pu1, pu2, hTup⟩ := hY
    obtain ⟨x, hx, rx⟩ := r1 _ _ pu1
    obtain ⟨y, hy, ry⟩ := r2 _ _ pu2
    have new : ObjOk X.prog X.w (upd H T (.tup [x, y])) h' T (.tup [x, y]) := ⟨by show 2 ≤ sizeLine; decide, [u1, u2], .cons rx (.cons ry .nil), hTup⟩
    have I1 := I.turnedNew (t' := tk) (ch := [N + 4, N + 2, N + 3, N, N + 1]) (fun b o hb e => hk b o (fun z => hb (by
      have : b = N + 4 ∨ b = N + 3 ∨ b = N ∨ b = N + 1 := by simpa using z
      rcases this with e | e | e | e <;> simp [e])) e) hf hT new
    refine ⟨.ref T, _, I1, rfl, ⟨T, x, y, rfl, I.hok.fresh hT, rfl, fun l hl => ?_, fun l hl => ?_⟩, ⟨hlt, st'.1, st'.2.1, st'.2.2.1, g1 _ _ st'.2.2.2.1, g2 _ _ st'.2.2.2.2⟩, fun b hb => ?_⟩
    · rw [Kd.At.inj I hl a1]; exact hx
    · rw [Kd.At.inj I hl a2]; exact hy
    · rw [upd_ne (Nat.ne_of_lt (Nat.lt_of_lt_of_le (live b hb) hT))]
      exact (hf b hb).1
  done := by
    intro X hP hw hK hc i pins s σ H E I hf st hg
    subst hP hw hK
    obtain ⟨hge, xs, ys, a1, a2, hm⟩ := hg
    obtain ⟨hle, hz, hTI, hTO, q1, q2⟩ := st
    have hi : i = min xs.length ys.length := by omega
    obtain ⟨P1, S1, D1, s1, r1, g1⟩ := Kd.draws (A := X.A.in1) I k1 a1 q1 (ad_new (j := 0) h1) (I.ok.hd hc)
    obtain ⟨P2, S2, D2, s2, r2, g2⟩ := Kd.draws (A := X.A.in1) I k2 a2 q2 (ad_new (j := 1) h2) (I.ok.hd hc)
    have Wz := GoesN.zip2 (elts := elts) (x1 := kk) (pos := tpos) (zip_sep2 h1 h2) D1 D2
    rw [hi] at s1 s2
    refine Wz.stops s _ E ⟨hz, hTI, hTO, s1, s2⟩ fun h' tk hk htk => ?_
    exact I.turnedL (t' := tk) (ch := [N + 4, N + 2, N + 3, N, N + 1]) (fun b o hb e => hk b o (fun z => hb (by
      have : b = N + 4 ∨ b = N + 3 ∨ b = N ∨ b = N + 1 := by simpa using z
      rcases this with e | e | e | e <;> simp [e])) e) hf
  self := fun A i s Q E st h => wpAny_pyIter_zip st.2.1 h
def Est (k : Kd) (c : Int) (n N : Nat) (i : Nat) (h : Heap) : Prop := i ≤ n ∧ (∃ old, IsEnum h (N + 1) N (c + (i : Int)) old) ∧ k.It h N i
theorem Est.obj {k : Kd} {c : Int} {n N i : Nat} {h : Heap} (q : Est k c n N i h) : ∀ b ∈ [N + 1, N], ∃ o, h.get? b = some o ∧ ∀ v, o.data ≠ .cell v := by
  obtain ⟨_, ⟨o, z⟩, p⟩ := q
  intro b hb
  have : b = N + 1 ∨ b = N := by simpa using hb
  rcases this with e | e <;> subst e
  · exact ⟨_, z, fun v x => nomatch x⟩
  · exact p.obj
theorem turn_eq (k : Kd) (c : Int) (n N : Nat) (h1 : ∀ b ∈ k.ad, b < N) :
    Turn P w K (.Tuple elts kk tpos) (Ieq K k c n) [N + 1, N] (N + 1) (Est k c n N) where
  mem := by simp
  obj := fun i h q => q.obj
  keep := fun i h h' q kp => by
    obtain ⟨l, ⟨o, z⟩, p⟩ := q
    exact ⟨l, ⟨o, kp _ (by simp) _ z⟩, p.keep fun o e => kp _ (by simp) o e⟩
  item := by
    intro X hP hw hK hc i pins s σ H E I hf st hg
    subst hP hw hK
    obtain ⟨hlt, xs, a1, hm⟩ := hg
    have live : ∀ b ∈ [N + 1, N], b < s.heap.objs.size := fun b hb => by
      obtain ⟨o, e, _⟩ := st.obj b hb
      exact Heap.lt_size e
    obtain ⟨hle, hz, q1⟩ := st
    obtain ⟨P1, S1, D1, s1, r1, g1⟩ := Kd.draws (A := X.A.in1) I k a1 q1 (ad_new (j := 0) h1) (I.ok.hd hc)
    have We := GoesN.enumFrom (elts := elts) (x1 := kk) (pos := tpos) c D1 (N + 1) (Nat.succ_ne_self _) (notIn_new (j := 1) (i := 0) h1 (by omega)) (by simp)
    refine We.goes i s _ E (by rw [hm]; exact hlt) ⟨hz, s1⟩ fun v h' tk hY st' hk htk => ?_
    obtain ⟨T, t, u, rfl, hT, pu, hTup⟩ := hY
    obtain ⟨x, hx, rx⟩ := r1 _ _ pu
    have new : ObjOk X.prog X.w (upd H T (.tup [.int (c + (i : Nat)), x])) h' T (.tup [.int (c + (i : Nat)), x]) := ⟨by show 2 ≤ sizeLine; decide, [.int (c + (i : Int)) t, u], .cons ⟨t, rfl⟩ (.cons rx .nil), hTup⟩
    have I1 := I.turnedNew (t' := tk) (ch := [N + 1, N]) (fun b o hb e => hk b o hb e) hf hT new
    refine ⟨.ref T, _, I1, rfl, ⟨T, x, rfl, I.hok.fresh hT, rfl, fun l hl => ?_⟩, ⟨hlt, st'.1, g1 _ _ st'.2⟩, fun b hb => ?_⟩
    · rw [Kd.At.inj I hl a1]; exact hx
    · rw [upd_ne (Nat.ne_of_lt (Nat.lt_of_lt_of_le (live b hb) hT))]
      exact (hf b hb).1
  done := by
    intro X hP hw hK hc i pins s σ H E I hf st hg
    subst hP hw hK
    obtain ⟨hge, xs, a1, hm⟩ := hg
    obtain ⟨hle, hz, q1⟩ := st
    have hi : i = xs.length := by omega
    obtain ⟨P1, S1, D1, s1, r1, g1⟩ := Kd.draws (A := X.A.in1) I k a1 q1 (ad_new (j := 0) h1) (I.ok.hd hc)
    have We := GoesN.enumFrom (elts := elts) (x1 := kk) (pos := tpos) c D1 (N + 1) (Nat.succ_ne_self _) (notIn_new (j := 1) (i := 0) h1 (by omega)) (by simp)
    rw [hi] at s1 hz
    refine We.stops s _ E ⟨hz, s1⟩ fun h' tk hk htk => ?_
    exact I.turnedL (t' := tk) (ch := [N + 1, N]) (fun b o hb e => hk b o hb e) hf
  self := fun A i s Q E st h => let ⟨_, ⟨_, z⟩, _⟩ := st; wpAny_pyIter_enum z h
end

set_option maxHeartbeats 1000000 in
/-- enumerate of one thing -/
theorem meets_enum1 {x : Value} {ob : Obj} {B : Heap → Prop} (b : Begins x ob B) :
    Meets (Builtin.«enumerate.__new__» ⟨[.type "enumerate", x], []⟩) (fun _ R s => B s.heap ∧ R (.ok (.ret (.ref (s.heap.push ob).objs.size)))
      { s with heap := (s.heap.push ob).push { cls := .type "enumerate", data := .fields #[.none, .bool false, .ref s.heap.objs.size, rawInt 0, .none, .none] } }) := .of_wp fun pr w A R s hh => by
  obtain ⟨hp, gg, dd, tt, oo⟩ := s
  obtain ⟨hb, hh⟩ := hh
  have hsub := sub_enumerate
  have qi : ∀ {A' : Around} {E : Value → Shared → Prop} {Q : Value → Shared → Prop}, Q (.ref hp.objs.size) ⟨hp.push ob, gg, dd, tt, oo⟩ → wpAny (model pr w) A' (pyIter x) Q E ⟨hp, gg, dd, tt, oo⟩ := fun z => b.iter pr w _ _ ⟨hp, gg, dd, tt, oo⟩ _ hb z
  wp_walk using qi
  refine wpAny_stack_any fun st => wpAny_pure ?_
  split
  · rename_i cc _ _ _ _ _
    cases (cc == Value.type "enumerate") <;> (wp_walk using qi; exact ⟨_, rfl, hh⟩)
  · wp_walk using qi
    exact ⟨_, rfl, hh⟩
theorem call_enum1 {prog : Program} {w : World} {A : Around} {E : Value → Shared → Prop} {s : Shared} {x : Value} {ob : Obj} {B : Heap → Prop} {Q : Value → Shared → Prop} (b : Begins x ob B) (hb : B s.heap)
    (k : ∀ h', IsEnum h' (s.heap.objs.size + 1) s.heap.objs.size 0 .none → h'.get? s.heap.objs.size = some ob → (∀ c o, s.heap.get? c = some o → h'.get? c = some o) → Q (.ref (s.heap.objs.size + 1)) { s with heap := h' }) :
    wpAny (model prog w) A (call (.type "enumerate") [x]) Q E s := by
  refine callType_new F.called_enumerate (by decide) (F.typeCall_enumerate_1 _) (F.newCall_enumerate_1 _) (fun obj => F.args_object_init_2 obj _) F.entry_enumerate_new (meets_enum1 b) ⟨hb, ?_⟩
  have sz : (s.heap.push ob).objs.size = s.heap.objs.size + 1 := Heap.size_push ..
  have g := Heap.get?_push_size (s.heap.push ob) (o := { cls := .type "enumerate", data := .fields #[.none, .bool false, .ref s.heap.objs.size, rawInt 0, .none, .none] }) rfl
  rw [sz] at g
  show _ ∧ _
  rw [sz]
  exact ⟨⟨_, g, rfl⟩, k _ g (Heap.get?_push_of_some _ (Heap.get?_push_size _ b.free)) fun c o e => Heap.get?_push_of_some _ (Heap.get?_push_of_some _ e)⟩

def iZq (K : PySem.W.Frag) (ta : TA) : TI := fun σ H R => ta σ H fun vs H1 => ∃ k1 k2 xs ys, vs = [Kd.v k1, Kd.v k2] ∧ k1.At K H1 xs ∧ k2.At K H1 ys ∧ R (Itq K k1 k2 (min xs.length ys.length)) H1
def iEq (K : PySem.W.Frag) (ta : TA) : TI := fun σ H R => ta σ H fun vs H1 => ∃ k xs, vs = [Kd.v k] ∧ k.At K H1 xs ∧ R (Ieq K k 0 xs.length) H1
section
variable {X : Cx} {e e2 : Expr} {ta : TA} {p pos tpos : Pos} {elts : List Expr} {kk : Nat}
theorem pi_zq (hg : Gl X "zip") (hm : X.mg "zip" = none) (ha : PA X [e, e2] ta) (hs : starEach [e, e2] X.env = (false, eval e X.env) :: starEach [e2] X.env := by rfl) (hpl : (backTo pos (starEach [e2] X.env)).any (·.1) = false := by rfl) :
    PI X (.Tuple elts kk tpos) (.Call (.Name "zip" p) [e, e2] [] pos) (iZq X.K ta) := by
  refine ⟨fun pins s σ H R I h => ?_⟩
  refine Call_ (ld_blt I hg hm PyProof.Rows.boot_zip (PyProof.Rows.callWith_type1 (thn (ha.run pos pins s σ H _ I h) fun us s1 ⟨vs, H1, I1, rr, k1, k2, xs, ys, ex, a1, a2, q⟩ => ?_) hs hpl))
  subst ex
  cases rr with
  | cons r rr =>
    cases rr with
    | cons r' rr =>
      cases rr
      obtain ⟨o1, B1, b1, t1, g1, l1⟩ := Kd.begins I1 k1 a1 r
      obtain ⟨o2, B2, b2, t2, g2, l2⟩ := Kd.begins I1 k2 a2 r'
      refine zip_begins2 b1 b2 t1 t2 fun h' hz hTI hTO hx hy hsz hk => wpAny_pyIter_zip hz ?_
      have I2 : Inv X pins σ H1 { s1 with heap := h' } := I1.kept (t' := s1.toks) hk
      refine ⟨s1.heap.objs.size + 4, [s1.heap.objs.size + 4, s1.heap.objs.size + 2, s1.heap.objs.size + 3, s1.heap.objs.size, s1.heap.objs.size + 1], _, _, H1, rfl, I2, turn_zq k1 k2 (min xs.length ys.length) s1.heap.objs.size l1 l2, ⟨Nat.zero_le _, hz, hTI, ⟨_, _, hTO⟩, g1 _ _ hx, g2 _ _ hy⟩, fun b hb => ?_, q⟩
      have : b = s1.heap.objs.size + 4 ∨ b = s1.heap.objs.size + 2 ∨ b = s1.heap.objs.size + 3 ∨ b = s1.heap.objs.size ∨ b = s1.heap.objs.size + 1 := by simpa using hb
      have hle : s1.heap.objs.size ≤ b := by rcases this with z | z | z | z | z <;> rw [z] <;> simp
      exact I1.fpOk hle (I1.hok.fresh hle)
theorem pi_eq (hg : Gl X "enumerate") (hm : X.mg "enumerate" = none) (ha : PA X [e] ta) (hs : starEach [e] X.env = [(false, eval e X.env)] := by rfl) :
    PI X (.Tuple elts kk tpos) (.Call (.Name "enumerate" p) [e] [] pos) (iEq X.K ta) := by
  refine ⟨fun pins s σ H R I h => ?_⟩
  refine Call_ (ld_blt I hg hm boot_enumerate (PyProof.Rows.callWith_type1 (thn (ha.run pos pins s σ H _ I h) fun us s1 ⟨vs, H1, I1, rr, k, xs, ex, a1, q⟩ => ?_) hs rfl))
  subst ex
  cases rr with
  | cons r rr =>
    cases rr
    obtain ⟨o1, B1, b1, t1, g1, l1⟩ := Kd.begins I1 k a1 r
    refine call_enum1 b1 t1 fun h' hz hx hk => wpAny_pyIter_enum hz ?_
    have I2 : Inv X pins σ H1 { s1 with heap := h' } := I1.kept (t' := s1.toks) hk
    refine ⟨s1.heap.objs.size + 1, [s1.heap.objs.size + 1, s1.heap.objs.size], _, _, H1, rfl, I2, turn_eq k 0 xs.length s1.heap.objs.size l1, ⟨Nat.zero_le _, ⟨_, hz⟩, g1 _ _ hx⟩, fun b hb => ?_, q⟩
    have : b = s1.heap.objs.size + 1 ∨ b = s1.heap.objs.size := by simpa using hb
    have hle : s1.heap.objs.size ≤ b := by rcases this with z | z <;> rw [z] <;> simp
    exact I1.fpOk hle (I1.hok.fresh hle)
end

/-! ### as functions -/
/-- what is not written, as its items -/
def stOf : D → Option (List D)
  | .tup l => some l
  | .fl l => some l
  | .str s => some (s.map fun c => .str [c])
  | _ => none
def qOf (h : IH) : D → Option (List D)
  | .ref n => lstOf h (.ref n)
  | d => stOf d
def zipQ (a b : D) (n : Nat) (h : IH) : Option (List D) := match qOf h a, qOf h b with
  | some l, some l' => if min l.length l'.length = n then some (List.zipWith (fun x y => .tup [x, y]) l l') else none
  | _, _ => none
def enumQ (a : D) (n : Nat) (h : IH) : Option (List D) := match qOf h a with
  | some l => if l.length = n then some (l.mapIdx fun i x => .tup [.int (i : Nat), x]) else none
  | _ => none
def iZip (m : MA) : MI := fun env h => (m env h).bind fun xs h1 => match xs with
  | [a, b] => match stOf a, stOf b with
    | some l, some l' => .ok (.st (List.zipWith (fun x y => .tup [x, y]) l l')) h1
    | _, _ => match qOf h1 a, qOf h1 b with
      | some l, some l' => .ok (.dy (zipQ a b (min l.length l'.length))) h1
      | _, _ => .no
  | _ => .no
def iEnum (m : MA) : MI := fun env h => (m env h).bind fun xs h1 => match xs with
  | [a] => match stOf a with
    | some l => .ok (.st (l.mapIdx fun i x => .tup [.int (i : Nat), x])) h1
    | _ => match qOf h1 a with
      | some l => .ok (.dy (enumQ a l.length)) h1
      | none => .no
  | _ => .no
def kdOf : D → V → Kd
  | .tup _, .ref a => .tp a
  | .str _, .str s => .tx s
  | _, .ref a => .ls a
  | _, _ => .ls 0
theorem q_kd {G : Cf} {et : List Addr} {H : Hp} {h : IH} {d : D} {l : List D} {v : V} (R : HRel G et h H) (e : qOf h d = some l) (r : Den G et H d v) : v = (kdOf d v).v ∧ ∃ xs : List V, DenL G et H l xs ∧ (kdOf d v).At G.K H xs := by
  cases d with
  | ref n =>
    obtain ⟨a, vs, rfl, h2, h3⟩ := lst_ok R (x := .ref n) e r
    exact ⟨rfl, vs, h3, h2⟩
  | tup l' =>
    cases e
    obtain ⟨a, vs, rfl, h2, h3⟩ := den_tup.mp r
    exact ⟨rfl, vs, h3, TpT.sq h2⟩
  | fl l' =>
    cases e
    obtain ⟨a, vs, rfl, h2, h3⟩ := den_fl.mp r
    exact ⟨rfl, vs, h3, h2.sq⟩
  | str s =>
    cases e
    rw [den_str.mp r]
    refine ⟨rfl, _, ?_, rfl⟩
    have : (strV s).cps.toList.map (fun c => V.str ⟨#[c]⟩) = ((s.map fun c => [c]).map strV).map V.str := by simp [strV]
    rw [this, show (s.map fun c => D.str [c]) = (s.map fun c => [c]).map D.str by simp]
    exact DenL.ofStrs
  | _ => cases e
section
variable {X : Cx} {G : Cf} {W : WX} {e e2 : Expr} {mt : MA} {pos p tpos : Pos} {elts : List Expr} {kk : Nat}
theorem stOf_kd {et : List Addr} {H : Hp} {d : D} {l : List D} {v : V} (e : stOf d = some l) (r : Den G et H d v) : ∃ (k : Kd) (xs : List V), v = k.v ∧ DenL G et H l xs ∧ ∀ H', Ext H H' → k.At G.K H' xs := by
  cases d with
  | tup l' =>
    cases e
    obtain ⟨a, vs, rfl, h2, h3⟩ := den_tup.mp r
    exact ⟨.tp a, vs, rfl, h3, fun H' x => x.sqT h2⟩
  | fl l' =>
    cases e
    obtain ⟨a, vs, rfl, h2, h3⟩ := den_fl.mp r
    exact ⟨.ls a, vs, rfl, h3, fun H' x => (h2.ext x).sq⟩
  | str s =>
    cases e
    refine ⟨.tx (strV s), _, den_str.mp r, ?_, fun H' x => rfl⟩
    have : (strV s).cps.toList.map (fun c => V.str ⟨#[c]⟩) = ((s.map fun c => [c]).map strV).map V.str := by simp [strV]
    rw [this, show (s.map fun c => D.str [c]) = (s.map fun c => [c]).map D.str by simp]
    exact DenL.ofStrs
  | _ => cases e
theorem den_pair {et : List Addr} {H : Hp} {h : IH} {a b : D} {x y : V} {T : Addr} (hT : H T = none) (ra : Den G et H a x) (rb : Den G et H b y) : Den G et (upd H T (.tup [x, y])) (.tup [a, b]) (.ref T) := by
  have ex : Ext H (upd H T (.tup [x, y])) := Ext.new hT
  exact den_tup.mpr ⟨T, [x, y], rfl, upd_same .., denL_cons.mpr ⟨x, [y], rfl, ra.mono List.prefix_rfl ex, denL_cons.mpr ⟨y, [], rfl, rb.mono List.prefix_rfl ex, denL_nil.mpr rfl⟩⟩⟩
theorem mi_zip (hK : X.K = G.K) (ha : PA X [e, e2] (tA G W mt)) (hm : X.mg "zip" = none) (hg : Gl X "zip" := by rfl) (hs : starEach [e, e2] X.env = (false, eval e X.env) :: starEach [e2] X.env := by rfl) (hpl : (backTo pos (starEach [e2] X.env)).any (·.1) = false := by rfl) :
    PI X (.Tuple elts kk tpos) (.Call (.Name "zip" p) [e, e2] [] pos) (tI G W (iZip mt)) := PI.imp (pi_zq hg hm ha hs hpl) fun σ H R ⟨et, env, h, hE, hH, hP⟩ => by
  rw [hK]
  refine ⟨et, env, h, hE, hH, (Pst.of_bind hP).imp fun et1 H1 h1 xs p e hr q vs hv => ?_⟩
  split at q
  · rename_i a b
    obtain ⟨v, w, rfl, ra, rb⟩ := list2 hv
    have dyn : ∀ l l', qOf h1 a = some l → qOf h1 b = some l' → Pst G et1 H1 (.ok (Src.dy (zipQ a b (min l.length l'.length))) h1) (fun et' H' _ src => ∀ J, JRel G et' H' src J → R J H') (fun c d H' => W c d σ H') → ∃ k1 k2 xs ys, [v, w] = [Kd.v k1, Kd.v k2] ∧ k1.At G.K H1 xs ∧ k2.At G.K H1 ys ∧ R (Itq G.K k1 k2 (min xs.length ys.length)) H1 := fun l l' ea eb q => by
      obtain ⟨v1, xs, d1, a1⟩ := q_kd hr ea ra
      obtain ⟨v2, ys, d2, a2⟩ := q_kd hr eb rb
      have n1 := d1.len
      have n2 := d2.len
      refine ⟨kdOf a v, kdOf b w, xs, ys, by rw [← v1, ← v2], a1, a2, q.here hr _ fun et2 H2 h2 p2 e2 R2 ok i => ?_⟩
      have ok' : (zipQ a b (min l.length l'.length) h2).isSome = true := ok
      obtain ⟨zs, ez⟩ := Option.isSome_iff_exists.mp ok'
      show (match (zipQ a b (min l.length l'.length) h2).bind fun xs => xs[i]? with | some d => _ | none => _)
      rw [ez]
      unfold zipQ at ez
      cases qa : qOf h2 a with
      | none => rw [qa] at ez; cases ez
      | some m =>
        cases qb : qOf h2 b with
        | none => rw [qa, qb] at ez; cases ez
        | some m' =>
          rw [qa, qb] at ez
          dsimp only at ez
          split at ez
          · rename_i hn
            cases ez
            obtain ⟨_, xs2, f1, b1⟩ := q_kd R2 qa (ra.mono p2 e2)
            obtain ⟨_, ys2, f2, b2⟩ := q_kd R2 qb (rb.mono p2 e2)
            have n3 := f1.len
            have n4 := f2.len
            show (match (List.zipWith (fun x y => D.tup [x, y]) m m')[i]? with | some d => _ | none => _)
            rw [List.getElem?_zipWith]
            cases e3 : m[i]? with
            | none =>
              have := List.getElem?_eq_none_iff.mp e3
              exact ⟨by omega, xs2, ys2, b1, b2, by omega⟩
            | some d =>
              cases e4 : m'[i]? with
              | none =>
                have := List.getElem?_eq_none_iff.mp e4
                exact ⟨by omega, xs2, ys2, b1, b2, by omega⟩
              | some d' =>
                have m1 := (List.getElem?_eq_some_iff.mp e3).1
                have m2 := (List.getElem?_eq_some_iff.mp e4).1
                refine ⟨⟨by omega, xs2, ys2, b1, b2, by omega⟩, fun z H' ⟨T, x, y, hz, hT, hH', hx, hy⟩ => ?_⟩
                subst hz hH'
                obtain ⟨v1, w1, r1⟩ := f1.get e3
                obtain ⟨v2, w2, r2⟩ := f2.get e4
                have x1 := hx _ b1
                have x2 := hy _ b2
                rw [w1] at x1
                rw [w2] at x2
                cases x1
                cases x2
                exact ⟨Ext.new hT, R2.new hT, den_pair (h := h2) hT r1 r2⟩
          · cases ez
    have alt : Pst G et1 H1 (match qOf h1 a, qOf h1 b with
      | some l, some l' => NR.R.ok (Src.dy (zipQ a b (min l.length l'.length))) h1
      | _, _ => .no) (fun et' H' _ src => ∀ J, JRel G et' H' src J → R J H') (fun c d H' => W c d σ H') → ∃ k1 k2 xs ys, [v, w] = [Kd.v k1, Kd.v k2] ∧ k1.At G.K H1 xs ∧ k2.At G.K H1 ys ∧ R (Itq G.K k1 k2 (min xs.length ys.length)) H1 := fun q => by
      cases qa : qOf h1 a with
      | none => rw [qa] at q; exact q.elim
      | some l =>
        cases qb : qOf h1 b with
        | none => rw [qa, qb] at q; exact q.elim
        | some l' => rw [qa, qb] at q; exact dyn l l' qa qb q
    cases ea : stOf a with
    | none => rw [ea] at q; exact alt q
    | some l =>
      cases eb : stOf b with
      | none => rw [ea, eb] at q; exact alt q
      | some l' =>
        rw [ea, eb] at q
        obtain ⟨k1, xs, rfl, d1, st1⟩ := stOf_kd ea ra
        obtain ⟨k2, ys, rfl, d2, st2⟩ := stOf_kd eb rb
        refine ⟨k1, k2, xs, ys, rfl, st1 _ (Ext.refl _), st2 _ (Ext.refl _), q.here hr _ (jrel_st fun et2 H2 h2 p2 e2 R2 i => ?_)⟩
        have n1 := d1.len
        have n2 := d2.len
        rw [List.getElem?_zipWith]
        cases e3 : l[i]? with
        | none =>
          have := List.getElem?_eq_none_iff.mp e3
          exact ⟨by omega, xs, ys, st1 _ e2, st2 _ e2, rfl⟩
        | some d =>
          cases e4 : l'[i]? with
          | none =>
            have := List.getElem?_eq_none_iff.mp e4
            exact ⟨by omega, xs, ys, st1 _ e2, st2 _ e2, rfl⟩
          | some d' =>
            have m1 := (List.getElem?_eq_some_iff.mp e3).1
            have m2 := (List.getElem?_eq_some_iff.mp e4).1
            refine ⟨⟨by omega, xs, ys, st1 _ e2, st2 _ e2, rfl⟩, fun z H' ⟨T, x, y, hz, hT, hH', hx, hy⟩ => ?_⟩
            subst hz hH'
            obtain ⟨v1, w1, r1⟩ := d1.get e3
            obtain ⟨v2, w2, r2⟩ := d2.get e4
            have x1 := hx _ (st1 _ e2)
            have x2 := hy _ (st2 _ e2)
            rw [w1] at x1
            rw [w2] at x2
            cases x1
            cases x2
            exact ⟨Ext.new hT, R2.new hT, den_pair (h := h2) hT (r1.mono p2 e2) (r2.mono p2 e2)⟩
  · exact q.elim
theorem mi_enum (hK : X.K = G.K) (ha : PA X [e] (tA G W mt)) (hm : X.mg "enumerate" = none) (hg : Gl X "enumerate" := by rfl) (hs : starEach [e] X.env = [(false, eval e X.env)] := by rfl) :
    PI X (.Tuple elts kk tpos) (.Call (.Name "enumerate" p) [e] [] pos) (tI G W (iEnum mt)) := PI.imp (pi_eq hg hm ha hs) fun σ H R ⟨et, env, h, hE, hH, hP⟩ => by
  rw [hK]
  refine ⟨et, env, h, hE, hH, (Pst.of_bind hP).imp fun et1 H1 h1 xs p e hr q vs hv => ?_⟩
  split at q
  · rename_i a
    obtain ⟨v, rfl, ra⟩ := list1 hv
    cases ea : stOf a with
    | none =>
      rw [ea] at q
      cases qa : qOf h1 a with
      | none => rw [qa] at q; exact q.elim
      | some l =>
        rw [qa] at q
        obtain ⟨v1, xs, d1, a1⟩ := q_kd hr qa ra
        have n1 := d1.len
        refine ⟨kdOf a v, xs, by rw [← v1], a1, q.here hr _ fun et2 H2 h2 p2 e2 R2 ok i => ?_⟩
        have ok' : (enumQ a l.length h2).isSome = true := ok
        obtain ⟨zs, ez⟩ := Option.isSome_iff_exists.mp ok'
        show (match (enumQ a l.length h2).bind fun xs => xs[i]? with | some d => _ | none => _)
        rw [ez]
        unfold enumQ at ez
        cases qb : qOf h2 a with
        | none => rw [qb] at ez; cases ez
        | some m =>
          rw [qb] at ez
          dsimp only at ez
          split at ez
          · rename_i hn
            cases ez
            obtain ⟨_, xs2, f1, b1⟩ := q_kd R2 qb (ra.mono p2 e2)
            have n3 := f1.len
            show (match (m.mapIdx fun i x => D.tup [.int (i : Nat), x])[i]? with | some d => _ | none => _)
            rw [List.getElem?_mapIdx]
            cases e3 : m[i]? with
            | none =>
              have := List.getElem?_eq_none_iff.mp e3
              exact ⟨by omega, xs2, b1, by omega⟩
            | some d =>
              have m1 := (List.getElem?_eq_some_iff.mp e3).1
              refine ⟨⟨by omega, xs2, b1, by omega⟩, fun z H' ⟨T, x, hz, hT, hH', hx⟩ => ?_⟩
              subst hz hH'
              obtain ⟨v1, w1, r1⟩ := f1.get e3
              have x1 := hx _ b1
              rw [w1] at x1
              cases x1
              exact ⟨Ext.new hT, R2.new hT, den_pair (h := h2) hT (by simp) r1⟩
          · cases ez
    | some l =>
      rw [ea] at q
      obtain ⟨k1, xs, rfl, d1, st1⟩ := stOf_kd ea ra
      refine ⟨k1, xs, rfl, st1 _ (Ext.refl _), q.here hr _ (jrel_st fun et2 H2 h2 p2 e2 R2 i => ?_)⟩
      have n1 := d1.len
      rw [List.getElem?_mapIdx]
      cases e3 : l[i]? with
      | none =>
        have := List.getElem?_eq_none_iff.mp e3
        exact ⟨by omega, xs, st1 _ e2, rfl⟩
      | some d =>
        have m1 := (List.getElem?_eq_some_iff.mp e3).1
        refine ⟨⟨by omega, xs, st1 _ e2, rfl⟩, fun z H' ⟨T, x, hz, hT, hH', hx⟩ => ?_⟩
        subst hz hH'
        obtain ⟨v1, w1, r1⟩ := d1.get e3
        have x1 := hx _ (st1 _ e2)
        rw [w1] at x1
        cases x1
        exact ⟨Ext.new hT, R2.new hT, den_pair (h := h2) hT (by simp) (r1.mono p2 e2)⟩
  · exact q.elim
end
end NR

set_option Elab.async false
set_option linter.all false
set_option maxRecDepth 100000
set_option maxHeartbeats 1000000
/-! What the functions come to: equations for simp. -/
namespace NR
open PySem PySem.Spec PyProof.Rows L2
@[simp] theorem get_zero {A : Type} {a : A} {l : List A} : (a :: l)[0]? = some a := (rfl)
section
variable {A B : Type} {env : EV} {h h' : IH} {i j : Nat} {d x y : D} {a b c m mo mi me : ME} {t u : MT} {ta : MA} {s s1 s2 : MS} {f g : D → D → IH → R D}
@[simp] theorem bind_ok {a : A} {k : A → IH → R B} : (R.ok a h).bind k = k a h := (rfl)
@[simp] theorem bind_ex {c : Str} {d : XF} {k : A → IH → R B} : (R.ex c d h : R A).bind k = .ex c d h := (rfl)
@[simp] theorem bind_no {k : A → IH → R B} : (R.no : R A).bind k = .no := (rfl)
@[simp] theorem bindS_ok {a : A} {k : A → IH → RS} : (R.ok a h).bindS env k = k a h := (rfl)
@[simp] theorem bindS_ex {c : Str} {d : XF} {k : A → IH → RS} : (R.ex c d h : R A).bindS env k = .ex c d env h := (rfl)
@[simp] theorem bindS_no {k : A → IH → RS} : (R.no : R A).bindS env k = .no := (rfl)
@[simp] theorem then_nx {k : EV → IH → RS} : (RS.nx env h).then k = k env h := (rfl)
@[simp] theorem then_rt {k : EV → IH → RS} : (RS.rt d h).then k = .rt d h := (rfl)
@[simp] theorem then_bk {k : EV → IH → RS} : (RS.bk env h).then k = .bk env h := (rfl)
@[simp] theorem then_ct {k : EV → IH → RS} : (RS.ct env h).then k = .ct env h := (rfl)
@[simp] theorem then_ex {c : Str} {d : XF} {k : EV → IH → RS} : (RS.ex c d env h).then k = .ex c d env h := (rfl)
@[simp] theorem then_no {k : EV → IH → RS} : RS.no.then k = .no := (rfl)
@[simp] theorem fin_nx : (RS.nx env h).fin = .ok .non h := (rfl)
@[simp] theorem fin_rt : (RS.rt d h).fin = .ok d h := (rfl)
@[simp] theorem fin_ex {c : Str} {d : XF} : (RS.ex c d env h).fin = .ex c d h := (rfl)
@[simp] theorem ofO_some {a : A} : R.ofO (some a) h = .ok a h := (rfl)
/-- a new list -/
def newL (h : IH) (xs : List D) : R D := .ok (.ref h.length) (h ++ [.lst xs])
theorem newL_bind {xs : List D} {k : D → IH → R B} : (newL h xs).bind k = k (.ref h.length) (h ++ [.lst xs]) := rfl
theorem newL_bindS {xs : List D} {k : D → IH → RS} : (newL h xs).bindS env k = k (.ref h.length) (h ++ [.lst xs]) := rfl
@[simp] theorem ap_mVar : mVar i env h = match env[i]? with | some (some d) => .ok d h | _ => .no := rfl
@[simp] theorem ap_mC : mC d env h = .ok d h := rfl
@[simp] theorem ap_mOp : mOp f a b env h = (a env h).bind fun x h1 => (b env h1).bind fun y h2 => f x y h2 := rfl
@[simp] theorem ap_mTr : mTr m env h = (m env h).bind fun d h1 => R.ofO (truD h1 d) h1 := rfl
@[simp] theorem ap_mTb : mTb m env h = (m env h).bind fun d h1 => R.ofO d.bl? h1 := rfl
@[simp] theorem ap_mAnd : mAnd t u env h = (t env h).bind fun c h1 => if c = true then u env h1 else .ok false h1 := rfl
@[simp] theorem ap_mOr : mOr t u env h = (t env h).bind fun c h1 => if c = true then .ok true h1 else u env h1 := rfl
@[simp] theorem ap_mNot : mNot t env h = (t env h).bind fun c h1 => .ok (!c) h1 := rfl
@[simp] theorem ap_mIf : mIf t a b env h = (t env h).bind fun c h1 => if c = true then a env h1 else b env h1 := rfl
@[simp] theorem ap_mNil : mNil env h = .ok [] h := rfl
@[simp] theorem ap_mCons : mCons a ta env h = (a env h).bind fun x h1 => (ta env h1).bind fun xs h2 => .ok (x :: xs) h2 := rfl
@[simp] theorem ap_mTup : mTup ta env h = (ta env h).bind fun xs h1 => if xs.length ≤ 10000000 then .ok (.tup xs) h1 else .no := rfl
@[simp] theorem ap_mLst : mLst ta env h = (ta env h).bind fun xs h1 => if xs.length ≤ 10000000 then newL h1 xs else .no := rfl
@[simp] theorem ap_mCall {n : Nat} {fm : MF} : mCall n fm ta env h = (ta env h).bind fun ds h1 => callC n fm ds h1 := rfl
@[simp] theorem ap_mB {fb : List D → IH → R D} : mB fb ta env h = (ta env h).bind fun xs h1 => fb xs h1 := rfl
@[simp] theorem ap_mMeth {T : String} {fb : D → List D → IH → R D} : mMeth T fb mo ta env h = (mo env h).bind fun x h1 => if tyD T h1 x = true then (ta env h1).bind fun xs h2 => fb x xs h2 else .no := rfl
@[simp] theorem ap_mNeg : mNeg a env h = (a env h).bind fun x h1 => match x with | .int i => .ok (.int (-i)) h1 | _ => .no := rfl
@[simp] theorem ap_mAndV : mAndV a b env h = (a env h).bind fun x h1 => match x with | .bl true => b env h1 | .bl false => .ok (.bl false) h1 | _ => .no := rfl
@[simp] theorem ap_mOrV : mOrV a b env h = (a env h).bind fun x h1 => match x with | .bl true => .ok (.bl true) h1 | .bl false => b env h1 | _ => .no := rfl
@[simp] theorem ap_mNotV : mNotV a env h = (a env h).bind fun x h1 => match x with | .bl b => .ok (.bl (!b)) h1 | _ => .no := rfl
@[simp] theorem ap_mChain : mChain f g a b c env h = (a env h).bind fun x h1 => (b env h1).bind fun y h2 => (f x y h2).bind fun z h3 => match z with
  | .bl true => (c env h3).bind fun w h4 => g y w h4
  | .bl false => .ok (.bl false) h3
  | _ => .no := rfl
@[simp] theorem ap_mSlice {l u : MO} : mSlice m l u env h = (m env h).bind fun x h1 => (l env h1).bind fun l h2 => (u env h2).bind fun u h3 => sliceD x l u h3 := rfl
@[simp] theorem ap_moNone : moNone env h = .ok none h := rfl
@[simp] theorem ap_moSome : moSome m env h = (m env h).bind fun d h1 => match d with | .int i => .ok (some i) h1 | _ => .no := rfl
@[simp] theorem ap_mIs {T : String} : mIs T m env h = (m env h).bind fun x h1 => match isT T h1 x with | some b => .ok (.bl b) h1 | none => .no := rfl
@[simp] theorem ap_msNil : msNil env h = .nx env h := rfl
@[simp] theorem ap_msCons : msCons s1 s2 env h = (s1 env h).then s2 := rfl
@[simp] theorem ap_msRet : msRet m env h = (m env h).bindS env fun d h1 => .rt d h1 := rfl
@[simp] theorem ap_msIf : msIf t s1 s2 env h = (t env h).bindS env fun c h1 => if c = true then s1 env h1 else s2 env h1 := rfl
@[simp] theorem ap_msSet : msSet i m env h = (m env h).bindS env fun d h1 => .nx (env.set i (some d)) h1 := rfl
@[simp] theorem ap_msSetT {gg : MG} : msSetT gg m env h = (m env h).bindS env fun d h1 => match gg d env with | some e => .nx e h1 | none => .no := rfl
@[simp] theorem ap_msExpr : msExpr m env h = (m env h).bindS env fun _ h1 => .nx env h1 := rfl
@[simp] theorem ap_msAug : msAug i f m env h = match env[i]? with
  | some (some x) => (m env h).bindS env fun y h1 => (f x y h1).bindS env fun z h2 => .nx (env.set i (some z)) h2
  | _ => .no := rfl
@[simp] theorem ap_msSetI : msSetI mo mi me env h = (me env h).bindS env fun v h1 => (mo env h1).bindS env fun o h2 => (mi env h2).bindS env fun i h3 => match putD o i v h3 with
  | some h4 => .nx env h4
  | none => .no := rfl
@[simp] theorem ap_msAugI : msAugI f mo mi me env h = (mo env h).bindS env fun o h1 => (mi env h1).bindS env fun i h2 => match getL o i h2 with
  | none => .no
  | some x => (me env h2).bindS env fun y h3 => (f x y h3).bindS env fun z h4 => match putD o i z h4 with
    | some h5 => .nx env h5
    | none => .no := rfl
@[simp] theorem ap_msFor {it : MI} {gg : MG} : msFor it gg s env h = (it env h).bindS env fun src h1 => forM src gg s (src.many h1 + 1) 0 env h1 := rfl
@[simp] theorem ap_mLc {it : MI} {gg : MG} {ws : List Nat} : mLc it gg t m ws env h = (it env h).bind fun src h1 => lcM src gg t m h1.length (src.many h1 + 1) 0 (wipeE env ws) (h1 ++ [.lst []]) := rfl
@[simp] theorem ap_iSeq : iSeq m env h = (m env h).bind fun x h1 => match x with
  | .ref n => if (lstOf h1 (.ref n)).isSome then .ok (.ls n) h1 else .no
  | .tup l => .ok (.st l) h1
  | .fl l => .ok (.st l) h1
  | .str s => if s.length ≤ 10000000 then .ok (.st (s.map fun c => .str [c])) h1 else .no
  | _ => .no := rfl
@[simp] theorem ap_iRange1 : iRange1 ta env h = (ta env h).bind fun xs h1 => match xs with
  | [.int j] => if -10000000 ≤ j ∧ j ≤ 10000000 then .ok (.st (intsFrom 0 j.toNat)) h1 else .no
  | _ => .no := rfl
@[simp] theorem ap_iRange2 : iRange2 ta env h = (ta env h).bind fun xs h1 => match xs with
  | [.int i, .int j] => if -10000000 ≤ i ∧ i ≤ 10000000 ∧ -10000000 ≤ j ∧ j ≤ 10000000 then .ok (.st (intsFrom i (j - i).toNat)) h1 else .no
  | _ => .no := rfl
@[simp] theorem ap_fnM {n : Nat} {ds : List D} : fnM n s ds h = (s (ds.map some ++ List.replicate (n - ds.length) none) h).fin := rfl
theorem strV_eq (a b : List Nat) : (strV a == strV b) = decide (a = b) := by
  by_cases e : a = b
  · subst e; simp
  · rw [decide_eq_false e]
    exact beq_eq_false_iff_ne.mpr fun z => e (strV_inj z)
@[simp] theorem dEq_str {neg : Bool} {a b : List Nat} : dEq neg (.str a) (.str b) h = .ok (.bl (if neg then !decide (a = b) else decide (a = b))) h := by
  show R.ok (D.bl (if neg then !PyData.eqv (.str (strV a)) (.str (strV b)) else PyData.eqv (.str (strV a)) (.str (strV b)))) h = _
  rw [show PyData.eqv (.str (strV a)) (.str (strV b)) = (strV a == strV b) by simp [PyData.eqv], strV_eq]
@[simp] theorem dEq_int {neg : Bool} {a b : Int} : dEq neg (.int a) (.int b) h = .ok (.bl (if neg then !decide (a = b) else decide (a = b))) h := by
  show R.ok (D.bl (if neg then !PyData.eqv (.int a) (.int b) else PyData.eqv (.int a) (.int b))) h = _
  rw [show PyData.eqv (.int a) (.int b) = (a == b) by simp [PyData.eqv], Bool.beq_eq_decide_eq]
@[simp] theorem dIn_sign {neg : Bool} {c : Nat} {z : List Nat} : dIn neg (.str [c]) (.str z) h = .ok (.bl (if neg then !decide (c ∈ z) else decide (c ∈ z))) h := rfl
theorem allM_pyStrs {k : Nat} (zs : List (List Nat)) : allM (D.py h (k + 1)) (zs.map D.str) = some (zs.map fun z => PyData.str (strV z)) := by
  induction zs with
  | nil => rfl
  | cons z zs ih =>
    rw [List.map_cons, List.map_cons]
    unfold allM
    rw [ih]
    rfl
theorem dIn_strs {neg : Bool} {a : List Nat} {zs : List (List Nat)} : dIn neg (.str a) (.tup (zs.map D.str)) h = .ok (.bl (if neg then !decide (a ∈ zs) else decide (a ∈ zs))) h := by
  have e : (zs.map fun z => PyData.str (strV z)).any (fun z => PyData.eqv z (.str (strV a))) = decide (a ∈ zs) := by
    induction zs with
    | nil => rfl
    | cons z zs ih =>
      simp only [List.map_cons, List.any_cons, ih, PyData.eqv, strV_eq, List.mem_cons, Bool.decide_or]
      rw [show decide (z = a) = decide (a = z) from decide_eq_decide.mpr eq_comm]
  unfold dIn
  split
  · rename_i h1 h2; cases h2
  · rw [show D.py h 50 (.str a) = some (.str (strV a)) from rfl, show (seqOf h (.tup (zs.map D.str))).bind (allM (D.py h 49)) = allM (D.py h (48 + 1)) (zs.map D.str) from rfl, allM_pyStrs]
    dsimp only
    rw [e]
@[simp] theorem dAdd_int {i j : Int} : dAdd (.int i) (.int j) h = .ok (.int (i + j)) h := rfl
@[simp] theorem dSub_int {i j : Int} : dSub (.int i) (.int j) h = .ok (.int (i - j)) h := rfl
theorem dAdd_str_if {a b : List Nat} : dAdd (.str a) (.str b) h = if a.length + b.length ≤ 10000000 then .ok (.str (a ++ b)) h else .no := rfl
@[simp] theorem dMul_int {i j : Int} : dMul (.int i) (.int j) h = if cMul i j then .ok (.int (i * j)) h else .no := rfl
@[simp] theorem dI_int {C : Int → Int → Bool} {k : Int → Int → Int} {i j : Int} : dI C k (.int i) (.int j) h = if C i j then .ok (.int (k i j)) h else .no := rfl
@[simp] theorem dC_int {k : Int → Int → Bool} {i j : Int} : dC k (.int i) (.int j) h = .ok (.bl (k i j)) h := rfl
@[simp] theorem bl?_bl {b : Bool} : (D.bl b).bl? = some b := rfl
@[simp] theorem truD_bl {b : Bool} : truD h (.bl b) = some b := rfl
theorem okB_self {k : Nat} : ∀ {h g : IH}, okB k h (h ++ g)
  | [], _ => True.intro
  | _ :: h, g => ⟨.inl rfl, okB_self (h := h)⟩
@[simp] theorem okB_app {k : Nat} {h g : IH} : okB k h (h ++ g) ↔ True := iff_true_intro okB_self
@[simp] theorem okB_refl {k : Nat} {h : IH} : okB k h h ↔ True := iff_true_intro (by simpa using okB_self (k := k) (h := h) (g := []))
@[simp] theorem okB_nil {k : Nat} {h : IH} : okB k [] h ↔ True := Iff.rfl
@[simp] theorem okB_cons {k : Nat} {c c' : Cell} {cs cs' : IH} : okB k (c :: cs) (c' :: cs') ↔ (c' = c ∨ Cell.lo k c' = true) ∧ okB k cs cs' := Iff.rfl
/-- a call of a def that changes nothing and tells a value without cells of its own -/
theorem callC_pure {n : Nat} {fm : MF} {ds : List D} {d : D} {g : IH} (hn : ds.length = n) (e : fm ds h = .ok d (h ++ g)) (hd : d.lo h.length = true) : callC n fm ds h = .ok d h := by
  unfold callC
  rw [if_pos hn, e]
  unfold clean
  simp [hd]
theorem callC_same {n : Nat} {fm : MF} {ds : List D} {d : D} (hn : ds.length = n) (e : fm ds h = .ok d h) : callC n fm ds h = .ok d h := by
  unfold callC
  rw [if_pos hn, e]
  unfold clean
  simp
theorem callC_ex {n : Nat} {fm : MF} {ds : List D} {c : Str} {g : IH} (hn : ds.length = n) (e : fm ds h = .ex c none (h ++ g)) : callC n fm ds h = .ex c none h := by
  unfold callC
  rw [if_pos hn, e]
  unfold clean
  simp [xfLo]
theorem callC_len {n : Nat} {fm : MF} {ds : List D} {d : D} (hn : ds.length = n) (e : fm ds h = .ok d h') (hl : h'.length = h.length) : callC n fm ds h = .ok d h' := by
  unfold callC
  rw [if_pos hn, e]
  unfold clean
  dsimp only
  rw [← hl, List.take_length]
  split <;> rfl
/-- a call that leaves h' of the old cells, and more behind them -/
theorem callC_cut {n : Nat} {fm : MF} {ds : List D} {d : D} {g : IH} (hn : ds.length = n) (e : fm ds h = .ok d (h' ++ g)) (hl : h'.length = h.length) (hd : d.lo h.length = true) (hw : okB h.length h (h' ++ g)) : callC n fm ds h = .ok d h' := by
  unfold callC
  rw [if_pos hn, e]
  unfold clean
  dsimp only
  rw [if_pos ⟨hd, hw⟩, ← hl, List.take_left]
/-- a call that draws: the pen's cell stands at 1 -/
theorem callC_pen {n : Nat} {fm : MF} {ds : List D} {d : D} {z c c' : Cell} {g g' : IH} (hn : ds.length = n) (e : fm ds (z :: c :: g) = .ok d (z :: c' :: (g ++ g'))) (hd : ∀ k, 2 ≤ k → d.lo k = true) (hc : ∀ k, 2 ≤ k → Cell.lo k c' = true) : callC n fm ds (z :: c :: g) = .ok d (z :: c' :: g) :=
  callC_cut (h := z :: c :: g) (h' := z :: c' :: g) (g := g') hn (by simpa using e) rfl (hd _ (by simp)) (by simp [hc])
theorem callC_pen0 {n : Nat} {fm : MF} {ds : List D} {d : D} {z c c' : Cell} {g : IH} (hn : ds.length = n) (e : fm ds (z :: c :: g) = .ok d (z :: c' :: g)) : callC n fm ds (z :: c :: g) = .ok d (z :: c' :: g) := callC_len hn e rfl
/-- a call whose value is a cell of its own -/
theorem callC_new {n : Nat} {fm : MF} {ds : List D} {k : Nat} (hn : ds.length = n) (e : fm ds h = .ok (.ref k) h') (hk : h.length ≤ k) : callC n fm ds h = .ok (.ref k) h' := by
  unfold callC
  rw [if_pos hn, e]
  unfold clean
  dsimp only
  rw [if_neg]
  rintro ⟨h2, _⟩
  simp [D.lo] at h2
  omega
/-- a call whose value tells of cells of its own -/
theorem callC_tup {n : Nat} {fm : MF} {ds : List D} {d : D} (hn : ds.length = n) (e : fm ds h = .ok d h') (hd : d.lo h.length = false) : callC n fm ds h = .ok d h' := by
  unfold callC
  rw [if_pos hn, e]
  unfold clean
  dsimp only
  rw [if_neg]
  rintro ⟨h2, _⟩
  rw [hd] at h2
  cases h2
/-- a for over what stands still -/
theorem forM_inv {ds : List D} {gg : MG} (P : Nat → EV → IH → Prop) (Rs : RS → Prop)
    (step : ∀ i d env h, ds[i]? = some d → P i env h → ∃ e1, gg d env = some e1 ∧ (match s e1 h with
      | .nx e2 h2 => P (i + 1) e2 h2
      | .ct e2 h2 => P (i + 1) e2 h2
      | .bk e2 h2 => Rs (.nx e2 h2)
      | r => Rs r)) (fin : ∀ env h, P ds.length env h → Rs (.nx env h)) (h0 : P 0 env h) : Rs (forM (.st ds) gg s ((Src.st ds).many h + 1) 0 env h) := by
  have go : ∀ m i env h, i + m = ds.length + 1 → i ≤ ds.length → P i env h → Rs (forM (.st ds) gg s m i env h) := by
    intro m
    induction m with
    | zero => intro i env h e l; omega
    | succ m ih =>
      intro i env h e l p
      unfold forM
      rw [if_pos (show (Src.st ds).ok h = true from rfl)]
      show Rs (match ds[i]? with
        | none => _
        | some d => _)
      cases hd : ds[i]? with
      | none =>
        have : i = ds.length := by
          have := List.getElem?_eq_none_iff.mp hd
          omega
        subst this
        exact fin env h p
      | some d =>
        have hi := (List.getElem?_eq_some_iff.mp hd).1
        obtain ⟨e1, g1, st⟩ := step i d env h hd p
        dsimp only
        rw [g1]
        dsimp only
        revert st
        cases s e1 h with
        | nx e2 h2 => exact fun st => ih (i + 1) e2 h2 (by omega) (by omega) st
        | ct e2 h2 => exact fun st => ih (i + 1) e2 h2 (by omega) (by omega) st
        | bk e2 h2 => exact fun st => st
        | rt d2 h2 => exact fun st => st
        | ex c d2 e2 h2 => exact fun st => st
        | no => exact fun st => st
  exact go _ 0 env h (by show 0 + (ds.length + 1) = _; omega) (Nat.zero_le _) h0
theorem msWhile_inv {c : MT} (P : Nat → EV → IH → Prop) (Rs : RS → Prop)
    (step : ∀ m env h, P m env h → match c env h with
      | .ok true h1 => (match s env h1 with
        | .nx e2 h2 => ∃ m', m' < m ∧ P m' e2 h2
        | .ct e2 h2 => ∃ m', m' < m ∧ P m' e2 h2
        | .bk e2 h2 => Rs (.nx e2 h2)
        | r => Rs r)
      | .ok false h1 => Rs (.nx env h1)
      | .ex cl d h1 => Rs (.ex cl d env h1)
      | .no => Rs .no) : ∀ (m : Nat) (env : EV) (h : IH), P m env h → Rs (msWhile c s env h) := by
  intro m
  induction m using Nat.strongRecOn with
  | _ m ih =>
    intro env h p
    have st := step m env h p
    rw [msWhile_eq]
    revert st
    cases c env h with
    | no => exact fun st => st
    | ex cl d h1 => exact fun st => st
    | ok b h1 =>
      cases b with
      | false => exact fun st => st
      | true =>
        dsimp only
        cases s env h1 with
        | nx e2 h2 => exact fun ⟨m', l, p'⟩ => ih m' l e2 h2 p'
        | ct e2 h2 => exact fun ⟨m', l, p'⟩ => ih m' l e2 h2 p'
        | bk e2 h2 => exact fun st => st
        | rt d2 h2 => exact fun st => st
        | ex c d2 e2 h2 => exact fun st => st
        | no => exact fun st => st
/-- a comprehension over what stands still -/
theorem lcM_inv {ds : List D} {gg : MG} {n : Nat} (P : Nat → IH → Prop) (Rs : R D → Prop)
    (step : ∀ i d h, ds[i]? = some d → P i h → ∃ e1, gg d env = some e1 ∧ (match t e1 h with
      | .ok true h2 => ∃ y h3 acc, m e1 h2 = .ok y h3 ∧ h3[n]? = some (.lst acc) ∧ acc.length < 10000000 ∧ P (i + 1) (h3.set n (.lst (acc ++ [y])))
      | .ok false h2 => P (i + 1) h2
      | _ => False)) (fin : ∀ h, P ds.length h → Rs (.ok (.ref n) h)) (h0 : P 0 h) : Rs (lcM (.st ds) gg t m n ((Src.st ds).many h' + 1) 0 env h) := by
  have go : ∀ k i h, i + k = ds.length + 1 → i ≤ ds.length → P i h → Rs (lcM (.st ds) gg t m n k i env h) := by
    intro k
    induction k with
    | zero => intro i h e l; omega
    | succ k ih =>
      intro i h e l p
      unfold lcM
      rw [if_pos (show (Src.st ds).ok h = true from rfl)]
      show Rs (match ds[i]? with
        | none => _
        | some d => _)
      cases hd : ds[i]? with
      | none =>
        have : i = ds.length := by
          have := List.getElem?_eq_none_iff.mp hd
          omega
        subst this
        exact fin h p
      | some d =>
        have hi := (List.getElem?_eq_some_iff.mp hd).1
        obtain ⟨e1, g1, st⟩ := step i d h hd p
        dsimp only
        rw [g1]
        dsimp only
        revert st
        cases t e1 h with
        | no => exact fun st => st.elim
        | ex _ _ _ => exact fun st => st.elim
        | ok b h2 =>
          cases b with
          | false => exact fun st => ih (i + 1) h2 (by omega) (by omega) st
          | true =>
            rintro ⟨y, h3, acc, e3, e4, l4, p4⟩
            dsimp only
            rw [e3]
            dsimp only
            rw [e4]
            dsimp only
            rw [if_pos l4]
            exact ih (i + 1) _ (by omega) (by omega) p4
  exact go _ 0 h (by show 0 + (ds.length + 1) = _; omega) (Nat.zero_le _) h0
theorem get_last {h : IH} {c : Cell} : (h ++ [c])[h.length]? = some c := by simp
theorem set_last {h : IH} {c c' : Cell} : (h ++ [c]).set h.length c' = h ++ [c'] := by simp
/-- a comprehension of what is reckoned of each -/
theorem lcM_map {ds : List D} {gg : MG} (F : D → D) (hl : ds.length ≤ 9000000) (step : ∀ d ∈ ds, ∃ e1, gg d env = some e1 ∧ ∀ x, m e1 (h ++ [x]) = .ok (F d) (h ++ [x])) :
    lcM (.st ds) gg mYes m h.length ((Src.st ds).many h' + 1) 0 env (h ++ [.lst []]) = .ok (.ref h.length) (h ++ [.lst (ds.map F)]) := by
  refine lcM_inv (P := fun i h' => h' = h ++ [.lst ((ds.take i).map F)]) (Rs := fun r => r = .ok (.ref h.length) (h ++ [.lst (ds.map F)])) ?_ ?_ ?_
  · intro i d h' hd hp
    subst hp
    obtain ⟨e1, g1, st⟩ := step d (List.mem_of_getElem? hd)
    refine ⟨e1, g1, ?_⟩
    show ∃ y h3 acc, m e1 _ = .ok y h3 ∧ _
    refine ⟨F d, _, _, st _, get_last, ?_, ?_⟩
    · rw [List.length_map, List.length_take]
      omega
    · rw [set_last, List.take_add_one, hd]
      simp
  · intro h' hp
    rw [hp, List.take_length]
  · simp
theorem lcM_filter {ds : List D} {gg : MG} (F : D → D) (p : D → Bool) (hl : ds.length ≤ 9000000) (step : ∀ d ∈ ds, ∃ e1, gg d env = some e1 ∧ (∀ x, t e1 (h ++ [x]) = .ok (p d) (h ++ [x])) ∧ ∀ x, p d = true → m e1 (h ++ [x]) = .ok (F d) (h ++ [x])) :
    lcM (.st ds) gg t m h.length ((Src.st ds).many h' + 1) 0 env (h ++ [.lst []]) = .ok (.ref h.length) (h ++ [.lst ((ds.filter p).map F)]) := by
  refine lcM_inv (P := fun i h' => h' = h ++ [.lst (((ds.take i).filter p).map F)]) (Rs := fun r => r = .ok (.ref h.length) (h ++ [.lst ((ds.filter p).map F)])) ?_ ?_ ?_
  · intro i d h' hd hp
    subst hp
    obtain ⟨e1, g1, tt, st⟩ := step d (List.mem_of_getElem? hd)
    refine ⟨e1, g1, ?_⟩
    rw [tt]
    cases hpd : p d with
    | true =>
      dsimp only
      refine ⟨F d, _, _, st _ hpd, get_last, ?_, ?_⟩
      · rw [List.length_map]
        have := List.length_filter_le p (ds.take i)
        rw [List.length_take] at this
        omega
      · rw [set_last, List.take_add_one, hd]
        simp [hpd]
    | false =>
      dsimp only
      rw [List.take_add_one, hd]
      simp [hpd]
  · intro h' hp
    rw [hp, List.take_length]
  · simp
theorem joinN_nil : ∀ ys : List (List Nat), joinN [] ys = ys.flatten
  | [] => rfl
  | [x] => by simp [joinN]
  | x :: y :: r => by
    unfold joinN
    rw [joinN_nil (y :: r)]
    simp
theorem sum_lens (ys : List (List Nat)) : (ys.map List.length).sum = ys.flatten.length := by
  induction ys with
  | nil => rfl
  | cons y ys ih => rw [List.map_cons, List.sum_cons, ih, List.flatten_cons, List.length_append]
theorem join_nil_eq {h : IH} {n : Nat} {ys : List (List Nat)} (e : h[n]? = some (.lst (ys.map D.str))) (l : ys.flatten.length ≤ 10000000) : fJoin (.str []) [.ref n] h = .ok (.str ys.flatten) h := by
  unfold fJoin; dsimp only
  have e1 : (seqOf h (.ref n)).bind (allM D.str?) = some ys := by
    unfold seqOf
    dsimp only
    rw [e]
    exact allM_mkStrs ys
  rw [e1]
  dsimp only
  rw [sum_lens, List.length_nil, Nat.mul_zero, Nat.add_zero, joinN_nil, if_pos l]
theorem ixN_toNat {n : Nat} {i : Int} (h0 : 0 ≤ i) (h1 : i < n) : ixN n i = some i.toNat := by
  unfold ixN
  rw [if_pos h0, if_pos h1]
theorem dIx_str {s : List Nat} {i : Int} {c : Nat} (h0 : 0 ≤ i) (e : s[i.toNat]? = some c) (l : s.length ≤ 10000000) : dIx (.str s) (.int i) h = .ok (.str [c]) h := by
  have hi := (List.getElem?_eq_some_iff.mp e).1
  show getD' _ _ _ = _
  unfold getD'
  dsimp only
  rw [ixN_toNat h0 (by omega)]
  dsimp only [Option.bind]
  rw [e]
  dsimp only
  rw [if_pos l]
theorem dIx_seq {o : D} {xs : List D} {i : Int} {d : D} (hs : seqOf h o = some xs) (h0 : 0 ≤ i) (e : xs[i.toNat]? = some d) : dIx o (.int i) h = .ok d h := by
  have hi := (List.getElem?_eq_some_iff.mp e).1
  show getD' _ _ _ = _
  unfold getD'
  cases o with
  | str s => simp [seqOf] at hs
  | _ =>
    dsimp only
    rw [hs]
    dsimp only [Option.bind]
    rw [ixN_toNat h0 (by omega)]
    dsimp only [Option.bind]
    rw [e]
/-- an item of a list's cell -/
theorem dIx_ref {n : Nat} {xs : List D} {i : Int} {d : D} (hs : h[n]? = some (.lst xs)) (h0 : 0 ≤ i) (e : xs[i.toNat]? = some d) : dIx (.ref n) (.int i) h = .ok d h := dIx_seq (by unfold seqOf; dsimp only; rw [hs]) h0 e
theorem putD_ref {n : Nat} {xs : List D} {i : Int} {v : D} (hs : h[n]? = some (.lst xs)) (h0 : 0 ≤ i) (l : i < xs.length) : putD (.ref n) (.int i) v h = some (h.set n (.lst (xs.set i.toNat v))) := by
  unfold putD
  dsimp only
  rw [hs]
  dsimp only
  rw [ixN_toNat h0 l]
  rfl
theorem getL_ref {n : Nat} {xs : List D} {i : Int} {d : D} (hs : h[n]? = some (.lst xs)) (h0 : 0 ≤ i) (e : xs[i.toNat]? = some d) : getL (.ref n) (.int i) h = some d := by
  have hi := (List.getElem?_eq_some_iff.mp e).1
  unfold getL
  dsimp only
  unfold lstOf
  dsimp only
  rw [hs]
  dsimp only [Option.bind]
  rw [ixN_toNat h0 (by omega)]
  dsimp only [Option.bind]
  rw [e]
theorem sIx_int {n d : Nat} {i : Int} (h0 : 0 ≤ i) : HT.sIx n d (some i) = min i.toNat n := by
  show (if i < 0 then (i + (n : Int)).toNat else min i.toNat n) = _
  rw [if_neg (by omega)]
theorem cut_two {A : Type} (xs : List A) (a b : Nat) : (xs.drop (min a xs.length)).take (min b xs.length - min a xs.length) = (xs.drop a).take (b - a) := by
  apply List.ext_getElem?
  intro j
  rw [List.getElem?_take, List.getElem?_take, List.getElem?_drop, List.getElem?_drop]
  by_cases ha : a ≤ xs.length
  · rw [Nat.min_eq_left ha]
    by_cases hb : b ≤ xs.length
    · rw [Nat.min_eq_left hb]
    · rw [Nat.min_eq_right (by omega)]
      by_cases hj : j < xs.length - a
      · rw [if_pos hj, if_pos (by omega)]
      · rw [if_neg hj, List.getElem?_eq_none (by omega)]
        split <;> rfl
  · rw [List.getElem?_eq_none (i := a + j) (by omega), List.getElem?_eq_none (i := min a xs.length + j) (by rw [Nat.min_eq_right (show xs.length ≤ a by omega)]; omega)]
    split <;> split <;> rfl
theorem cutN_two {xs : List Nat} {i j : Int} (h0 : 0 ≤ i) (h1 : 0 ≤ j) : cutN xs (some i) (some j) = (xs.drop i.toNat).take (j.toNat - i.toNat) := by
  unfold cutN
  rw [sIx_int h0, sIx_int h1, cut_two]
theorem cutN_to {xs : List Nat} {j : Int} (h1 : 0 ≤ j) : cutN xs none (some j) = xs.take j.toNat := by
  unfold cutN
  rw [sIx_int h1, HT.sIx_none, List.drop_zero, Nat.sub_zero]
  apply List.ext_getElem?
  intro k
  rw [List.getElem?_take, List.getElem?_take]
  by_cases hk : k < j.toNat
  · rw [if_pos hk]
    by_cases hx : k < xs.length
    · rw [if_pos (by omega)]
    · rw [List.getElem?_eq_none (by omega)]
      split <;> rfl
  · rw [if_neg hk, if_neg (by omega)]
theorem cutN_from {xs : List Nat} {i : Int} (h1 : 0 ≤ i) : cutN xs (some i) none = xs.drop i.toNat := by
  unfold cutN
  rw [sIx_int h1, HT.sIx_none]
  have e := cut_two xs i.toNat xs.length
  rw [Nat.min_self] at e
  rw [e, List.take_of_length_le (by rw [List.length_drop]; exact Nat.le_refl _)]
theorem cutD_two {xs : List D} {i j : Int} (h0 : 0 ≤ i) (h1 : 0 ≤ j) : cutD xs (some i) (some j) = (xs.drop i.toNat).take (j.toNat - i.toNat) := by
  unfold cutD
  rw [sIx_int h0, sIx_int h1, cut_two]
theorem cutD_to {xs : List D} {j : Int} (h1 : 0 ≤ j) : cutD xs none (some j) = xs.take j.toNat := by
  unfold cutD
  rw [sIx_int h1, HT.sIx_none, List.drop_zero, Nat.sub_zero]
  apply List.ext_getElem?
  intro k
  rw [List.getElem?_take, List.getElem?_take]
  by_cases hk : k < j.toNat
  · rw [if_pos hk]
    by_cases hx : k < xs.length
    · rw [if_pos (by omega)]
    · rw [List.getElem?_eq_none (by omega)]
      split <;> rfl
  · rw [if_neg hk, if_neg (by omega)]
theorem cutD_from {xs : List D} {i : Int} (h1 : 0 ≤ i) : cutD xs (some i) none = xs.drop i.toNat := by
  unfold cutD
  rw [sIx_int h1, HT.sIx_none]
  have e := cut_two xs i.toNat xs.length
  rw [Nat.min_self] at e
  rw [e, List.take_of_length_le (by rw [List.length_drop]; exact Nat.le_refl _)]
theorem bLen_str_if {s : List Nat} : bLen [.str s] h = if s.length ≤ 10000000 then .ok (.int (s.length : Nat)) h else .no := rfl
@[simp] theorem bLen_tup {l : List D} : bLen [.tup l] h = .ok (.int (l.length : Nat)) h := rfl
theorem bLen_ref {n : Nat} {xs : List D} (e : h[n]? = some (.lst xs)) : bLen [.ref n] h = .ok (.int (xs.length : Nat)) h := by
  unfold bLen
  dsimp only
  rw [e]
@[simp] theorem bAbs_int {i : Int} : bAbs [.int i] h = .ok (.int (if i < 0 then -i else i)) h := rfl
@[simp] theorem bMax2_int {i j : Int} : bMax2 [.int i, .int j] h = .ok (.int (if j > i then j else i)) h := rfl
@[simp] theorem bMin2_int {i j : Int} : bMin2 [.int i, .int j] h = .ok (.int (if j < i then j else i)) h := rfl
@[simp] theorem bInt1_int {i : Int} : bInt1 [.int i] h = .ok (.int i) h := rfl
@[simp] theorem bInt1_bl {b : Bool} : bInt1 [.bl b] h = .ok (.int (if b then 1 else 0)) h := rfl
@[simp] theorem dIAdd_int {i j : Int} : dIAdd (.int i) (.int j) h = .ok (.int (i + j)) h := rfl
theorem dIAdd_str_if {a b : List Nat} : dIAdd (.str a) (.str b) h = if a.length + b.length ≤ 10000000 then .ok (.str (a ++ b)) h else .no := rfl
@[simp] theorem dISub_int {i j : Int} : dISub (.int i) (.int j) h = .ok (.int (i - j)) h := rfl
theorem sliceD_str_if {s : List Nat} {l u : Option Int} : sliceD (.str s) l u h = if s.length ≤ 10000000 then .ok (.str (cutN s l u)) h else .no := rfl
@[simp] theorem sliceD_tup {s : List D} {l u : Option Int} : sliceD (.tup s) l u h = .ok (.tup (cutD s l u)) h := rfl
theorem is_str_str {s : List Nat} : isT "str" h (.str s) = some true := by
  show kitB "str" "str" = some true
  decide +kernel
theorem set_same {n : Nat} {c : Cell} (e : h[n]? = some c) : h.set n c = h := by
  apply List.ext_getElem?
  intro j
  by_cases hj : n = j
  · subst hj
    rw [List.getElem?_set_self (List.getElem?_eq_some_iff.mp e).1, e]
  · rw [List.getElem?_set_ne hj]
theorem get_set {n : Nat} {c c' : Cell} (e : h[n]? = some c) : (h.set n c')[n]? = some c' := List.getElem?_set_self (List.getElem?_eq_some_iff.mp e).1
theorem get_set_ne {n j : Nat} {c : Cell} (ne : n ≠ j) : (h.set n c)[j]? = h[j]? := List.getElem?_set_ne ne
@[simp] theorem loL_ints {n : Nat} (ns : List Int) : D.loL n (ns.map D.int) = true := by
  induction ns with
  | nil => simp [D.loL]
  | cons x xs ih => simp [D.loL, D.lo, ih]
@[simp] theorem loL_strs {n : Nat} (ns : List (List Nat)) : D.loL n (ns.map D.str) = true := by
  induction ns with
  | nil => simp [D.loL]
  | cons x xs ih => simp [D.loL, D.lo, ih]
/-! locked at once -/
open Classical in
/-- a new list that is locked at once -/
noncomputable def fzD (h h1 : IH) (xs : List D) : R D := fzR h (newL h1 xs)
theorem fz_newL {xs : List D} : fzR h (newL h' xs) = fzD h h' xs := rfl
theorem fz_bind {r : R A} {k : A → IH → R D} : fzR h (r.bind k) = r.bind fun a h1 => fzR h (k a h1) := by cases r <;> rfl
theorem fz_ite {p : Prop} [Decidable p] {r1 r2 : R D} : fzR h (if p then r1 else r2) = if p then fzR h r1 else fzR h r2 := by split <;> rfl
@[simp] theorem fz_no : fzR h .no = .no := rfl
@[simp] theorem fz_ex {c : Str} {d : XF} : fzR h (.ex c d h') = .ex c d h' := rfl
@[simp] theorem fz_non : fzR h (.ok .non h') = .ok .non h' := rfl
@[simp] theorem fz_bl {b : Bool} : fzR h (.ok (.bl b) h') = .ok (.bl b) h' := rfl
@[simp] theorem fz_int {b : Int} : fzR h (.ok (.int b) h') = .ok (.int b) h' := rfl
@[simp] theorem fz_str {b : List Nat} : fzR h (.ok (.str b) h') = .ok (.str b) h' := rfl
@[simp] theorem fz_tup {b : List D} : fzR h (.ok (.tup b) h') = .ok (.tup b) h' := rfl
@[simp] theorem fz_fl {b : List D} : fzR h (.ok (.fl b) h') = .ok (.fl b) h' := rfl
@[simp] theorem fz_fd {ks : List DKey} {b : List D} : fzR h (.ok (.fd ks b) h') = .ok (.fd ks b) h' := rfl
theorem fzR_at {n : Nat} {xs : List D} (e : h'[n]? = some (.lst xs)) (hn : h.length ≤ n) (lo : D.loL h.length xs = true) (ok : okB h.length h h') : fzR h (.ok (.ref n) h') = .ok (.fl xs) (h'.take h.length) := by
  unfold fzR
  dsimp only
  rw [e]
  dsimp only
  rw [if_pos ⟨hn, lo, ok⟩]
theorem fzD_same {xs : List D} (lo : D.loL h.length xs = true) : fzD h h xs = .ok (.fl xs) h := by
  unfold fzD newL
  rw [fzR_at (xs := xs) (by simp) (Nat.le_refl _) lo okB_self]
  simp
theorem fzD_pen {xs : List D} {z c c' : Cell} {g : IH} (lo : ∀ k, D.loL k xs = true) (lc : ∀ k, Cell.lo k c' = true) : fzD (z :: c :: g) (z :: c' :: g) xs = .ok (.fl xs) (z :: c' :: g) := by
  unfold fzD newL
  rw [fzR_at (n := (z :: c' :: g).length) (xs := xs) (by simp) (by simp) (lo _) (by simp [lc])]
  simp
/-- with old cells changed: nothing new is told of -/
theorem fzD_len {xs : List D} (hl : h'.length = h.length) (lo : D.loL h.length xs = true) (ok : okB h.length h (h' ++ [.lst xs])) : fzD h h' xs = .ok (.fl xs) h' := by
  unfold fzD newL
  rw [fzR_at (xs := xs) (by simp) (by omega) lo ok]
  simp [← hl]
theorem ap_mFz0 : mFz m env h = fzR h (m env h) := rfl
@[simp] theorem ap_mFz_lst : mFz (mLst ta) env h = (ta env h).bind fun xs h1 => if xs.length ≤ 10000000 then fzD h h1 xs else .no := by
  rw [ap_mFz0, ap_mLst, fz_bind]
  congr 1
  funext xs h1
  rw [fz_ite]
  rfl
@[simp] theorem ap_mFz_op : mFz (mOp f a b) env h = (a env h).bind fun x h1 => (b env h1).bind fun y h2 => fzR h (f x y h2) := by
  rw [ap_mFz0, ap_mOp, fz_bind]
  congr 1
  funext x h1
  rw [fz_bind]
@[simp] theorem ap_mFz_slice {l u : MO} : mFz (mSlice m l u) env h = (m env h).bind fun x h1 => (l env h1).bind fun l h2 => (u env h2).bind fun u h3 => fzR h (sliceD x l u h3) := by
  rw [ap_mFz0, ap_mSlice, fz_bind]
  congr 1
  funext x h1
  rw [fz_bind]
  congr 1
  funext x h1
  rw [fz_bind]
@[simp] theorem ap_mFz_B {fb : List D → IH → R D} : mFz (mB fb ta) env h = (ta env h).bind fun xs h1 => fzR h (fb xs h1) := by rw [ap_mFz0, ap_mB, fz_bind]
@[simp] theorem ap_mFz_call {n : Nat} {fm : MF} : mFz (mCall n fm ta) env h = (ta env h).bind fun ds h1 => fzR h (callC n fm ds h1) := by rw [ap_mFz0, ap_mCall, fz_bind]
@[simp] theorem ap_msRaise {x : Str} : msRaise x env h = .ex x none env h := rfl
@[simp] theorem ap_msFz_fl {i : Nat} {xs : List D} {b : MS} (e : env[i]? = some (some (.fl xs))) : msFz i b env h = b env h := by unfold msFz; rw [e]
theorem ap_msFz {i n : Nat} {xs : List D} {b : MS} (e : env[i]? = some (some (.ref n))) (e2 : h[n]? = some (.lst xs)) : msFz i b env h = b (env.set i (some (.fl xs))) (h.set n (.frz xs)) := by unfold msFz; rw [e]; dsimp only; rw [e2]
theorem dAdd_fl {a b : List D} : dAdd (.fl a) (.fl b) h = if a.length + b.length ≤ 10000000 then newL h (a ++ b) else .no := rfl
theorem dAdd_tup {a b : List D} : dAdd (.tup a) (.tup b) h = if a.length + b.length ≤ 10000000 then .ok (.tup (a ++ b)) h else .no := rfl
theorem sliceD_fl {l : List D} {lo hi : Option Int} : sliceD (.fl l) lo hi h = newL h (cutD l lo hi) := rfl
theorem bListX_str {s : List Nat} : bListX [.str s] h = if s.length ≤ 10000000 then newL h (sgD s) else .no := rfl
theorem bListX_fl {s : List D} : bListX [.fl s] h = newL h s := rfl
theorem bListX_tup {s : List D} : bListX [.tup s] h = newL h s := rfl
@[simp] theorem bTupleX_fl {s : List D} : bTupleX [.fl s] h = .ok (.tup s) h := rfl
@[simp] theorem bTupleX_tup {s : List D} : bTupleX [.tup s] h = .ok (.tup s) h := rfl
@[simp] theorem bLen_fl {l : List D} : bLen [.fl l] h = .ok (.int (l.length : Nat)) h := rfl
@[simp] theorem bSum_fl {ns : List Int} : bSum [.fl (ns.map D.int)] h = .ok (.int ns.sum) h := by
  show (match (some (ns.map D.int)).bind (allM D.int?) with | some ns => R.ok (D.int ns.sum) h | none => .no) = _
  simp
@[simp] theorem bAll_fl {ns : List Bool} : bAll [.fl (ns.map D.bl)] h = .ok (.bl (ns.all id)) h := by
  show (match (some (ns.map D.bl)).bind (allM D.bl?) with | some bs => R.ok (D.bl (bs.all id)) h | none => .no) = _
  simp
@[simp] theorem bAny_fl {ns : List Bool} : bAny [.fl (ns.map D.bl)] h = .ok (.bl (ns.any id)) h := by
  show (match (some (ns.map D.bl)).bind (allM D.bl?) with | some bs => R.ok (D.bl (bs.any id)) h | none => .no) = _
  simp
theorem bSorted_fl {ns : List Int} : bSorted [.fl (ns.map D.int)] h = newL h ((isrt ns).map D.int) := by
  show (match (some (ns.map D.int)).bind (allM D.int?) with | some ns => R.ok (D.ref h.length) (h ++ [Cell.lst ((isrt ns).map D.int)]) | none => .no) = _
  simp [newL]
@[simp] theorem isT_fl {T : String} {b : List D} : isT T h (.fl b) = kitB "list" T := rfl
@[simp] theorem isT_fd {T : String} {ks : List DKey} {b : List D} : isT T h (.fd ks b) = kitB "dict" T := rfl
@[simp] theorem tyD_str {T : String} {s : List Nat} : tyD T h (.str s) = (T == "str") := rfl
@[simp] theorem tyD_fl {T : String} {s : List D} : tyD T h (.fl s) = (T == "list") := rfl
@[simp] theorem loL_nil {n : Nat} : D.loL n [] = true := rfl
@[simp] theorem loL_cons {n : Nat} {d : D} {ds : List D} : D.loL n (d :: ds) = (D.lo n d && D.loL n ds) := rfl
@[simp] theorem lo_int {n : Nat} {i : Int} : D.lo n (.int i) = true := rfl
@[simp] theorem lo_bl {n : Nat} {i : Bool} : D.lo n (.bl i) = true := rfl
@[simp] theorem lo_non {n : Nat} : D.lo n .non = true := rfl
@[simp] theorem lo_str {n : Nat} {i : List Nat} : D.lo n (.str i) = true := rfl
@[simp] theorem lo_tup {n : Nat} {i : List D} : D.lo n (.tup i) = D.loL n i := rfl
@[simp] theorem lo_fl {n : Nat} {i : List D} : D.lo n (.fl i) = D.loL n i := rfl
@[simp] theorem lo_fd {n : Nat} {ks : List DKey} {i : List D} : D.lo n (.fd ks i) = D.loL n i := rfl
@[simp] theorem lo_ref {n i : Nat} : D.lo n (.ref i) = decide (i < n) := rfl
@[simp] theorem clo_lst {n : Nat} {i : List D} : Cell.lo n (.lst i) = D.loL n i := rfl
theorem loL_of {n : Nat} : ∀ {ds : List D}, (∀ d ∈ ds, D.lo n d = true) → D.loL n ds = true
  | [], _ => rfl
  | d :: ds, h => by simp [h d List.mem_cons_self, loL_of fun x hx => h x (List.mem_cons_of_mem _ hx)]
theorem loL_mem {n : Nat} : ∀ {ds : List D}, D.loL n ds = true → ∀ d ∈ ds, D.lo n d = true
  | d :: ds, h, x, hx => by
    simp at h
    rcases List.mem_cons.mp hx with rfl | hx
    · exact h.1
    · exact loL_mem h.2 x hx
@[simp] theorem loL_map {T : Type} {n : Nat} {f : T → D} {l : List T} : D.loL n (l.map f) = l.all fun x => D.lo n (f x) := by
  induction l with
  | nil => rfl
  | cons x l ih => simp [ih]
@[simp] theorem loL_app {n : Nat} {a b : List D} : D.loL n (a ++ b) = (D.loL n a && D.loL n b) := by
  induction a with
  | nil => simp
  | cons x l ih => simp [ih, Bool.and_assoc]
/-! numbers from nought -/
def nD (x : Nat) : D := .int (x : Nat)
theorem nD_eq (x : Nat) : nD x = .int (x : Nat) := rfl
@[simp] theorem lo_nD {n x : Nat} : D.lo n (nD x) = true := rfl
theorem nD_inj {a b : Nat} : nD a = nD b ↔ a = b := ⟨fun z => by injection z with z; omega, fun z => by rw [z]⟩
theorem nD_map (l : List Nat) : l.map nD = (l.map fun (x : Nat) => (x : Int)).map D.int := by rw [List.map_map]; rfl
theorem nats_of {m : Nat} : ∀ {ys : List D}, (∀ y ∈ ys, ∃ x, y = nD x ∧ x < m) → ∃ row : List Nat, ys = row.map nD ∧ ∀ x ∈ row, x < m
  | [], _ => ⟨[], rfl, by simp⟩
  | y :: ys, hp => by
    obtain ⟨x, rfl, hx⟩ := hp y List.mem_cons_self
    obtain ⟨row, rfl, hr⟩ := nats_of fun z hz => hp z (List.mem_cons_of_mem _ hz)
    exact ⟨x :: row, rfl, by simpa using ⟨hx, hr⟩⟩
theorem append_at {n : Nat} {xs : List D} {y : D} (e : h[n]? = some (.lst xs)) (l : xs.length < 10000000) : fAppend (.ref n) [y] h = .ok .non (h.set n (.lst (xs ++ [y]))) := by
  unfold fAppend
  dsimp only
  rw [e]
  dsimp only
  rw [if_pos l]
theorem tyD_ref {n : Nat} {xs : List D} (e : h[n]? = some (.lst xs)) : tyD "list" h (.ref n) = true := by
  unfold tyD
  dsimp only
  rw [e]
  rfl
theorem lstOf_ref {n : Nat} {xs : List D} (e : h[n]? = some (.lst xs)) : lstOf h (.ref n) = some xs := by
  unfold lstOf
  dsimp only
  rw [e]
theorem seqOf_ref {n : Nat} {xs : List D} (e : h[n]? = some (.lst xs)) : seqOf h (.ref n) = some xs := by
  unfold seqOf
  dsimp only
  rw [e]
@[simp] theorem seqOf_fl {l : List D} : seqOf h (.fl l) = some l := rfl
@[simp] theorem seqOf_tup {l : List D} : seqOf h (.tup l) = some l := rfl
@[simp] theorem lstOf_fl {l : List D} : lstOf h (.fl l) = some l := rfl
theorem allM_pyInts {k : Nat} (ns : List Int) : allM (D.py h (k + 1)) (ns.map D.int) = some (ns.map PyData.int) := by
  induction ns with
  | nil => rfl
  | cons z zs ih =>
    rw [List.map_cons, List.map_cons]
    unfold allM
    rw [ih]
    rfl
theorem dIn_ints {neg : Bool} {a : Int} {y : D} {ns : List Int} (e : seqOf h y = some (ns.map D.int)) : dIn neg (.int a) y h = .ok (.bl (if neg then !decide (a ∈ ns) else decide (a ∈ ns))) h := by
  have ea : (ns.map PyData.int).any (fun z => PyData.eqv z (.int a)) = decide (a ∈ ns) := by
    clear e
    induction ns with
    | nil => rfl
    | cons n ns ih =>
      have hb : (n == a) = decide (a = n) := by
        by_cases hz : a = n
        · subst hz; simp
        · rw [decide_eq_false hz]; exact beq_eq_false_iff_ne.mpr fun z => hz z.symm
      simp only [List.map_cons, List.any_cons, ih, PyData.eqv, List.mem_cons, Bool.decide_or, hb]
  unfold dIn
  split
  · rename_i h1 h2; cases h2
  · rw [show D.py h 50 (.int a) = some (.int a) from rfl, e]
    show (match some (PyData.int a), allM (D.py h (48 + 1)) (ns.map D.int) with | some a, some bs => R.ok (D.bl _) h | _, _ => .no) = _
    rw [allM_pyInts]
    dsimp only
    rw [ea]
theorem dIn_nats {neg : Bool} {a : Nat} {y : D} {ns : List Nat} (e : seqOf h y = some (ns.map nD)) : dIn neg (.int (a : Nat)) y h = .ok (.bl (if neg then !decide (a ∈ ns) else decide (a ∈ ns))) h := by
  rw [dIn_ints (ns := ns.map fun (x : Nat) => (x : Int)) (by rw [e, nD_map])]
  have : decide (((a : Nat) : Int) ∈ ns.map fun (x : Nat) => (x : Int)) = decide (a ∈ ns) := by
    refine decide_eq_decide.mpr ⟨fun hm => ?_, fun hm => List.mem_map.mpr ⟨a, hm, rfl⟩⟩
    obtain ⟨x, hx, e2⟩ := List.mem_map.mp hm
    have : x = a := by omega
    rw [← this]
    exact hx
  rw [this]
theorem dIx_nat {o : D} {xs : List D} {n : Nat} {d : D} (hs : seqOf h o = some xs) (e : xs[n]? = some d) : dIx o (.int (n : Nat)) h = .ok d h := dIx_seq hs (by omega) (by simpa using e)
theorem idxOf_cast (ns : List Nat) (y : Nat) : (ns.map fun (x : Nat) => (x : Int)).idxOf (y : Int) = ns.idxOf y := by
  induction ns with
  | nil => rfl
  | cons n ns ih =>
    rw [List.map_cons, List.idxOf_cons, List.idxOf_cons, ih]
    have : (((n : Nat) : Int) == (y : Int)) = (n == y) := by
      rw [Bool.eq_iff_iff, beq_iff_eq, beq_iff_eq]
      omega
    rw [this]
theorem fIndexL_nats {ns : List Nat} {y : Nat} (hy : y ∈ ns) : fIndexL (.fl (ns.map nD)) [.int (y : Nat)] h = .ok (nD (ns.idxOf y)) h := by
  unfold fIndexL
  dsimp only
  have e : (lstOf h (.fl (ns.map nD))).bind (allM D.int?) = some (ns.map fun (x : Nat) => (x : Int)) := by
    rw [nD_map]
    exact allM_mkInts _
  rw [e]
  dsimp only
  rw [if_pos (List.mem_map.mpr ⟨y, hy, rfl⟩), idxOf_cast]
  rfl
theorem iRange1_of {j : Int} {k : Nat} (e : ta env h = .ok [.int j] h') (hj : j = (k : Nat)) (l : k ≤ 10000000) : iRange1 ta env h = .ok (.st (intsFrom 0 k)) h' := by
  subst hj
  rw [ap_iRange1, e]
  rw [bind_ok]
  dsimp only
  rw [if_pos ⟨by omega, by omega⟩, Int.toNat_natCast]
theorem iRange2_of {i j : Int} {k : Nat} (e : ta env h = .ok [.int i, .int j] h') (hj : j = i + (k : Nat)) (l0 : -10000000 ≤ i) (l : j ≤ 10000000) : iRange2 ta env h = .ok (.st (intsFrom i k)) h' := by
  subst hj
  rw [ap_iRange2, e]
  rw [bind_ok]
  dsimp only
  rw [if_pos ⟨by omega, by omega, by omega, by omega⟩, show (i + (k : Nat) - i).toNat = k by omega]
/-! what a loop's turn leaves -/
def Nx (P : EV → IH → Prop) (Rs : RS → Prop) : RS → Prop
  | .nx e h => P e h
  | .ct e h => P e h
  | .bk e h => Rs (.nx e h)
  | .rt d h => Rs (.rt d h)
  | .ex c d e h => Rs (.ex c d e h)
  | .no => Rs .no
section
variable {P : EV → IH → Prop} {Rs : RS → Prop}
@[simp] theorem Nx_nx : Nx P Rs (.nx env h) = P env h := rfl
@[simp] theorem Nx_ct : Nx P Rs (.ct env h) = P env h := rfl
@[simp] theorem Nx_bk : Nx P Rs (.bk env h) = Rs (.nx env h) := rfl
@[simp] theorem Nx_rt : Nx P Rs (.rt d h) = Rs (.rt d h) := rfl
@[simp] theorem Nx_ex {c : Str} {x : XF} : Nx P Rs (.ex c x env h) = Rs (.ex c x env h) := rfl
end
/-- a for over what stands still, by an invariant -/
theorem for_inv {ds : List D} {gg : MG} (P : Nat → EV → IH → Prop) (Rs : RS → Prop) (h0 : P 0 env h)
    (step : ∀ i d env h, ds[i]? = some d → P i env h → ∃ e1, gg d env = some e1 ∧ Nx (P (i + 1)) Rs (s e1 h)) (fin : ∀ env h, P ds.length env h → Rs (.nx env h)) : Rs (forM (.st ds) gg s ((Src.st ds).many h' + 1) 0 env h) := by
  refine forM_inv (h := h) P Rs (fun i d env h hd hp => ?_) fin h0
  obtain ⟨e1, g1, st⟩ := step i d env h hd hp
  refine ⟨e1, g1, ?_⟩
  revert st
  cases s e1 h <;> exact fun z => z
/-- a for that runs to its end -/
theorem for_nx {ds : List D} {gg : MG} (P : Nat → EV → IH → Prop) (h0 : P 0 env h)
    (step : ∀ i d env h, ds[i]? = some d → P i env h → ∃ e1 e2 h2, gg d env = some e1 ∧ s e1 h = .nx e2 h2 ∧ P (i + 1) e2 h2) : ∃ e2 h2, forM (.st ds) gg s ((Src.st ds).many h + 1) 0 env h = .nx e2 h2 ∧ P ds.length e2 h2 :=
  for_inv P (fun r => ∃ e2 h2, r = .nx e2 h2 ∧ P ds.length e2 h2) h0 (fun i d env h hd hp => by
    obtain ⟨e1, e2, h2, g1, g2, g3⟩ := step i d env h hd hp
    exact ⟨e1, g1, by rw [g2]; exact g3⟩) fun env h hp => ⟨env, h, rfl, hp⟩
/-- a for that runs to its end, or returns -/
theorem for_rt {ds : List D} {gg : MG} (P : Nat → EV → IH → Prop) (Q : D → IH → Prop) (h0 : P 0 env h)
    (step : ∀ i d env h, ds[i]? = some d → P i env h → ∃ e1, gg d env = some e1 ∧ ((∃ e2 h2, s e1 h = .nx e2 h2 ∧ P (i + 1) e2 h2) ∨ ∃ x h2, s e1 h = .rt x h2 ∧ Q x h2)) :
    (∃ e2 h2, forM (.st ds) gg s ((Src.st ds).many h + 1) 0 env h = .nx e2 h2 ∧ P ds.length e2 h2) ∨ ∃ x h2, forM (.st ds) gg s ((Src.st ds).many h + 1) 0 env h = .rt x h2 ∧ Q x h2 :=
  for_inv P (fun r => (∃ e2 h2, r = .nx e2 h2 ∧ P ds.length e2 h2) ∨ ∃ x h2, r = .rt x h2 ∧ Q x h2) h0 (fun i d env h hd hp => by
    obtain ⟨e1, g1, ⟨e2, h2, g2, g3⟩ | ⟨x, h2, g2, g3⟩⟩ := step i d env h hd hp
    · exact ⟨e1, g1, by rw [g2]; exact g3⟩
    · exact ⟨e1, g1, by rw [g2]; exact .inr ⟨x, h2, rfl, g3⟩⟩) fun env h hp => .inl ⟨env, h, rfl, hp⟩
theorem while_nx {c : MT} (P : Nat → EV → IH → Prop) (m : Nat) (env : EV) (h : IH) (h0 : P m env h)
    (step : ∀ m env h, P m env h → (∃ e2 h2, c env h = .ok true h ∧ s env h = .nx e2 h2 ∧ ∃ m', m' < m ∧ P m' e2 h2) ∨ c env h = .ok false h) : ∃ m e2 h2, msWhile c s env h = .nx e2 h2 ∧ P m e2 h2 ∧ c e2 h2 = .ok false h2 := by
  refine msWhile_inv P (fun r => ∃ m e2 h2, r = .nx e2 h2 ∧ P m e2 h2 ∧ c e2 h2 = .ok false h2) (fun m env h p => ?_) m env h h0
  rcases step m env h p with ⟨e2, h2, g1, g2, g3⟩ | g1
  · rw [g1]; dsimp only; rw [g2]
    exact g3
  · rw [g1]
    exact ⟨m, env, h, rfl, p, g1⟩
theorem while_inv {c : MT} (P : Nat → EV → IH → Prop) (Rs : RS → Prop) (m : Nat) (env : EV) (h : IH) (h0 : P m env h)
    (step : ∀ m env h, P m env h → ∃ b, c env h = .ok b h ∧ (if b = true then Nx (fun e2 h2 => ∃ m', m' < m ∧ P m' e2 h2) Rs (s env h) else Rs (.nx env h))) : Rs (msWhile c s env h) := by
  refine msWhile_inv P Rs (fun m env h p => ?_) m env h h0
  obtain ⟨b, e, st⟩ := step m env h p
  rw [e]
  cases b with
  | false => simpa using st
  | true =>
    simp only [if_true] at st
    dsimp only
    revert st
    cases s env h <;> exact fun z => z
/-- a comprehension that is locked at once: of what is reckoned of each -/
theorem lcF_map {it : MI} {gg : MG} {ws : List Nat} {ds : List D} (F : D → D) (hi : it env h = .ok (.st ds) h) (hl : ds.length ≤ 9000000) (lo : ∀ d ∈ ds, D.lo h.length (F d) = true)
    (step : ∀ d ∈ ds, ∃ e1, gg d (wipeE env ws) = some e1 ∧ ∀ x, m e1 (h ++ [x]) = .ok (F d) (h ++ [x])) : mFz (mLc it gg mYes m ws) env h = .ok (.fl (ds.map F)) h := by
  rw [ap_mFz0, ap_mLc, hi]
  show fzR h (lcM _ _ _ _ _ _ _ _ _) = _
  rw [lcM_map F hl step, fzR_at get_last (Nat.le_refl _) (loL_of fun x hx => by obtain ⟨d, hd, rfl⟩ := List.mem_map.mp hx; exact lo d hd) okB_self]
  simp
theorem lcF_filter {it : MI} {gg : MG} {ws : List Nat} {ds : List D} (F : D → D) (p : D → Bool) (hi : it env h = .ok (.st ds) h) (hl : ds.length ≤ 9000000) (lo : ∀ d ∈ ds, p d = true → D.lo h.length (F d) = true)
    (step : ∀ d ∈ ds, ∃ e1, gg d (wipeE env ws) = some e1 ∧ (∀ x, t e1 (h ++ [x]) = .ok (p d) (h ++ [x])) ∧ ∀ x, p d = true → m e1 (h ++ [x]) = .ok (F d) (h ++ [x])) : mFz (mLc it gg t m ws) env h = .ok (.fl ((ds.filter p).map F)) h := by
  rw [ap_mFz0, ap_mLc, hi]
  show fzR h (lcM _ _ _ _ _ _ _ _ _) = _
  rw [lcM_filter F p hl step, fzR_at get_last (Nat.le_refl _) (loL_of fun x hx => by
    obtain ⟨d, hd, rfl⟩ := List.mem_map.mp hx
    exact lo d (List.mem_filter.mp hd).1 (List.mem_filter.mp hd).2) okB_self]
  simp
/-- .. whose steps draw: Pn b c says that the pen's cell c can draw b times -/
theorem lcF_pen {it : MI} {gg : MG} {ws : List Nat} {ds : List D} {z c0 : Cell} {g : IH} {Pn : Nat → Cell → Prop} {b K : Nat} (lop : ∀ b c k, Pn b c → Cell.lo k c = true) (Po : Nat → D → Prop) (hi : it env (z :: c0 :: g) = .ok (.st ds) (z :: c0 :: g)) (hl : ds.length ≤ 9000000)
    (hp : Pn (b + K * ds.length) c0) (lo : ∀ i y k, Po i y → D.lo k y = true)
    (step : ∀ i d, ds[i]? = some d → ∃ e1, gg d (wipeE env ws) = some e1 ∧ ∀ b c g, Pn (b + K) c → ∃ y c', m e1 (z :: c :: g) = .ok y (z :: c' :: g) ∧ Pn b c' ∧ Po i y) :
    ∃ ys c', mFz (mLc it gg mYes m ws) env (z :: c0 :: g) = .ok (.fl ys) (z :: c' :: g) ∧ ys.length = ds.length ∧ (∀ i y, ys[i]? = some y → Po i y) ∧ Pn b c' := by
  have main : ∃ ys c', lcM (.st ds) gg mYes m (z :: c0 :: g).length ((Src.st ds).many (z :: c0 :: g) + 1) 0 (wipeE env ws) ((z :: c0 :: g) ++ [Cell.lst []]) = .ok (.ref (z :: c0 :: g).length) (z :: c' :: (g ++ [Cell.lst ys])) ∧ ys.length = ds.length ∧ (∀ i y, ys[i]? = some y → Po i y) ∧ Pn b c' := by
    refine lcM_inv (P := fun i h' => ∃ ys c', h' = z :: c' :: (g ++ [Cell.lst ys]) ∧ ys.length = i ∧ (∀ j y, ys[j]? = some y → Po j y) ∧ Pn (b + K * (ds.length - i)) c') (Rs := fun r => ∃ ys c', r = .ok (.ref (z :: c0 :: g).length) (z :: c' :: (g ++ [Cell.lst ys])) ∧ ys.length = ds.length ∧ (∀ i y, ys[i]? = some y → Po i y) ∧ Pn b c') ?_ ?_ ?_
    · rintro i d h' hd ⟨ys, c', rfl, l1, p1, n1⟩
      have hi' := (List.getElem?_eq_some_iff.mp hd).1
      obtain ⟨e1, g1, st⟩ := step i d hd
      have e0 : ds.length - i = (ds.length - (i + 1)) + 1 := by omega
      rw [e0, Nat.mul_succ, ← Nat.add_assoc] at n1
      obtain ⟨y, c2, e2, n2, p2⟩ := st _ c' (g ++ [Cell.lst ys]) n1
      refine ⟨e1, g1, ?_⟩
      show ∃ y h3 acc, m e1 _ = .ok y h3 ∧ _
      refine ⟨y, _, ys, e2, by simp, by omega, ys ++ [y], c2, by simp, by simp [l1], fun j z hz => ?_, n2⟩
      by_cases hj : j < ys.length
      · rw [List.getElem?_append_left hj] at hz
        exact p1 j z hz
      · have hj2 : j = ys.length := by
          have := (List.getElem?_eq_some_iff.mp hz).1
          simp at this
          omega
        subst hj2
        rw [List.getElem?_append_right (Nat.le_refl _), Nat.sub_self] at hz
        simp at hz
        subst hz
        rw [l1]
        exact p2
    · rintro h' ⟨ys, c', rfl, l1, p1, n1⟩
      rw [Nat.sub_self, Nat.mul_zero, Nat.add_zero] at n1
      exact ⟨ys, c', rfl, l1, p1, n1⟩
    · exact ⟨[], c0, by simp, rfl, by simp, by simpa using hp⟩
  obtain ⟨ys, c', e, l1, p1, n1⟩ := main
  refine ⟨ys, c', ?_, l1, p1, n1⟩
  rw [ap_mFz0, ap_mLc, hi]
  show fzR _ (lcM _ _ _ _ _ _ _ _ _) = _
  rw [e, fzR_at (xs := ys) (by simp) (Nat.le_refl _) (loL_of fun x hx => by
    obtain ⟨j, hj⟩ := List.mem_iff_getElem?.mp hx
    exact lo j x _ (p1 j x hj)) (by simp [lop b c' _ n1])]
  simp
/-! with the lengths as premises: for simp (disch := ..) -/
theorem dAdd_str {a b : List Nat} (l : a.length + b.length ≤ 10000000) : dAdd (.str a) (.str b) h = .ok (.str (a ++ b)) h := by rw [dAdd_str_if, if_pos l]
theorem dIAdd_str {a b : List Nat} (l : a.length + b.length ≤ 10000000) : dIAdd (.str a) (.str b) h = .ok (.str (a ++ b)) h := by rw [dIAdd_str_if, if_pos l]
theorem bLen_str {s : List Nat} (l : s.length ≤ 10000000) : bLen [.str s] h = .ok (.int (s.length : Nat)) h := by rw [bLen_str_if, if_pos l]
theorem sliceD_str {s : List Nat} {lo hi : Option Int} (l : s.length ≤ 10000000) : sliceD (.str s) lo hi h = .ok (.str (cutN s lo hi)) h := by rw [sliceD_str_if, if_pos l]
theorem iSeq_str {env : EV} {m : ME} {s : List Nat} (e : m env h = .ok (.str s) h') (l : s.length ≤ 10000000) : iSeq m env h = .ok (.st (s.map fun c => .str [c])) h' := by
  rw [ap_iSeq, e]
  rw [bind_ok]
  dsimp only
  rw [if_pos l]
end
theorem get_app {h l : IH} {k : Nat} : (h ++ l)[h.length + k]? = l[k]? := by
  rw [List.getElem?_append_right (by omega)]
  congr 1
  omega
theorem get_app0 {h l : IH} : (h ++ l)[h.length]? = l[0]? := by
  rw [List.getElem?_append_right (by omega)]
  congr 1
  omega
theorem set_app {h l : IH} {k : Nat} {c : Cell} : (h ++ l).set (h.length + k) c = h ++ l.set k c := by
  rw [List.set_append, if_neg (by omega)]
  congr 2
  omega
theorem set_app0 {h l : IH} {c : Cell} : (h ++ l).set h.length c = h ++ l.set 0 c := by
  rw [List.set_append, if_neg (by omega)]
  congr 2
  omega
theorem get_old {h l : IH} {j : Nat} {c : Cell} (e : h[j]? = some c) : (h ++ l)[j]? = some c := by
  rw [List.getElem?_append_left (List.getElem?_eq_some_iff.mp e).1]
  exact e
@[simp] theorem dIs_bl {neg : Bool} {a b : Bool} {h : IH} : dIsN neg (.bl a) (.bl b) h = .ok (.bl (if neg then !decide (a = b) else decide (a = b))) h := rfl
@[simp] theorem dIs_non {neg : Bool} {h : IH} : dIsN neg .non .non h = .ok (.bl (!neg)) h := rfl
@[simp] theorem isT_non {T : String} {h : IH} : isT T h .non = kitB "NoneType" T := rfl
@[simp] theorem isT_bl {T : String} {b : Bool} {h : IH} : isT T h (.bl b) = kitB "bool" T := rfl
@[simp] theorem isT_int {T : String} {b : Int} {h : IH} : isT T h (.int b) = kitB "int" T := rfl
@[simp] theorem isT_str {T : String} {b : List Nat} {h : IH} : isT T h (.str b) = kitB "str" T := rfl
@[simp] theorem isT_tup {T : String} {b : List D} {h : IH} : isT T h (.tup b) = kitB "tuple" T := rfl
theorem isT_lst {T : String} {n : Nat} {xs : List D} {h : IH} (e : h[n]? = some (.lst xs)) : isT T h (.ref n) = kitB "list" T := by
  unfold isT
  dsimp only
  rw [e]
theorem isT_dk {T : String} {n : Nat} {xs : List (DKey × D)} {h : IH} (e : h[n]? = some (.dk xs)) : isT T h (.ref n) = kitB "dict" T := by
  unfold isT
  dsimp only
  rw [e]
@[simp] theorem kit_NoneType_bool : kitB "NoneType" "bool" = some false := by decide +kernel
@[simp] theorem kit_NoneType_int : kitB "NoneType" "int" = some false := by decide +kernel
@[simp] theorem kit_NoneType_str : kitB "NoneType" "str" = some false := by decide +kernel
@[simp] theorem kit_NoneType_tuple : kitB "NoneType" "tuple" = some false := by decide +kernel
@[simp] theorem kit_NoneType_list : kitB "NoneType" "list" = some false := by decide +kernel
@[simp] theorem kit_NoneType_dict : kitB "NoneType" "dict" = some false := by decide +kernel
@[simp] theorem kit_bool_bool : kitB "bool" "bool" = some true := by decide +kernel
@[simp] theorem kit_bool_int : kitB "bool" "int" = some true := by decide +kernel
@[simp] theorem kit_bool_str : kitB "bool" "str" = some false := by decide +kernel
@[simp] theorem kit_bool_tuple : kitB "bool" "tuple" = some false := by decide +kernel
@[simp] theorem kit_bool_list : kitB "bool" "list" = some false := by decide +kernel
@[simp] theorem kit_bool_dict : kitB "bool" "dict" = some false := by decide +kernel
@[simp] theorem kit_int_bool : kitB "int" "bool" = some false := by decide +kernel
@[simp] theorem kit_int_int : kitB "int" "int" = some true := by decide +kernel
@[simp] theorem kit_int_str : kitB "int" "str" = some false := by decide +kernel
@[simp] theorem kit_int_tuple : kitB "int" "tuple" = some false := by decide +kernel
@[simp] theorem kit_int_list : kitB "int" "list" = some false := by decide +kernel
@[simp] theorem kit_int_dict : kitB "int" "dict" = some false := by decide +kernel
@[simp] theorem kit_str_bool : kitB "str" "bool" = some false := by decide +kernel
@[simp] theorem kit_str_int : kitB "str" "int" = some false := by decide +kernel
@[simp] theorem kit_str_str : kitB "str" "str" = some true := by decide +kernel
@[simp] theorem kit_str_tuple : kitB "str" "tuple" = some false := by decide +kernel
@[simp] theorem kit_str_list : kitB "str" "list" = some false := by decide +kernel
@[simp] theorem kit_str_dict : kitB "str" "dict" = some false := by decide +kernel
@[simp] theorem kit_tuple_bool : kitB "tuple" "bool" = some false := by decide +kernel
@[simp] theorem kit_tuple_int : kitB "tuple" "int" = some false := by decide +kernel
@[simp] theorem kit_tuple_str : kitB "tuple" "str" = some false := by decide +kernel
@[simp] theorem kit_tuple_tuple : kitB "tuple" "tuple" = some true := by decide +kernel
@[simp] theorem kit_tuple_list : kitB "tuple" "list" = some false := by decide +kernel
@[simp] theorem kit_tuple_dict : kitB "tuple" "dict" = some false := by decide +kernel
@[simp] theorem kit_list_bool : kitB "list" "bool" = some false := by decide +kernel
@[simp] theorem kit_list_int : kitB "list" "int" = some false := by decide +kernel
@[simp] theorem kit_list_str : kitB "list" "str" = some false := by decide +kernel
@[simp] theorem kit_list_tuple : kitB "list" "tuple" = some false := by decide +kernel
@[simp] theorem kit_list_list : kitB "list" "list" = some true := by decide +kernel
@[simp] theorem kit_list_dict : kitB "list" "dict" = some false := by decide +kernel
@[simp] theorem kit_dict_bool : kitB "dict" "bool" = some false := by decide +kernel
@[simp] theorem kit_dict_int : kitB "dict" "int" = some false := by decide +kernel
@[simp] theorem kit_dict_str : kitB "dict" "str" = some false := by decide +kernel
@[simp] theorem kit_dict_tuple : kitB "dict" "tuple" = some false := by decide +kernel
@[simp] theorem kit_dict_list : kitB "dict" "list" = some false := by decide +kernel
@[simp] theorem kit_dict_dict : kitB "dict" "dict" = some true := by decide +kernel
/-! == of data without truths -/
def D.nb : Nat → D → Bool
  | 0, _ => false
  | k + 1, d => match d with
    | .non => true
    | .int _ => true
    | .str _ => true
    | .tup l => l.all (D.nb k)
    | .fl l => l.all (D.nb k)
    | _ => false
theorem nb_py {h : IH} : ∀ {k : Nat} {d : D}, d.nb k = true → ∃ p, D.py h k d = some p := by
  intro k
  induction k with
  | zero => intro d e; simp [D.nb] at e
  | succ k ih =>
    have all : ∀ l : List D, l.all (D.nb k) = true → ∃ ps, allM (D.py h k) l = some ps := by
      intro l
      induction l with
      | nil => exact fun _ => ⟨[], rfl⟩
      | cons d l il =>
        intro e
        simp only [List.all_cons, Bool.and_eq_true] at e
        obtain ⟨p, hp⟩ := ih e.1
        obtain ⟨ps, hps⟩ := il e.2
        exact ⟨p :: ps, by unfold allM; rw [hp, hps]⟩
    intro d e
    cases d with
    | non => exact ⟨_, rfl⟩
    | int i => exact ⟨_, rfl⟩
    | str s => exact ⟨_, rfl⟩
    | tup l =>
      obtain ⟨ps, hps⟩ := all l (by simpa [D.nb] using e)
      exact ⟨.tuple ps, by simp [D.py, hps]⟩
    | fl l =>
      obtain ⟨ps, hps⟩ := all l (by simpa [D.nb] using e)
      exact ⟨.list ps, by simp [D.py, hps]⟩
    | _ => simp [D.nb] at e
theorem nb_eqv {h : IH} : ∀ {k : Nat} {x y : D} {p q : PyData}, x.nb k = true → y.nb k = true → D.py h k x = some p → D.py h k y = some q → (PyData.eqv p q = true ↔ x = y) := by
  intro k
  induction k with
  | zero => intro x y p q e; simp [D.nb] at e
  | succ k ih =>
    have all : ∀ (l m : List D) (ps qs : List PyData), l.all (D.nb k) = true → m.all (D.nb k) = true → allM (D.py h k) l = some ps → allM (D.py h k) m = some qs → (PyData.eqvAll ps qs = true ↔ l = m) := by
      intro l
      induction l with
      | nil =>
        intro m ps qs _ _ e1 e2
        simp only [allM, Option.some.injEq] at e1
        subst e1
        cases m with
        | nil => simp only [allM, Option.some.injEq] at e2; subst e2; simp [PyData.eqvAll]
        | cons d m => obtain ⟨a, as, _, _, rfl⟩ := allM_cons e2; simp [PyData.eqvAll]
      | cons d l il =>
        intro m ps qs a1 a2 e1 e2
        obtain ⟨p, ps', b1, b2, rfl⟩ := allM_cons e1
        simp only [List.all_cons, Bool.and_eq_true] at a1
        cases m with
        | nil => simp only [allM, Option.some.injEq] at e2; subst e2; simp [PyData.eqvAll]
        | cons d' m =>
          obtain ⟨q, qs', c1, c2, rfl⟩ := allM_cons e2
          simp only [List.all_cons, Bool.and_eq_true] at a2
          simp [PyData.eqvAll, ih a1.1 a2.1 b1 c1, il m ps' qs' a1.2 a2.2 b2 c2]
    intro x y p q nx ny ex ey
    cases x with
    | non => cases y with
      | non => simp [D.py] at ex ey; subst ex ey; simp [PyData.eqv]
      | int j => simp [D.py] at ex ey; subst ex ey; simp [PyData.eqv]
      | str t => simp [D.py] at ex ey; subst ex ey; simp [PyData.eqv]
      | tup m => simp only [D.py, Option.map_eq_some_iff] at ex ey; obtain ⟨qs, _, rfl⟩ := ey; simp at ex; subst ex; simp [PyData.eqv]
      | fl m => simp only [D.py, Option.map_eq_some_iff] at ex ey; obtain ⟨qs, _, rfl⟩ := ey; simp at ex; subst ex; simp [PyData.eqv]
      | _ => simp [D.nb] at ny
    | int i => cases y with
      | non => simp [D.py] at ex ey; subst ex ey; simp [PyData.eqv]
      | int j => simp [D.py] at ex ey; subst ex ey; simp [PyData.eqv]
      | str t => simp [D.py] at ex ey; subst ex ey; simp [PyData.eqv]
      | tup m => simp only [D.py, Option.map_eq_some_iff] at ex ey; obtain ⟨qs, _, rfl⟩ := ey; simp at ex; subst ex; simp [PyData.eqv]
      | fl m => simp only [D.py, Option.map_eq_some_iff] at ex ey; obtain ⟨qs, _, rfl⟩ := ey; simp at ex; subst ex; simp [PyData.eqv]
      | _ => simp [D.nb] at ny
    | str s => cases y with
      | non => simp [D.py] at ex ey; subst ex ey; simp [PyData.eqv]
      | int j => simp [D.py] at ex ey; subst ex ey; simp [PyData.eqv]
      | str t =>
        simp [D.py] at ex ey; subst ex ey
        rw [show PyData.eqv (.str (strV s)) (.str (strV t)) = (strV s == strV t) by simp [PyData.eqv], strV_eq]
        simp
      | tup m => simp only [D.py, Option.map_eq_some_iff] at ex ey; obtain ⟨qs, _, rfl⟩ := ey; simp at ex; subst ex; simp [PyData.eqv]
      | fl m => simp only [D.py, Option.map_eq_some_iff] at ex ey; obtain ⟨qs, _, rfl⟩ := ey; simp at ex; subst ex; simp [PyData.eqv]
      | _ => simp [D.nb] at ny
    | tup l =>
      simp only [D.py, Option.map_eq_some_iff] at ex
      obtain ⟨ps, e1, rfl⟩ := ex
      cases y with
      | non => simp [D.py] at ey; subst ey; simp [PyData.eqv]
      | int j => simp [D.py] at ey; subst ey; simp [PyData.eqv]
      | str t => simp [D.py] at ey; subst ey; simp [PyData.eqv]
      | tup m =>
        simp only [D.py, Option.map_eq_some_iff] at ey; obtain ⟨qs, e2, rfl⟩ := ey
        have := all l m ps qs (by simpa [D.nb] using nx) (by simpa [D.nb] using ny) e1 e2
        simp [PyData.eqv, this]
      | fl m => simp only [D.py, Option.map_eq_some_iff] at ey; obtain ⟨qs, _, rfl⟩ := ey; simp [PyData.eqv]
      | _ => simp [D.nb] at ny
    | fl l =>
      simp only [D.py, Option.map_eq_some_iff] at ex
      obtain ⟨ps, e1, rfl⟩ := ex
      cases y with
      | non => simp [D.py] at ey; subst ey; simp [PyData.eqv]
      | int j => simp [D.py] at ey; subst ey; simp [PyData.eqv]
      | str t => simp [D.py] at ey; subst ey; simp [PyData.eqv]
      | fl m =>
        simp only [D.py, Option.map_eq_some_iff] at ey; obtain ⟨qs, e2, rfl⟩ := ey
        have := all l m ps qs (by simpa [D.nb] using nx) (by simpa [D.nb] using ny) e1 e2
        simp [PyData.eqv, this]
      | tup m => simp only [D.py, Option.map_eq_some_iff] at ey; obtain ⟨qs, _, rfl⟩ := ey; simp [PyData.eqv]
      | _ => simp [D.nb] at ny
    | _ => simp [D.nb] at nx
open Classical in
theorem dEq_nb {neg : Bool} {h : IH} {x y : D} (nx : x.nb 50 = true) (ny : y.nb 50 = true) : dEq neg x y h = .ok (.bl (if neg then !decide (x = y) else decide (x = y))) h := by
  obtain ⟨p, hp⟩ := nb_py (h := h) nx
  obtain ⟨q, hq⟩ := nb_py (h := h) ny
  unfold dEq
  rw [hp, hq]
  dsimp only
  have : PyData.eqv p q = decide (x = y) := by
    rw [Bool.eq_iff_iff, nb_eqv nx ny hp hq]
    simp
  rw [this]
/-- a comprehension that is locked at once: each item by what is known of it -/
theorem lcF_ex {env : EV} {h : IH} {m : ME} {it : MI} {gg : MG} {ws : List Nat} {ds : List D} (Po : Nat → D → Prop) (hi : it env h = .ok (.st ds) h) (hl : ds.length ≤ 9000000)
    (step : ∀ i d, ds[i]? = some d → ∃ e1 y, gg d (wipeE env ws) = some e1 ∧ (∀ x, m e1 (h ++ [x]) = .ok y (h ++ [x])) ∧ D.lo h.length y = true ∧ Po i y) : ∃ ys, mFz (mLc it gg mYes m ws) env h = .ok (.fl ys) h ∧ ys.length = ds.length ∧ ∀ i y, ys[i]? = some y → Po i y := by
  let F : D → D := fun d => match gg d (wipeE env ws) with
    | some e1 => match m e1 (h ++ [Cell.lst []]) with
      | .ok y _ => y
      | _ => .non
    | none => .non
  have eF : ∀ i d, ds[i]? = some d → ∃ e1, gg d (wipeE env ws) = some e1 ∧ (∀ x, m e1 (h ++ [x]) = .ok (F d) (h ++ [x])) ∧ D.lo h.length (F d) = true ∧ Po i (F d) := fun i d hd => by
    obtain ⟨e1, y, g1, g2, g3, g4⟩ := step i d hd
    have : F d = y := by
      show (match gg d (wipeE env ws) with
        | some e1 => match m e1 (h ++ [Cell.lst []]) with
          | .ok y _ => y
          | _ => D.non
        | none => D.non) = y
      rw [g1]
      dsimp only
      rw [g2]
    rw [this]
    exact ⟨e1, g1, g2, g3, g4⟩
  refine ⟨ds.map F, lcF_map F hi hl (fun d hd => ?_) (fun d hd => ?_), by simp, fun i y hy => ?_⟩
  · obtain ⟨i, hi⟩ := List.mem_iff_getElem?.mp hd
    obtain ⟨_, _, _, g3, _⟩ := eF i d hi
    exact g3
  · obtain ⟨i, hi⟩ := List.mem_iff_getElem?.mp hd
    obtain ⟨e1, g1, g2, _⟩ := eF i d hi
    exact ⟨e1, g1, g2⟩
  · rw [List.getElem?_map] at hy
    cases q : ds[i]? with
    | none => rw [q] at hy; cases hy
    | some d =>
      rw [q] at hy
      cases hy
      obtain ⟨_, _, _, _, g4⟩ := eF i d q
      exact g4
/-- items of a list, each by what is known of it -/
theorem list_of {A B : Type} {f : A → B} {Po : Nat → A → Prop} : ∀ {ys : List B}, (∀ i y, ys[i]? = some y → ∃ a, y = f a ∧ Po i a) → ∃ as : List A, ys = as.map f ∧ ∀ i a, as[i]? = some a → Po i a
  | [], _ => ⟨[], rfl, by simp⟩
  | y :: ys, h => by
    obtain ⟨a, rfl, pa⟩ := h 0 y rfl
    obtain ⟨as, rfl, ps⟩ := list_of (Po := fun i => Po (i + 1)) (ys := ys) fun i z hz => h (i + 1) z (by simpa using hz)
    exact ⟨a :: as, rfl, fun i b hb => by
      cases i with
      | zero => simp at hb; subst hb; exact pa
      | succ i => exact ps i b (by simpa using hb)⟩
/-- of a number's item -/
def natP (p : Nat → Bool) : D → Bool
  | .int k => p k.toNat
  | _ => false
def natF (f : Nat → D) : D → D
  | .int k => f k.toNat
  | d => d
@[simp] theorem natP_int {p : Nat → Bool} {x : Nat} : natP p (.int (x : Nat)) = p x := rfl
@[simp] theorem natF_int {f : Nat → D} {x : Nat} : natF f (.int (x : Nat)) = f x := rfl
@[simp] theorem natP_nD {p : Nat → Bool} {x : Nat} : natP p (nD x) = p x := rfl
@[simp] theorem natF_nD {f : Nat → D} {x : Nat} : natF f (nD x) = f x := rfl
theorem natP_filter (ss : List Nat) (p : Nat → Bool) : (ss.map nD).filter (natP p) = (ss.filter p).map nD := by
  rw [List.filter_map]
  rfl
theorem natF_map (ss : List Nat) (f : Nat → D) : (ss.map nD).map (natF f) = ss.map f := by
  rw [List.map_map]
  rfl
/-- of a sign's item -/
def sgP (p : Nat → Bool) : D → Bool
  | .str [k] => p k
  | _ => false
def sgF (f : Nat → D) : D → D
  | .str [k] => f k
  | d => d
@[simp] theorem sgP_str {p : Nat → Bool} {x : Nat} : sgP p (.str [x]) = p x := rfl
@[simp] theorem sgF_str {f : Nat → D} {x : Nat} : sgF f (.str [x]) = f x := rfl
theorem sgP_filter (ss : List Nat) (p : Nat → Bool) : (sgD ss).filter (sgP p) = sgD (ss.filter p) := by
  unfold sgD
  rw [List.filter_map]
  rfl
theorem sgF_map (ss : List Nat) (f : Nat → D) : (sgD ss).map (sgF f) = ss.map f := by
  unfold sgD
  rw [List.map_map]
  rfl
theorem intsFrom_nD (n : Nat) : intsFrom 0 n = (List.range n).map nD := by simp [intsFrom, nD]
end NR

set_option Elab.async false
set_option linter.all false
set_option maxRecDepth 100000
set_option maxHeartbeats 4000000
/-! What is equal: plain trees up to the truths' numbers. -/
namespace NR
open PySem PySem.Spec PyProof.Rows L2
mutual
def D.nm : D → D
  | .bl b => .int (if b then 1 else 0)
  | .tup l => .tup (D.nmL l)
  | .fl l => .fl (D.nmL l)
  | d => d
def D.nmL : List D → List D
  | [] => []
  | d :: l => D.nm d :: D.nmL l
end
theorem nmL_map : ∀ l : List D, D.nmL l = l.map D.nm
  | [] => rfl
  | d :: l => by simp [D.nmL, nmL_map l]
@[simp] theorem nm_non : D.nm .non = .non := rfl
@[simp] theorem nm_int {i : Int} : D.nm (.int i) = .int i := rfl
@[simp] theorem nm_str {i : List Nat} : D.nm (.str i) = .str i := rfl
@[simp] theorem nm_bl {b : Bool} : D.nm (.bl b) = .int (if b then 1 else 0) := rfl
@[simp] theorem nm_tup {l : List D} : D.nm (.tup l) = .tup (l.map D.nm) := by rw [← nmL_map]; rfl
@[simp] theorem nm_fl {l : List D} : D.nm (.fl l) = .fl (l.map D.nm) := by rw [← nmL_map]; rfl
/-- a plain tree -/
def D.pl : Nat → D → Bool
  | 0, _ => false
  | k + 1, d => match d with
    | .non => true
    | .bl _ => true
    | .int _ => true
    | .str _ => true
    | .tup l => l.all (D.pl k)
    | .fl l => l.all (D.pl k)
    | _ => false
theorem pl_mono : ∀ {k : Nat} {d : D}, d.pl k = true → d.pl (k + 1) = true := by
  intro k
  induction k with
  | zero => intro d e; simp [D.pl] at e
  | succ k ih =>
    intro d e
    cases d with
    | tup l =>
      simp only [D.pl, List.all_eq_true] at e ⊢
      exact fun x hx => ih (e x hx)
    | fl l =>
      simp only [D.pl, List.all_eq_true] at e ⊢
      exact fun x hx => ih (e x hx)
    | non => rfl
    | bl b => rfl
    | int i => rfl
    | str s => rfl
    | _ => simp [D.pl] at e
theorem pl_le {j k : Nat} (l : j ≤ k) {d : D} (h : d.pl j = true) : d.pl k = true := by
  induction l with
  | refl => exact h
  | step _ ih => exact pl_mono ih
theorem allM_all {A : Type} {f : D → Option A} : ∀ {l : List D}, (∀ d ∈ l, ∃ a, f d = some a) → ∃ as, allM f l = some as
  | [], _ => ⟨[], rfl⟩
  | d :: l, h => by
    obtain ⟨a, ea⟩ := h d List.mem_cons_self
    obtain ⟨as, eas⟩ := allM_all fun x hx => h x (List.mem_cons_of_mem _ hx)
    exact ⟨a :: as, by unfold allM; rw [ea, eas]⟩
theorem pl_py {h : IH} : ∀ {k : Nat} {d : D}, d.pl k = true → ∃ p, D.py h k d = some p := by
  intro k
  induction k with
  | zero => intro d e; simp [D.pl] at e
  | succ k ih =>
    intro d e
    cases d with
    | non => exact ⟨_, rfl⟩
    | bl b => exact ⟨_, rfl⟩
    | int i => exact ⟨_, rfl⟩
    | str s => exact ⟨_, rfl⟩
    | tup l =>
      simp only [D.pl, List.all_eq_true] at e
      obtain ⟨ps, hps⟩ := allM_all fun d hd => ih (e d hd)
      exact ⟨.tuple ps, by simp [D.py, hps]⟩
    | fl l =>
      simp only [D.pl, List.all_eq_true] at e
      obtain ⟨ps, hps⟩ := allM_all fun d hd => ih (e d hd)
      exact ⟨.list ps, by simp [D.py, hps]⟩
    | _ => simp [D.pl] at e
theorem pl_eqv {h : IH} : ∀ {k k' : Nat} {x y : D} {p q : PyData}, x.pl k = true → y.pl k' = true → D.py h k x = some p → D.py h k' y = some q → (PyData.eqv p q = true ↔ x.nm = y.nm) := by
  intro k
  induction k with
  | zero => intro k' x y p q e; simp [D.pl] at e
  | succ k ih =>
    intro k'
    cases k' with
    | zero => intro x y p q _ e; simp [D.pl] at e
    | succ k' =>
    have all : ∀ (l m : List D) (ps qs : List PyData), l.all (D.pl k) = true → m.all (D.pl k') = true → allM (D.py h k) l = some ps → allM (D.py h k') m = some qs → (PyData.eqvAll ps qs = true ↔ l.map D.nm = m.map D.nm) := by
      intro l
      induction l with
      | nil =>
        intro m ps qs _ _ e1 e2
        simp only [allM, Option.some.injEq] at e1
        subst e1
        cases m with
        | nil => simp only [allM, Option.some.injEq] at e2; subst e2; simp [PyData.eqvAll]
        | cons d m => obtain ⟨a, as, _, _, rfl⟩ := allM_cons e2; simp [PyData.eqvAll]
      | cons d l il =>
        intro m ps qs a1 a2 e1 e2
        obtain ⟨p, ps', b1, b2, rfl⟩ := allM_cons e1
        simp only [List.all_cons, Bool.and_eq_true] at a1
        cases m with
        | nil => simp only [allM, Option.some.injEq] at e2; subst e2; simp [PyData.eqvAll]
        | cons d' m =>
          obtain ⟨q, qs', c1, c2, rfl⟩ := allM_cons e2
          simp only [List.all_cons, Bool.and_eq_true] at a2
          simp [PyData.eqvAll, ih a1.1 a2.1 b1 c1, il m ps' qs' a1.2 a2.2 b2 c2]
    intro x y p q nx ny ex ey
    have bi : ∀ (b : Bool) (j : Int), ((if b then (1 : Int) else 0) == j) = decide ((if b then (1 : Int) else 0) = j) := fun b j => by cases b <;> rfl
    cases x with
    | non => cases y with
      | non => simp [D.py] at ex ey; subst ex ey; simp [PyData.eqv]
      | bl j => simp [D.py] at ex ey; subst ex ey; simp [PyData.eqv]
      | int j => simp [D.py] at ex ey; subst ex ey; simp [PyData.eqv]
      | str t => simp [D.py] at ex ey; subst ex ey; simp [PyData.eqv]
      | tup m => simp only [D.py, Option.map_eq_some_iff] at ex ey; obtain ⟨qs, _, rfl⟩ := ey; simp at ex; subst ex; simp [PyData.eqv]
      | fl m => simp only [D.py, Option.map_eq_some_iff] at ex ey; obtain ⟨qs, _, rfl⟩ := ey; simp at ex; subst ex; simp [PyData.eqv]
      | _ => simp [D.pl] at ny
    | bl i => cases y with
      | non => simp [D.py] at ex ey; subst ex ey; simp [PyData.eqv]
      | bl j => simp [D.py] at ex ey; subst ex ey; cases i <;> cases j <;> simp [PyData.eqv]
      | int j => simp [D.py] at ex ey; subst ex ey; simp [PyData.eqv]
      | str t => simp [D.py] at ex ey; subst ex ey; simp [PyData.eqv]
      | tup m => simp only [D.py, Option.map_eq_some_iff] at ex ey; obtain ⟨qs, _, rfl⟩ := ey; simp at ex; subst ex; simp [PyData.eqv]
      | fl m => simp only [D.py, Option.map_eq_some_iff] at ex ey; obtain ⟨qs, _, rfl⟩ := ey; simp at ex; subst ex; simp [PyData.eqv]
      | _ => simp [D.pl] at ny
    | int i => cases y with
      | non => simp [D.py] at ex ey; subst ex ey; simp [PyData.eqv]
      | bl j => simp [D.py] at ex ey; subst ex ey; simp [PyData.eqv]
      | int j => simp [D.py] at ex ey; subst ex ey; simp [PyData.eqv]
      | str t => simp [D.py] at ex ey; subst ex ey; simp [PyData.eqv]
      | tup m => simp only [D.py, Option.map_eq_some_iff] at ex ey; obtain ⟨qs, _, rfl⟩ := ey; simp at ex; subst ex; simp [PyData.eqv]
      | fl m => simp only [D.py, Option.map_eq_some_iff] at ex ey; obtain ⟨qs, _, rfl⟩ := ey; simp at ex; subst ex; simp [PyData.eqv]
      | _ => simp [D.pl] at ny
    | str s => cases y with
      | non => simp [D.py] at ex ey; subst ex ey; simp [PyData.eqv]
      | bl j => simp [D.py] at ex ey; subst ex ey; simp [PyData.eqv]
      | int j => simp [D.py] at ex ey; subst ex ey; simp [PyData.eqv]
      | str t =>
        simp [D.py] at ex ey; subst ex ey
        rw [show PyData.eqv (.str (strV s)) (.str (strV t)) = (strV s == strV t) by simp [PyData.eqv], strV_eq]
        simp
      | tup m => simp only [D.py, Option.map_eq_some_iff] at ex ey; obtain ⟨qs, _, rfl⟩ := ey; simp at ex; subst ex; simp [PyData.eqv]
      | fl m => simp only [D.py, Option.map_eq_some_iff] at ex ey; obtain ⟨qs, _, rfl⟩ := ey; simp at ex; subst ex; simp [PyData.eqv]
      | _ => simp [D.pl] at ny
    | tup l =>
      simp only [D.py, Option.map_eq_some_iff] at ex
      obtain ⟨ps, e1, rfl⟩ := ex
      cases y with
      | non => simp [D.py] at ey; subst ey; simp [PyData.eqv]
      | bl j => simp [D.py] at ey; subst ey; simp [PyData.eqv]
      | int j => simp [D.py] at ey; subst ey; simp [PyData.eqv]
      | str t => simp [D.py] at ey; subst ey; simp [PyData.eqv]
      | tup m =>
        simp only [D.py, Option.map_eq_some_iff] at ey; obtain ⟨qs, e2, rfl⟩ := ey
        have := all l m ps qs (by simpa [D.pl] using nx) (by simpa [D.pl] using ny) e1 e2
        simp [PyData.eqv, this]
      | fl m => simp only [D.py, Option.map_eq_some_iff] at ey; obtain ⟨qs, _, rfl⟩ := ey; simp [PyData.eqv]
      | _ => simp [D.pl] at ny
    | fl l =>
      simp only [D.py, Option.map_eq_some_iff] at ex
      obtain ⟨ps, e1, rfl⟩ := ex
      cases y with
      | non => simp [D.py] at ey; subst ey; simp [PyData.eqv]
      | bl j => simp [D.py] at ey; subst ey; simp [PyData.eqv]
      | int j => simp [D.py] at ey; subst ey; simp [PyData.eqv]
      | str t => simp [D.py] at ey; subst ey; simp [PyData.eqv]
      | fl m =>
        simp only [D.py, Option.map_eq_some_iff] at ey; obtain ⟨qs, e2, rfl⟩ := ey
        have := all l m ps qs (by simpa [D.pl] using nx) (by simpa [D.pl] using ny) e1 e2
        simp [PyData.eqv, this]
      | tup m => simp only [D.py, Option.map_eq_some_iff] at ey; obtain ⟨qs, _, rfl⟩ := ey; simp [PyData.eqv]
      | _ => simp [D.pl] at ny
    | _ => simp [D.pl] at nx
open Classical in
theorem dEq_pl {neg : Bool} {h : IH} {x y : D} (nx : x.pl 50 = true) (ny : y.pl 50 = true) : dEq neg x y h = .ok (.bl (if neg then !decide (x.nm = y.nm) else decide (x.nm = y.nm))) h := by
  obtain ⟨p, hp⟩ := pl_py (h := h) nx
  obtain ⟨q, hq⟩ := pl_py (h := h) ny
  unfold dEq
  rw [hp, hq]
  dsimp only
  have : PyData.eqv p q = decide (x.nm = y.nm) := by
    rw [Bool.eq_iff_iff, pl_eqv nx ny hp hq]
    simp
  rw [this]
/-- a list in the heap is told as its items -/
theorem py_ref {h : IH} {n : Nat} {xs : List D} (e : h[n]? = some (.lst xs)) {k : Nat} : D.py h k (.ref n) = D.py h k (.fl xs) := by
  cases k with
  | zero => rfl
  | succ k =>
    show (match h[n]? with | some (.lst xs) => _ | some (.frz xs) => _ | _ => _) = _
    rw [e]
    rfl
theorem dEq_ref {neg : Bool} {h : IH} {n : Nat} {xs : List D} {y : D} (e : h[n]? = some (.lst xs)) : dEq neg (.ref n) y h = dEq neg (.fl xs) y h := by
  unfold dEq
  rw [py_ref e]
theorem dEq_ref2 {neg : Bool} {h : IH} {n : Nat} {xs : List D} {x : D} (e : h[n]? = some (.lst xs)) : dEq neg x (.ref n) h = dEq neg x (.fl xs) h := by
  unfold dEq
  rw [py_ref e]
open Classical in
theorem dIn_pl {neg : Bool} {h : IH} {x y : D} {ys : List D} (e : seqOf h y = some ys) (nx : x.pl 50 = true) (ny : ∀ d ∈ ys, D.pl 49 d = true) : dIn neg x y h = .ok (.bl (if neg then !decide (x.nm ∈ ys.map D.nm) else decide (x.nm ∈ ys.map D.nm))) h := by
  obtain ⟨p, hp⟩ := pl_py (h := h) nx
  have main : ∀ {ys : List D}, (∀ d ∈ ys, D.pl 49 d = true) → ∃ qs, allM (D.py h 49) ys = some qs ∧ (qs.any fun z => PyData.eqv z p) = decide (x.nm ∈ ys.map D.nm) := by
    intro ys
    induction ys with
    | nil => exact fun _ => ⟨[], rfl, by simp⟩
    | cons d ys ih =>
      intro hy
      obtain ⟨qs, e1, e2⟩ := ih fun z hz => hy z (List.mem_cons_of_mem _ hz)
      obtain ⟨q, hq⟩ := pl_py (h := h) (hy d List.mem_cons_self)
      refine ⟨q :: qs, by unfold allM; rw [hq, e1], ?_⟩
      rw [List.any_cons, e2, Bool.eq_iff_iff]
      simp [pl_eqv (hy d List.mem_cons_self) nx hq hp]
      simp [eq_comm]
  obtain ⟨qs, e1, e2⟩ := main ny
  have e3 : (seqOf h y).bind (allM (D.py h 49)) = some qs := by rw [e]; exact e1
  have : dIn neg x y h = match D.py h 50 x, (seqOf h y).bind (allM (D.py h 49)) with
    | some a, some bs => .ok (.bl (if neg then !(bs.any fun z => PyData.eqv z a) else bs.any fun z => PyData.eqv z a)) h
    | _, _ => .no := by
    unfold dIn
    split
    · simp [seqOf] at e
    · rfl
  rw [this, hp, e3]
  dsimp only
  rw [e2]
theorem bTupleX_ref {h : IH} {n : Nat} {xs : List D} (e : h[n]? = some (.lst xs)) : bTupleX [.ref n] h = .ok (.tup xs) h := by
  show bTuple [.ref n] h = _
  unfold bTuple
  dsimp only
  rw [lstOf_ref e]
@[simp] theorem pl_non {k : Nat} : D.pl (k + 1) .non = true := rfl
@[simp] theorem pl_int {k : Nat} {i : Int} : D.pl (k + 1) (.int i) = true := rfl
@[simp] theorem pl_bl {k : Nat} {i : Bool} : D.pl (k + 1) (.bl i) = true := rfl
@[simp] theorem pl_str {k : Nat} {i : List Nat} : D.pl (k + 1) (.str i) = true := rfl
theorem pl_fl {k : Nat} {l : List D} : D.pl (k + 1) (.fl l) = l.all (D.pl k) := rfl
theorem pl_tup {k : Nat} {l : List D} : D.pl (k + 1) (.tup l) = l.all (D.pl k) := rfl
theorem pl_all {k : Nat} {l : List D} (h : ∀ d ∈ l, D.pl k d = true) : l.all (D.pl k) = true := List.all_eq_true.mpr h
theorem pl_ints {k : Nat} {l : List Int} : (l.map D.int).all (D.pl (k + 1)) = true := pl_all fun d hd => by
  obtain ⟨x, _, rfl⟩ := List.mem_map.mp hd
  rfl
theorem dEq_self {d : D} {h : IH} {neg : Bool} (p : d.pl 50 = true) : dEq neg d d h = .ok (.bl (!neg)) h := by
  rw [dEq_pl p p]
  cases neg <;> simp
@[simp] theorem ap_mFz_dict0 {env : EV} {h : IH} : mFz (mDict []) env h = .ok (.fd [] []) h := by
  have e : mDict [] env h = .ok (.ref h.length) (h ++ [.dk []]) := by
    simp [mDict, mPr, R.bind, keyPs, dkAt]
  rw [ap_mFz0, e]
  unfold fzR
  simp
/-! what is known of a value -/
def D.kn : D → Bool
  | .ref _ => false
  | .exc _ => false
  | _ => true
def D.isI : D → Bool
  | .int _ => true
  | _ => false
def D.kn2 : D → Bool
  | .tup l => l.all D.kn
  | d => d.kn
theorem isT_int_kn {d : D} {h : IH} (k : d.kn = true) : isT "int" h d = some (d.isI || (match d with | .bl _ => true | _ => false)) := by
  cases d with
  | ref n => cases k
  | exc n => cases k
  | _ => simp [D.isI]
theorem isT_bool_kn {d : D} {h : IH} (k : d.kn = true) : isT "bool" h d = some (match d with | .bl _ => true | _ => false) := by
  cases d with
  | ref n => cases k
  | exc n => cases k
  | _ => simp
theorem isT_tuple_kn {d : D} {h : IH} (k : d.kn = true) : isT "tuple" h d = some (match d with | .tup _ => true | _ => false) := by
  cases d with
  | ref n => cases k
  | exc n => cases k
  | _ => simp
theorem sIx_neg {n d k : Nat} (h0 : 1 ≤ k) (h1 : k ≤ n) : HT.sIx n d (some (-(k : Int))) = n - k := by
  show (if -(k : Int) < 0 then (-(k : Int) + (n : Int)).toNat else min (-(k : Int)).toNat n) = _
  rw [if_pos (by omega)]
  omega
theorem cutD_neg {xs : List D} {k : Nat} (h0 : 1 ≤ k) (h1 : k ≤ xs.length) : cutD xs none (some (-(k : Int))) = xs.take (xs.length - k) := by
  show (xs.drop (HT.sIx xs.length 0 none)).take (HT.sIx xs.length xs.length (some (-(k : Int))) - HT.sIx xs.length 0 none) = _
  rw [sIx_neg h0 h1]
  simp [HT.sIx]
theorem cutN_neg {xs : List Nat} {k : Nat} (h0 : 1 ≤ k) (h1 : k ≤ xs.length) : cutN xs none (some (-(k : Int))) = xs.take (xs.length - k) := by
  show (xs.drop (HT.sIx xs.length 0 none)).take (HT.sIx xs.length xs.length (some (-(k : Int))) - HT.sIx xs.length 0 none) = _
  rw [sIx_neg h0 h1]
  simp [HT.sIx]
end NR

set_option Elab.async false
set_option linter.all false
set_option maxRecDepth 100000
set_option maxHeartbeats 1000000
/-! A def that calls itself. -/
namespace NR
open PySem PySem.Spec PyProof.Rows L2
/-- nothing is told -/
def mNo : MF := fun _ _ => .no
theorem fnG_no {P : Program} {w : World} {K : PySem.W.Frag} {mg : Str → Option Value} {base : Heap} {G : Cf} {x : Str} {st : Stmt} {ps : List Str} {k n : Nat} (d : DefAt K mg x st ps) (hn : ps.length = n) : FnG P w K mg base G x k n mNo :=
  d.fn fun f fd F => ⟨fun vs H Q E h => h.1.trans hn.symm, fun A outer s H args us vs Q E hr he hb hv hs => by
    obtain ⟨_, et, ds, h, _, _, hP⟩ := hs
    exact hP.elim⟩
end NR

set_option Elab.async false
set_option linter.all false
set_option maxRecDepth 100000
set_option maxHeartbeats 1000000
/-! Dicts: keys ints and texts, or tuples of such. -/
namespace NR
open PySem PySem.Spec PyProof.Rows L2
def keyT? : D → Option (List DKey)
  | .tup l => allM keyD? l
  | _ => none
def valKD {κ : Type} [DecidableEq κ] (kvs : List (κ × D)) (k : κ) : Option D := (kvs.find? fun p => decide (p.1 = k)).map (·.2)
/-- what a dict holds at a key -/
def dGet? (h : IH) (o i : D) : Option (Option D) := match o with
  | .ref n => match h[n]? with
    | some (.dk kvs) => (keyD? i).map (valKD kvs)
    | some (.dt kvs) => (keyT? i).map (valKD kvs)
    | _ => none
  | .fd ks l => (keyD? i).map (valKD (ks.zip l))
  | _ => none
theorem key_den {G : Cf} {et : List Addr} {H : Hp} {d : D} {v : V} {k : DKey} (e : keyD? d = some k) (r : Den G et H d v) : v = kV (keyV k) := by
  unfold keyD? at e
  split at e
  · cases e; exact den_int.mp r
  · cases e; exact den_str.mp r
  · cases e
theorem keys_den {G : Cf} {et : List Addr} {H : Hp} : ∀ {l : List D} {vs : List V} {ks : List DKey}, allM keyD? l = some ks → DenL G et H l vs → vs = (ks.map keyV).map kV
  | [], vs, ks, e, r => by
    simp only [allM, Option.some.injEq] at e
    subst e
    exact denL_nil.mp r
  | d :: l, vs, ks, e, r => by
    obtain ⟨a, as, e1, e2, rfl⟩ := allM_cons e
    obtain ⟨v, ws, rfl, r1, r2⟩ := denL_cons.mp r
    rw [key_den e1 r1, keys_den e2 r2]
    rfl
theorem keyVs_inj : ∀ {a b : List DKey}, a.map keyV = b.map keyV → a = b
  | [], [], _ => rfl
  | [], _ :: _, h => by simp at h
  | _ :: _, [], h => by simp at h
  | x :: a, y :: b, h => by
    simp only [List.map_cons, List.cons.injEq] at h
    rw [keyV_inj h.1, keyVs_inj h.2]
def OptR (G : Cf) (et : List Addr) (H : Hp) : Option D → Option V → Prop
  | some d, some v => Den G et H d v
  | none, none => True
  | _, _ => False
theorem denK_val {κ κ' : Type} [DecidableEq κ] [DecidableEq κ'] {f : κ → κ'} (inj : ∀ a b, f a = f b → a = b) {G : Cf} {et : List Addr} {H : Hp} (k : κ) : ∀ {kvs : List (κ × D)} {ws : List (κ' × V)}, DenK f G et H kvs ws →
    OptR G et H (valKD kvs k) (valV ws (f k))
  | [], [], h => trivial
  | [], _ :: _, h => by have := h.1; simp at this
  | _ :: _, [], h => by have := h.1; simp at this
  | p :: kvs, q :: ws, h => by
    obtain ⟨h1, h2⟩ := h
    simp only [List.map_cons, List.cons.injEq] at h1
    simp only [List.map_cons] at h2
    obtain ⟨v0, ws0, e0, h3, h4⟩ := denL_cons.mp h2
    simp only [List.cons.injEq] at e0
    obtain ⟨rfl, rfl⟩ := e0
    have ih := denK_val inj (G := G) (et := et) (H := H) k (kvs := kvs) (ws := ws) ⟨h1.2, h4⟩
    by_cases e : p.1 = k
    · have e' : q.1 = f k := by rw [h1.1, e]
      have a1 : valKD (p :: kvs) k = some p.2 := by simp [valKD, e]
      rw [a1, valV_pos e']
      exact h3
    · have e' : ¬ q.1 = f k := fun z => e (inj _ _ (h1.1.symm.trans z))
      have a1 : valKD (p :: kvs) k = valKD kvs k := by simp [valKD, e]
      rw [a1, valV_neg e']
      exact ih
theorem denK_zip {G : Cf} {et : List Addr} {H : Hp} : ∀ {ks : List DKey} {l : List D} {ws : List (Key × V)}, ws.map (·.1) = ks.map keyV → DenL G et H l (ws.map (·.2)) → DenK keyV G et H (ks.zip l) ws
  | [], l, [], h1, h2 => by
    have := h2.len
    have : l = [] := List.eq_nil_of_length_eq_zero (by simpa using this.symm)
    subst this
    exact ⟨rfl, by simp⟩
  | [], _, _ :: _, h1, _ => by simp at h1
  | _ :: _, _, [], h1, _ => by simp at h1
  | k :: ks, l, w :: ws, h1, h2 => by
    simp only [List.map_cons, List.cons.injEq] at h1 h2
    cases l with
    | nil => have := h2.len; simp at this
    | cons d l =>
      obtain ⟨v0, ws0, e0, h3, h4⟩ := denL_cons.mp h2
      simp only [List.cons.injEq] at e0
      obtain ⟨e1, e2⟩ := e0
      have ih := denK_zip h1.2 (e2 ▸ h4)
      refine ⟨by simp [h1.1, ih.1], ?_⟩
      simp only [List.zip_cons_cons, List.map_cons]
      exact denL_cons.mpr ⟨w.2, _, rfl, by rw [e1]; exact h3, ih.2⟩
section
variable {G : Cf} {et : List Addr} {H : Hp} {h : IH}
theorem dget_of (R : HRel G et h H) {o i : D} {r : Option D} {vo vi : V} (e : dGet? h o i = some r) (ro : Den G et H o vo) (ri : Den G et H i vi) : ∃ a u, vo = .ref a ∧ DGet H a vi u ∧ OptR G et H r u := by
  cases o with
  | ref n =>
    obtain ⟨a, h1, rfl⟩ := den_ref.mp ro
    simp only [dGet?] at e
    split at e
    · rename_i kvs hc
      obtain ⟨ws, c1, c2⟩ := R.cell n _ a hc h1
      simp only [Option.map_eq_some_iff] at e
      obtain ⟨k, e1, rfl⟩ := e
      rw [key_den e1 ri]
      exact ⟨a, _, rfl, DGet.k c1, denK_val (fun a b => keyV_inj) k c2⟩
    · rename_i kvs hc
      obtain ⟨ws, c1, c2⟩ := R.cell n _ a hc h1
      simp only [Option.map_eq_some_iff] at e
      obtain ⟨k, e1, rfl⟩ := e
      cases i with
      | tup l =>
        obtain ⟨b, vs, rfl, t1, t2⟩ := den_tup.mp ri
        have ek := keys_den (show allM keyD? l = some k from e1) t2
        subst ek
        exact ⟨a, _, rfl, DGet.t c1 t1, denK_val (fun a b => keyVs_inj) k c2⟩
      | _ => cases e1
    · cases e
  | fd ks l =>
    obtain ⟨a, ws, rfl, ⟨oo, c1⟩, c2, c3⟩ := den_fd.mp ro
    simp only [dGet?, Option.map_eq_some_iff] at e
    obtain ⟨k, e1, rfl⟩ := e
    rw [key_den e1 ri]
    exact ⟨a, _, rfl, .inl ⟨ws, _, .inr ⟨oo, c1⟩, rfl, rfl⟩, denK_val (fun a b => keyV_inj) k (denK_zip c2 c3)⟩
  | _ => cases e
end
/-- k in d -/
def dDIn (neg : Bool) : D → D → IH → R D := fun x y h => match dGet? h y x with
  | some r => .ok (.bl (if neg then !r.isSome else r.isSome)) h
  | none => .no
/-- d[k] -/
def dDGet : D → D → IH → R D := fun o i h => match dGet? h o i with
  | some (some d) => .ok d h
  | _ => .no
def rDIn (neg : Bool) : R2 := fun x y H Q => ∃ a o, y = .ref a ∧ DGet H a x o ∧ Q (.bl (if neg then !o.isSome else o.isSome)) H
section
variable {X : Cx} {G : Cf} {W : WX}
theorem op_dIn (hu : X.A.units + 64 < cLine) : OpR X (compareOp .In) (rDIn false) := by
  intro pins s σ H x y v u Q I rx ry h
  obtain ⟨a, o, rfl, g, q⟩ := h
  obtain rfl : u = Value.ref a := ry
  exact d_in (by omega) I g rx fun s3 I3 => ⟨.bl o.isSome, H, I3, rfl, q⟩
theorem op_dNotIn (hu : X.A.units + 64 < cLine) : OpR X (compareOp .NotIn) (rDIn true) := by
  intro pins s σ H x y v u Q I rx ry h
  obtain ⟨a, o, rfl, g, q⟩ := h
  obtain rfl : u = Value.ref a := ry
  exact d_notIn (by omega) I g rx fun s3 I3 => ⟨.bl (!o.isSome), H, I3, rfl, q⟩
theorem dDIn_ok (neg : Bool) : OpS G (rDIn neg) (dDIn neg) := by
  intro et H h x y v w W Q rx ry R p
  unfold dDIn at p
  split at p
  · rename_i r e
    obtain ⟨a, u, rfl, g, hr⟩ := dget_of R e ry rx
    have es : u.isSome = r.isSome := by
      cases u <;> cases r <;> first | rfl | exact hr.elim
    refine ⟨a, u, rfl, g, ?_⟩
    rw [es]
    exact p.here R _ (by simp)
  · exact p.elim
theorem me_dget {a b : Expr} {ma mb : ME} {pos : Pos} (hu : X.A.units + 64 < cLine) (ha : PE X a (tE G W ma)) (hb : PE X b (tE G W mb)) (hs : NoSl b := by exact fun _ _ => rfl) : PE X (.Subscript a b pos) (tE G W (mOp dDGet ma mb)) :=
  PE.imp (pe_dget (by omega) ha hb hs) fun σ H Q ⟨et, env, h, hE, hH, hP⟩ => by
    refine ⟨et, env, h, hE, hH, (Pst.of_bind hP).imp fun et1 H1 h1 x p e hr q v hv => ?_⟩
    refine ⟨et1, env, h1, hE.mono p e, hr, (Pst.of_bind q).imp fun et2 H2 h2 y p2 e2 hr2 q2 w hw => ?_⟩
    unfold dDGet at q2
    split at q2
    · rename_i d ed
      obtain ⟨a, u, rfl, g, hd⟩ := dget_of hr2 ed (hv.mono p2 e2) hw
      cases u with
      | none => exact hd.elim
      | some z => exact ⟨a, z, rfl, g, q2.here hr2 _ hd⟩
    · exact q2.elim
/-- d.get(k) -/
def dDGet1 : D → D → IH → R D := fun o i h => match dGet? h o i with
  | some r => .ok (r.getD .non) h
  | none => .no
def isDD (h : IH) : D → Bool
  | .ref n => match h[n]? with
    | some (.dk _) => true
    | some (.dt _) => true
    | _ => false
  | _ => false
theorem isDD_ok {et : List Addr} {H : Hp} {h : IH} (R : HRel G et h H) {d : D} {v : V} (e : isDD h d = true) (r : Den G et H d v) : ∃ a, v = .ref a ∧ IsD H a := by
  cases d with
  | ref n =>
    obtain ⟨a, h1, rfl⟩ := den_ref.mp r
    simp only [isDD] at e
    split at e
    · rename_i kvs hc
      obtain ⟨ws, c1, c2⟩ := R.cell n _ a hc h1
      exact ⟨a, rfl, .inl ⟨ws, .inl c1⟩⟩
    · rename_i kvs hc
      obtain ⟨ws, c1, c2⟩ := R.cell n _ a hc h1
      exact ⟨a, rfl, .inr ⟨ws, .inl c1⟩⟩
    · cases e
  | _ => cases e
def mDGet1 (mo mi : ME) : ME := fun env h => (mo env h).bind fun x h1 => if isDD h1 x = true then (mi env h1).bind fun y h2 => dDGet1 x y h2 else .no
theorem me_dget1 {o e : Expr} {mo mi : ME} {apos cpos : Pos} (hu : X.A.units + 64 < cLine) (ho : PE X o (tE G W mo)) (he : PE X e (tE G W mi)) (m : M1 X o "get" apos e cpos := by exact ⟨rfl, rfl, rfl, rfl⟩) : PE X (.Call (.Attribute o "get" apos) [e] [] cpos) (tE G W (mDGet1 mo mi)) :=
  PE.imp (pe_dget1 (by omega) ho he m) fun σ H Q ⟨et, env, h, hE, hH, hP⟩ => by
    refine ⟨et, env, h, hE, hH, (Pst.of_bind hP).imp fun et1 H1 h1 x p e hr q v hv => ?_⟩
    split at q
    · rename_i c
      obtain ⟨a, rfl, hd⟩ := isDD_ok hr c hv
      refine ⟨a, rfl, hd, et1, env, h1, hE.mono p e, hr, (Pst.of_bind q).imp fun et2 H2 h2 y p2 e2 hr2 q2 w hw => ?_⟩
      unfold dDGet1 at q2
      split at q2
      · rename_i r ed
        obtain ⟨b, u, eb, g, hd⟩ := dget_of hr2 ed (hv.mono p2 e2) hw
        cases eb
        refine ⟨u, g, q2.here hr2 _ ?_⟩
        cases u <;> cases r <;> first | exact hd.elim | skip
        · simp
        · exact hd
      · exact q2.elim
    · exact q.elim
/-- d[k] = v -/
def putDD (o i v : D) (h : IH) : Option IH := match o with
  | .ref n => match h[n]? with
    | some (.dk kvs) => match keyD? i with
      | some k => if kvs.length < 10000000 then some (h.set n (.dk (putKD kvs k v))) else none
      | none => none
    | some (.dt kvs) => match keyT? i with
      | some k => if kvs.length < 10000000 then some (h.set n (.dt (putKD kvs k v))) else none
      | none => none
    | _ => none
  | _ => none
def rSetD : V → V → V → Hp → (Hp → Prop) → Prop := fun o i v H Q => ∃ a H', o = .ref a ∧ DPut H a i v H' ∧ Q H'
theorem set_dict (hu : X.A.units + 64 < cLine) : PSet X rSetD := by
  intro pins s σ H o i v ov iv u Q I ro ri rv h
  obtain ⟨a, H', rfl, g, q⟩ := h
  obtain rfl : ov = Value.ref a := ro
  exact d_setItem (by omega) I g ri rv fun s4 I4 => ⟨H', I4, q⟩
theorem putDD_ok {et : List Addr} {H : Hp} {h h' : IH} (R : HRel G et h H) {o i v : D} {vo vi vv : V} {Q : Hp → Prop} (e : putDD o i v h = some h') (ro : Den G et H o vo) (ri : Den G et H i vi) (rv : Den G et H v vv) (q : ∀ H', Ext H H' → HRel G et h' H' → Q H') : rSetD vo vi vv H Q := by
  cases o with
  | ref n =>
    obtain ⟨a, h1, rfl⟩ := den_ref.mp ro
    simp only [putDD] at e
    split at e
    · rename_i kvs hc
      split at e
      · rename_i k ek
        split at e
        · rename_i l
          cases e
          obtain ⟨ws, c1, c2⟩ := R.cell n _ a hc h1
          rw [key_den ek ri]
          have lw : ws.length = kvs.length := by have := congrArg List.length c2.1; simpa using this
          have ex : Ext H (upd H a (.dK (putK ws (keyV k) vv))) := Ext.mut c1 True.intro
          refine ⟨a, _, rfl, DPut.k c1 (by rw [lw, sizeLine_eq]; omega), q _ ex (R.set hc h1 rfl c1 True.intro ⟨_, upd_same, (denK_put (fun a b => keyV_inj) rv c2).mono List.prefix_rfl ex⟩)⟩
        · cases e
      · cases e
    · rename_i kvs hc
      split at e
      · rename_i k ek
        split at e
        · rename_i l
          cases e
          obtain ⟨ws, c1, c2⟩ := R.cell n _ a hc h1
          cases i with
          | tup t =>
            obtain ⟨b, vs, rfl, t1, t2⟩ := den_tup.mp ri
            have ek := keys_den (show allM keyD? t = some k from ek) t2
            subst ek
            have lw : ws.length = kvs.length := by have := congrArg List.length c2.1; simpa using this
            have ex : Ext H (upd H a (.dT (putK ws (k.map keyV) vv))) := Ext.mut c1 True.intro
            refine ⟨a, _, rfl, DPut.t c1 t1 (by rw [lw, sizeLine_eq]; omega), q _ ex (R.set hc h1 rfl c1 True.intro ⟨_, upd_same, (denK_put (fun a b => keyVs_inj) rv c2).mono List.prefix_rfl ex⟩)⟩
          | _ => cases ek
        · cases e
      · cases e
    · cases e
  | _ => cases e
def msSetD (mo mi me : ME) : MS := fun env h => (me env h).bindS env fun v h1 => (mo env h1).bindS env fun o h2 => (mi env h2).bindS env fun i h3 => match putDD o i v h3 with
  | some h4 => .nx env h4
  | none => .no
theorem ms_setD {e o i : Expr} {me mo mi : ME} {pos pos' : Pos} (hu : X.A.units + 64 < cLine) (he : PE X e (tE G W me)) (ho : PE X o (tE G W mo)) (hi : PE X i (tE G W mi)) (ha : ∀ v, assign (.Subscript o i pos') X.env v = (do
      let ov ← holding [v] (eval o X.env)
      let iv ← holding [v, ov] (eval i X.env)
      standAt pos'
      holding [v, ov, iv] (setItem ov iv v)
      release [v, ov, iv] []) := by intro _; rfl) (hs : swapsWithSole [.Subscript o i pos'] e pos.line X.env = pure false := by rfl) (hw : swappedStores [.Subscript o i pos'] e X.env = pure none := by rfl)
    (h1 : (assignEach [.Subscript o i pos'] X.env).map (·.2) = [assign (.Subscript o i pos') X.env] := by rfl) : PS X (.Assign [.Subscript o i pos'] e pos) (tS G W (msSetD mo mi me)) :=
  PS.imp (ps_asg he (pg_sub ho hi (set_dict hu) ha) hs hw h1) fun D σ H ⟨et, env, h, hE, hH, hP⟩ => by
    refine ⟨et, env, h, hE, hH, (PstS.of_bind hE hP).imp fun et1 H1 h1 v p e hr q vv hv => ?_⟩
    have hE1 := hE.mono p e
    refine ⟨et1, env, h1, hE1, hr, (PstS.of_bind hE1 q).imp fun et2 H2 h2 o p2 e2 hr2 q2 vo ho => ?_⟩
    have hE2 := hE1.mono p2 e2
    refine ⟨et2, env, h2, hE2, hr2, (PstS.of_bind hE2 q2).imp fun et3 H3 h3 i p3 e3 hr3 q3 vi hi => ?_⟩
    have hE3 := hE2.mono p3 e3
    split at q3
    · rename_i h4 e4
      exact putDD_ok hr3 e4 (ho.mono p3 e3) hi ((hv.mono p2 e2).mono p3 e3) fun H' ex hr4 => q3 et3 H' σ List.prefix_rfl ex hr4 (hE3.mono List.prefix_rfl ex)
    · exact q3.elim
/-- an empty dict with tuples as keys -/
def mDictT : ME := fun _ h => .ok (.ref h.length) (h ++ [.dt []])
theorem me_dict0T {pos : Pos} : PE X (.Dict [] [] pos) (tE G W mDictT) := PE.imp pe_dnewT fun σ H Q ⟨et, env, h, hE, hH, hP⟩ p hp => by
  have hH1 : HRel G (et ++ [p]) (h ++ [.dt []]) (upd H p (.dT [])) := hH.push hp ⟨[], upd_same, rfl, by simp⟩
  refine hP (et ++ [p]) _ (List.prefix_append _ _) (Ext.new hp) hH1 _ (den_ref.mpr ⟨p, ?_, rfl⟩)
  rw [← hH.len]
  simp
end
end NR

set_option Elab.async false
set_option linter.all false
set_option maxRecDepth 100000
set_option maxHeartbeats 1000000
/-! More sources, more operators. -/
namespace NR
open PySem PySem.Spec PyProof.Rows L2
/-! ### ranges downwards -/
def intsDown (hi : Int) (n : Nat) : List D := (List.range n).map fun i => .int (hi - (i : Nat))
def iRange3 (m : MA) : MI := fun env h => (m env h).bind fun xs h1 => match xs with
  | [.int i, .int j, .int c] => if c = -1 ∧ -10000000 ≤ i ∧ i ≤ 10000000 ∧ -10000000 ≤ j ∧ j ≤ 10000000 then .ok (.st (intsDown i (i - j).toNat)) h1 else .no
  | _ => .no
theorem down_get (hi : Int) (n i : Nat) : (intsDown hi n)[i]? = if i < n then some (.int (hi - (i : Nat))) else none := by
  unfold intsDown
  rw [List.getElem?_map]
  by_cases h : i < n
  · rw [if_pos h, List.getElem?_range h]
    rfl
  · rw [if_neg h, List.getElem?_eq_none (by simpa using h)]
    rfl
section
variable {X : Cx} {G : Cf} {W : WX} {e tg : Expr} {es : List Expr} {me : ME} {mt : MA} {pos p : Pos}
theorem jrel_down {et : List Addr} {H : Hp} {hi : Int} {n : Nat} : JRel G et H (.st (intsDown hi n)) (Itc hi (-1) n) := jrel_st fun et1 H1 h1 p ex R i => by
  rw [down_get]
  by_cases h : i < n
  · rw [if_pos h]
    refine ⟨h, fun x H' ⟨hH, hx⟩ => ?_⟩
    rw [hH, hx]
    refine ⟨Ext.refl _, R, ?_⟩
    rw [den_int]
    congr 1
    omega
  · rw [if_neg h]
    show n ≤ i
    omega
theorem list3 {et : List Addr} {H : Hp} {a b c : D} {vs : List V} (h : DenL G et H [a, b, c] vs) : ∃ x y z, vs = [x, y, z] ∧ Den G et H a x ∧ Den G et H b y ∧ Den G et H c z := by
  obtain ⟨x, v1, rfl, h1, k⟩ := denL_cons.mp h
  obtain ⟨y, v2, rfl, h2, k⟩ := denL_cons.mp k
  obtain ⟨z, v3, rfl, h3, k⟩ := denL_cons.mp k
  rw [denL_nil.mp k]
  exact ⟨x, y, z, rfl, h1, h2, h3⟩
theorem mi_range3 {a b c : Expr} (ha : PA X [a, b, c] (tA G W mt)) (hm : X.mg "range" = none) (hg : Gl X "range" := by rfl) (hs : starEach [a, b, c] X.env = (false, eval a X.env) :: starEach [b, c] X.env := by rfl) (hpl : (backTo pos (starEach [b, c] X.env)).any (·.1) = false := by rfl) : PI X tg (.Call (.Name "range" p) [a, b, c] [] pos) (tI G W (iRange3 mt)) :=
  PI.imp (pi_range3 hg hm ha hs hpl) fun σ H R ⟨et, env, h, hE, hH, hP⟩ => by
    refine ⟨et, env, h, hE, hH, (Pst.of_bind hP).imp fun et1 H1 h1 xs p e hr q vs hv => ?_⟩
    split at q
    · split at q
      · rename_i i j k c
        obtain ⟨v, w, u, rfl, r1, r2, r3⟩ := list3 hv
        obtain ⟨rfl, c1, c2, c3, c4⟩ := c
        exact ⟨i, j, -1, _, by rw [den_int.mp r1, den_int.mp r2, den_int.mp r3], RgC.neg (by omega) (by omega) (by omega) (by omega), q.here hr _ jrel_down⟩
      · exact q.elim
    · exact q.elim
end
end NR

set_option Elab.async false
set_option linter.all false
set_option maxRecDepth 100000
set_option maxHeartbeats 1000000
/-! A for over what stands still, by its items. -/
namespace NR
open PySem PySem.Spec PyProof.Rows L2
def forL (g : MG) (b : MS) : List D → EV → IH → RS
  | [], env, h => .nx env h
  | d :: ds, env, h => match g d env with
    | none => .no
    | some e1 => match b e1 h with
      | .nx e2 h2 => forL g b ds e2 h2
      | .ct e2 h2 => forL g b ds e2 h2
      | .bk e2 h2 => .nx e2 h2
      | r => r
/-- what follows a turn -/
def RS.on (k : EV → IH → RS) : RS → RS
  | .nx e h => k e h
  | .ct e h => k e h
  | .bk e h => .nx e h
  | r => r
section
variable {g : MG} {b : MS} {env e1 : EV} {h h' : IH} {d : D} {ds : List D} {k : EV → IH → RS}
@[simp] theorem on_nx : (RS.nx env h).on k = k env h := rfl
@[simp] theorem on_ct : (RS.ct env h).on k = k env h := rfl
@[simp] theorem on_bk : (RS.bk env h).on k = .nx env h := rfl
@[simp] theorem on_rt : (RS.rt d h).on k = .rt d h := rfl
@[simp] theorem on_ex {c : Str} {x : XF} : (RS.ex c x env h).on k = .ex c x env h := rfl
@[simp] theorem forL_nil : forL g b [] env h = .nx env h := rfl
theorem forL_cons (e : g d env = some e1) : forL g b (d :: ds) env h = (b e1 h).on (forL g b ds) := by
  show (match g d env with
    | none => _
    | some e1 => _) = _
  rw [e]
  dsimp only
  cases b e1 h <;> rfl
theorem forM_forL : forM (.st ds) g b ((Src.st ds).many h' + 1) 0 env h = forL g b ds env h := by
  have go : ∀ (m i : Nat) (env : EV) (h : IH), i + m = ds.length + 1 → i ≤ ds.length → forM (.st ds) g b m i env h = forL g b (ds.drop i) env h := by
    intro m
    induction m with
    | zero => 
      intro i env h e l
      omega
    | succ m ih =>
      intro i env h e l
      unfold forM
      rw [if_pos (show (Src.st ds).ok h = true from rfl)]
      show (match ds[i]? with
        | none => _
        | some d => _) = _
      cases hd : ds[i]? with
      | none =>
        rw [List.drop_eq_nil_of_le (List.getElem?_eq_none_iff.mp hd)]
        rfl
      | some d =>
        obtain ⟨hi, hx⟩ := List.getElem?_eq_some_iff.mp hd
        rw [List.drop_eq_getElem_cons hi, hx]
        dsimp only [forL]
        cases g d env with
        | none => rfl
        | some e1 =>
          dsimp only
          cases b e1 h <;> first | rfl | exact ih (i + 1) _ _ (by omega) (by omega)
  exact go _ 0 env h (by show 0 + (ds.length + 1) = _; omega) (Nat.zero_le _)
theorem forL_app {as bs : List D} {env : EV} {h : IH} {e2 : EV} {h2 : IH} (e : forL g b as env h = .nx e2 h2) (nb : ∀ (i : Nat) (d : D) (env : EV) (h : IH) (e1 : EV), as[i]? = some d → g d env = some e1 → ∀ e2 h2, b e1 h ≠ .bk e2 h2) : forL g b (as ++ bs) env h = forL g b bs e2 h2 := by
  induction as generalizing env h with
  | nil => cases e; rfl
  | cons d as ih =>
    cases hg : g d env with
    | none => simp [forL, hg] at e
    | some e1 =>
      rw [List.cons_append, forL_cons hg]
      rw [forL_cons hg] at e
      have nb0 := nb 0 d env h e1 rfl hg
      have nb' : ∀ (i : Nat) (d : D) (env : EV) (h : IH) (e1 : EV), as[i]? = some d → g d env = some e1 → ∀ e2 h2, b e1 h ≠ .bk e2 h2 := fun i d env h e1 q => nb (i + 1) d env h e1 (by simpa using q)
      revert e nb0
      cases b e1 h with
      | nx e3 h3 => intro e _; exact ih e nb'
      | ct e3 h3 => intro e _; exact ih e nb'
      | bk e3 h3 => intro _ nb0; exact absurd rfl (nb0 e3 h3)
      | rt _ _ => intro e; cases e
      | ex _ _ _ _ => intro e; cases e
      | no => intro e; cases e
end
/-! ### dicts whose keys are numbers from nought -/
def lookN {A : Type} (d : List (Nat × A)) (k : Nat) : Option A := (d.find? fun p => decide (p.1 = k)).map (·.2)
def dkN {A : Type} (f : A → D) (d : List (Nat × A)) : List (DKey × D) := d.map fun p => (Sum.inl (p.1 : Int), f p.2)
theorem valKD_dkN {A : Type} {f : A → D} (k : Nat) : ∀ (d : List (Nat × A)), valKD (dkN f d) (Sum.inl (k : Int)) = (lookN d k).map f
  | [] => rfl
  | p :: d => by
    have ih := valKD_dkN (f := f) k d
    unfold valKD lookN at *
    unfold dkN at *
    rw [List.map_cons, List.find?_cons, List.find?_cons]
    by_cases e : p.1 = k
    · have : (Sum.inl (p.1 : Int) : DKey) = Sum.inl (k : Int) := by rw [e]
      simp [e]
    · have : ¬ ((Sum.inl (p.1 : Int) : DKey) = Sum.inl (k : Int)) := fun z => e (by injection z with z; omega)
      simp only [decide_eq_false this, decide_eq_false e]
      exact ih
theorem putKD_dkN {A : Type} {f : A → D} {k : Nat} {a : A} {d : List (Nat × A)} (e : lookN d k = none) : putKD (dkN f d) (Sum.inl (k : Int)) (f a) = dkN f (d ++ [(k, a)]) := by
  have h : ((dkN f d).any fun p => decide (p.1 = (Sum.inl (k : Int) : DKey))) = false := by
    rw [List.any_eq_false]
    intro p hp
    obtain ⟨q, hq, rfl⟩ := List.mem_map.mp hp
    simp only [decide_eq_true_eq]
    intro z
    injection z with z
    have : q.1 = k := by omega
    unfold lookN at e
    rw [Option.map_eq_none_iff, List.find?_eq_none] at e
    exact e q hq (by simpa using this)
  unfold putKD
  rw [h, if_neg Bool.false_ne_true]
  simp [dkN]
theorem lookN_none {A : Type} {d : List (Nat × A)} {k : Nat} : lookN d k = none ↔ k ∉ d.map (·.1) := by
  unfold lookN
  rw [Option.map_eq_none_iff, List.find?_eq_none]
  simp only [decide_eq_true_eq, List.mem_map, not_exists, not_and]
theorem lookN_some {A : Type} {d : List (Nat × A)} {k : Nat} {a : A} (e : lookN d k = some a) : (k, a) ∈ d := by
  unfold lookN at e
  rw [Option.map_eq_some_iff] at e
  obtain ⟨p, h1, h2⟩ := e
  have h3 := List.mem_of_find?_eq_some h1
  have h4 := List.find?_some h1
  simp only [decide_eq_true_eq] at h4
  subst h2
  subst h4
  exact h3
theorem lookN_app {A : Type} {d e : List (Nat × A)} {k : Nat} : lookN (d ++ e) k = match lookN d k with | some a => some a | none => lookN e k := by
  unfold lookN
  rw [List.find?_append]
  cases d.find? fun p => decide (p.1 = k) <;> rfl
@[simp] theorem dkN_len {A : Type} {f : A → D} {d : List (Nat × A)} : (dkN f d).length = d.length := by simp [dkN]
theorem dDIn_dk {A : Type} {f : A → D} {h : IH} {n k : Nat} {neg : Bool} {d : List (Nat × A)} (e : h[n]? = some (.dk (dkN f d))) : dDIn neg (.int (k : Nat)) (.ref n) h = .ok (.bl (if neg then (lookN d k).isNone else (lookN d k).isSome)) h := by
  unfold dDIn dGet?
  simp only [e, keyD?, Option.map_some, valKD_dkN, Option.isSome_map]
  cases lookN d k <;> rfl
theorem dDGet_dk {A : Type} {f : A → D} {h : IH} {n k : Nat} {d : List (Nat × A)} {a : A} (e : h[n]? = some (.dk (dkN f d))) (l : lookN d k = some a) : dDGet (.ref n) (.int (k : Nat)) h = .ok (f a) h := by
  unfold dDGet dGet?
  simp only [e, keyD?, Option.map_some, valKD_dkN, l]
theorem putDD_dk {A : Type} {f : A → D} {h : IH} {n k : Nat} {d : List (Nat × A)} {a : A} (e : h[n]? = some (.dk (dkN f d))) (l : lookN d k = none) (hl : d.length < 10000000) : putDD (.ref n) (.int (k : Nat)) (f a) h = some (h.set n (.dk (dkN f (d ++ [(k, a)])))) := by
  unfold putDD
  simp only [e, keyD?, dkN_len, if_pos hl, putKD_dkN l]
@[simp] theorem ap_msSetD {mo mi me : ME} {env : EV} {h : IH} : msSetD mo mi me env h = (me env h).bindS env fun v h1 => (mo env h1).bindS env fun o h2 => (mi env h2).bindS env fun i h3 => match putDD o i v h3 with
  | some h4 => .nx env h4
  | none => .no := rfl
@[simp] theorem ap_mDGet1 {mo mi : ME} {env : EV} {h : IH} : mDGet1 mo mi env h = (mo env h).bind fun x h1 => if isDD h1 x = true then (mi env h1).bind fun y h2 => dDGet1 x y h2 else .no := rfl
@[simp] theorem ap_mDictT {env : EV} {h : IH} : mDictT env h = .ok (.ref h.length) (h ++ [.dt []]) := rfl
theorem ap_mDict1 {mk mv : ME} {env : EV} {h : IH} {k v : D} {kd : DKey} (e1 : mk env (h ++ [.dk []]) = .ok k (h ++ [.dk []])) (e2 : mv env (h ++ [.dk []]) = .ok v (h ++ [.dk []])) (e3 : keyD? k = some kd) : mDict [(mk, mv)] env h = .ok (.ref h.length) (h ++ [.dk [(kd, v)]]) := by
  unfold mDict mPr
  rw [e1]
  simp only [bind_ok]
  rw [e2]
  simp [mPr, keyPs, e3, dkAt, putKD]
@[simp] theorem ap_iRange3 {ta : MA} {env : EV} {h : IH} : iRange3 ta env h = (ta env h).bind fun xs h1 => match xs with
  | [.int i, .int j, .int c] => if c = -1 ∧ -10000000 ≤ i ∧ i ≤ 10000000 ∧ -10000000 ≤ j ∧ j ≤ 10000000 then .ok (.st (intsDown i (i - j).toNat)) h1 else .no
  | _ => .no := rfl
/-- signs beside the rooms of a row -/
def zD (t row : List Nat) : List D := List.zipWith (fun x y : D => D.tup [x, y]) (t.map fun c => .str [c]) (row.map nD)
@[simp] theorem zD_len {t row : List Nat} : (zD t row).length = min t.length row.length := by simp [zD]
theorem zip_get {t row : List Nat} {i : Nat} {d : D} (e : (zD t row)[i]? = some d) : ∃ c s, t[i]? = some c ∧ row[i]? = some s ∧ d = .tup [.str [c], .int (s : Nat)] := by
  unfold zD at e
  rw [List.getElem?_zipWith] at e
  simp only [List.getElem?_map] at e
  cases q1 : t[i]? with
  | none => rw [q1] at e; cases e
  | some c =>
    cases q2 : row[i]? with
    | none => rw [q1, q2] at e; cases e
    | some s => rw [q1, q2] at e; cases e; exact ⟨c, s, rfl, rfl, rfl⟩
def zP (p : Nat × Nat) : D := .tup [.str [p.1], nD p.2]
theorem zD_eq : ∀ {t row : List Nat}, zD t row = (t.zip row).map zP
  | [], _ => rfl
  | _ :: _, [] => rfl
  | c :: t, s :: row => by
    have := zD_eq (t := t) (row := row)
    unfold zD at *
    simp [this, zP]
theorem intsFrom_succ {lo : Int} {n : Nat} : intsFrom lo (n + 1) = .int lo :: intsFrom (lo + 1) n := by
  unfold intsFrom
  rw [List.range_succ_eq_map, List.map_cons, List.map_map]
  congr 1
  · simp
  · refine List.map_congr_left fun i _ => ?_
    show D.int _ = D.int _
    congr 1
    simp only [Nat.succ_eq_add_one, Int.natCast_add, Int.natCast_one]
    omega
@[simp] theorem ap_msBreak {env : EV} {h : IH} : msBreak env h = .bk env h := rfl
@[simp] theorem ap_msCont {env : EV} {h : IH} : msCont env h = .ct env h := rfl
@[simp] theorem ap_msRetN {env : EV} {h : IH} : msRetN env h = .rt .non h := rfl
end NR

set_option Elab.async false
set_option linter.all false
set_option maxRecDepth 100000
set_option maxHeartbeats 4000000
namespace NR
open PySem PySem.Spec PyProof.Rows L2
/-! ### numbered by first occurrence (plain) -/
theorem sub_len {A : Type} [DecidableEq A] : ∀ (l m : List A), l.Nodup → (∀ x ∈ l, x ∈ m) → l.length ≤ m.length
  | [], m, _, _ => by simp
  | a :: l, m, nd, hs => by
    have ha := hs a List.mem_cons_self
    have := sub_len l (m.erase a) (List.nodup_cons.mp nd).2 fun x hx => by
      have ne : x ≠ a := fun z => (List.nodup_cons.mp nd).1 (z ▸ hx)
      exact (List.mem_erase_of_ne ne).mpr (hs x (List.mem_cons_of_mem _ hx))
    have h2 := List.length_erase_of_mem ha
    have h3 := List.length_pos_of_mem ha
    simp
    omega
section
variable {κ κ' : Type} [DecidableEq κ] [DecidableEq κ']
def ddp : List κ → List κ → List κ
  | S, [] => S
  | S, k :: ks => ddp (if k ∈ S then S else S ++ [k]) ks
theorem ddp_pre : ∀ (ks S : List κ), S <+: ddp S ks
  | [], S => List.prefix_rfl
  | k :: ks, S => by
    rw [ddp]
    split
    · exact ddp_pre ks S
    · exact (List.prefix_append S [k]).trans (ddp_pre ks (S ++ [k]))
theorem ddp_mem : ∀ {ks S : List κ} {x : κ}, x ∈ ddp S ks ↔ x ∈ S ∨ x ∈ ks
  | [], S, x => by simp [ddp]
  | k :: ks, S, x => by
    rw [ddp, ddp_mem]
    split
    · rename_i q
      simp only [List.mem_cons]
      constructor
      · rintro (a | a)
        · exact .inl a
        · exact .inr (.inr a)
      · rintro (a | rfl | a)
        · exact .inl a
        · exact .inl q
        · exact .inr a
    · simp only [List.mem_append, List.mem_cons, List.not_mem_nil, or_false]
      constructor
      · rintro ((a | a) | a)
        · exact .inl a
        · exact .inr (.inl a)
        · exact .inr (.inr a)
      · rintro (a | a | a)
        · exact .inl (.inl a)
        · exact .inl (.inr a)
        · exact .inr a
theorem nd_snoc {S : List κ} {k : κ} (h : S.Nodup) (q : k ∉ S) : (S ++ [k]).Nodup := List.nodup_append.mpr ⟨h, by simp, fun a ha b hb => by
  simp at hb
  subst hb
  exact fun z => q (z ▸ ha)⟩
theorem ddp_nodup : ∀ {ks S : List κ}, S.Nodup → (ddp S ks).Nodup
  | [], S, h => h
  | k :: ks, S, h => by
    rw [ddp]
    split
    · exact ddp_nodup h
    · rename_i q
      exact ddp_nodup (nd_snoc h q)
theorem ddp_app : ∀ (a b S : List κ), ddp S (a ++ b) = ddp (ddp S a) b
  | [], b, S => rfl
  | k :: a, b, S => by
    rw [List.cons_append, ddp, ddp]
    exact ddp_app a b _
theorem idx_pre {S S' : List κ} {k : κ} (p : S <+: S') (h : k ∈ S) : S'.idxOf k = S.idxOf k := by
  obtain ⟨t, rfl⟩ := p
  rw [List.idxOf_append, if_pos h]
def numB (ks : List κ) : List Nat := ks.map fun k => (ddp [] ks).idxOf k
def nCls (ks : List κ) : Nat := (ddp [] ks).length
theorem numB_len {ks : List κ} : (numB ks).length = ks.length := List.length_map ..
theorem mem_ddp {ks : List κ} {k : κ} (h : k ∈ ks) : k ∈ ddp [] ks := ddp_mem.mpr (.inr h)
theorem idx_inj {l : List κ} {a b : κ} (ha : a ∈ l) (hb : b ∈ l) (e : l.idxOf a = l.idxOf b) : a = b := by
  have h1 := List.getElem_idxOf (List.idxOf_lt_length_iff.mpr ha)
  have h2 := List.getElem_idxOf (List.idxOf_lt_length_iff.mpr hb)
  rw [← h1, ← h2]
  congr 1
theorem numB_get {ks : List κ} {i : Nat} {a : κ} (ha : ks[i]? = some a) : (numB ks)[i]? = some ((ddp [] ks).idxOf a) := by
  unfold numB
  rw [List.getElem?_map, ha]
  rfl
theorem numB_getD {ks : List κ} {i : Nat} {a : κ} (ha : ks[i]? = some a) : (numB ks).getD i 0 = (ddp [] ks).idxOf a := by
  rw [List.getD_eq_getElem?_getD, numB_get ha]
  rfl
theorem numB_eq {ks : List κ} {i j : Nat} {a b : κ} (ha : ks[i]? = some a) (hb : ks[j]? = some b) : (numB ks).getD i 0 = (numB ks).getD j 0 ↔ a = b := by
  rw [numB_getD ha, numB_getD hb]
  constructor
  · exact idx_inj (mem_ddp (List.mem_of_getElem? ha)) (mem_ddp (List.mem_of_getElem? hb))
  · rintro rfl; rfl
theorem ddp_snoc {ks : List κ} {k : κ} : ddp [] (ks ++ [k]) = if k ∈ ks then ddp [] ks else ddp [] ks ++ [k] := by
  rw [ddp_app]
  show (if k ∈ ddp [] ks then ddp [] ks else ddp [] ks ++ [k]) = _
  have : k ∈ ddp [] ks ↔ k ∈ ks := by rw [ddp_mem]; simp
  by_cases q : k ∈ ks
  · rw [if_pos q, if_pos (this.mpr q)]
  · rw [if_neg q, if_neg (fun z => q (this.mp z))]
theorem numB_snoc {ks : List κ} {k : κ} : numB (ks ++ [k]) = numB ks ++ [if k ∈ ks then (ddp [] ks).idxOf k else nCls ks] := by
  unfold numB
  rw [List.map_append, List.map_cons, List.map_nil]
  congr 1
  · refine List.map_congr_left fun x hx => ?_
    exact idx_pre (by rw [ddp_app]; exact ddp_pre _ _) (mem_ddp hx)
  · rw [ddp_snoc]
    by_cases q : k ∈ ks
    · rw [if_pos q, if_pos q]
    · rw [if_neg q, if_neg q]
      have : k ∉ ddp [] ks := fun z => by
        rcases ddp_mem.mp z with z | z
        · simp at z
        · exact q z
      rw [List.idxOf_append, if_neg this]
      simp [nCls]
theorem nCls_snoc {ks : List κ} {k : κ} : nCls (ks ++ [k]) = if k ∈ ks then nCls ks else nCls ks + 1 := by
  unfold nCls
  rw [ddp_snoc]
  split
  · rfl
  · simp
/-- the same pattern, the same numbers -/
theorem numB_congr {ks : List κ} {ks' : List κ'} (hl : ks.length = ks'.length) (hp : ∀ (i j : Nat) (a b : κ) (a' b' : κ'), ks[i]? = some a → ks[j]? = some b → ks'[i]? = some a' → ks'[j]? = some b' → (a = b ↔ a' = b')) : numB ks = numB ks' ∧ nCls ks = nCls ks' := by
  have main : ∀ m, m ≤ ks.length → numB (ks.take m) = numB (ks'.take m) ∧ nCls (ks.take m) = nCls (ks'.take m) := by
    intro m
    induction m with
    | zero => intro _; exact ⟨rfl, rfl⟩
    | succ m ih =>
      intro hm
      obtain ⟨e1, e2⟩ := ih (by omega)
      have h1 : ks[m]? = some ks[m] := List.getElem?_eq_getElem (by omega)
      have h2 : ks'[m]? = some ks'[m] := List.getElem?_eq_getElem (by omega)
      generalize ks[m] = a at *
      generalize ks'[m] = a' at *
      have t1 : ks.take (m + 1) = ks.take m ++ [a] := by rw [List.take_add_one, h1]; rfl
      have t2 : ks'.take (m + 1) = ks'.take m ++ [a'] := by rw [List.take_add_one, h2]; rfl
      have mm : ∀ j, j < m → (ks.take m)[j]? = ks[j]? := fun j hj => by rw [List.getElem?_take, if_pos hj]
      have mm' : ∀ j, j < m → (ks'.take m)[j]? = ks'[j]? := fun j hj => by rw [List.getElem?_take, if_pos hj]
      rw [t1, t2, numB_snoc, numB_snoc, nCls_snoc, nCls_snoc, e1, e2]
      by_cases q : a ∈ ks.take m
      · obtain ⟨j, hj⟩ := List.mem_iff_getElem?.mp q
        have jm : j < m := by
          have := (List.getElem?_eq_some_iff.mp hj).1
          rw [List.length_take] at this
          omega
        have hj0 := hj
        rw [mm j jm] at hj
        have h3 : ks'[j]? = some ks'[j] := List.getElem?_eq_getElem (by omega)
        have e3 := (hp m j a a a' _ h1 hj h2 h3).mp rfl
        rw [← e3] at h3
        have h3' : (ks'.take m)[j]? = some a' := by rw [mm' j jm]; exact h3
        have q' : a' ∈ ks'.take m := List.mem_of_getElem? h3'
        rw [if_pos q, if_pos q', if_pos q, if_pos q']
        refine ⟨?_, rfl⟩
        have g1 := numB_get hj0
        have g2 := numB_get h3'
        rw [e1, g2] at g1
        injection g1 with g1
        rw [g1]
      · have q' : a' ∉ ks'.take m := fun z => by
          obtain ⟨j, hj⟩ := List.mem_iff_getElem?.mp z
          have jm : j < m := by
            have := (List.getElem?_eq_some_iff.mp hj).1
            rw [List.length_take] at this
            omega
          rw [mm' j jm] at hj
          have h3 : ks[j]? = some ks[j] := List.getElem?_eq_getElem (by omega)
          have e3 := (hp m j a _ a' a' h1 h3 h2 hj).mpr rfl
          rw [← e3] at h3
          exact q (List.mem_of_getElem? (by rw [mm j jm]; exact h3))
        rw [if_neg q, if_neg q', if_neg q, if_neg q']
        exact ⟨rfl, rfl⟩
  have := main ks.length (Nat.le_refl _)
  rw [List.take_length] at this
  rw [hl, List.take_length] at this
  exact this
theorem numB_map {f : κ → κ'} (inj : ∀ a b, f a = f b → a = b) {ks : List κ} : numB (ks.map f) = numB ks ∧ nCls (ks.map f) = nCls ks := by
  have := numB_congr (ks := ks) (ks' := ks.map f) (by simp) (fun i j a b a' b' h1 h2 h3 h4 => by
    rw [List.getElem?_map, h1] at h3
    rw [List.getElem?_map, h2] at h4
    cases h3
    cases h4
    exact ⟨fun z => by rw [z], inj a b⟩)
  exact ⟨this.1.symm, this.2.symm⟩
theorem numB_can (ks : List κ) : numB (numB ks) = numB ks ∧ nCls (numB ks) = nCls ks := by
  have := numB_congr (ks := ks) (ks' := numB ks) numB_len.symm (fun i j a b a' b' h1 h2 h3 h4 => by
    have g := numB_eq h1 h2
    rw [List.getD_eq_getElem?_getD, List.getD_eq_getElem?_getD, h3, h4] at g
    exact g.symm)
  exact ⟨this.1.symm, this.2.symm⟩
theorem numB_lt {ks : List κ} {m : Nat} (h : m ∈ numB ks) : m < nCls ks := by
  obtain ⟨k, hk, rfl⟩ := List.mem_map.mp h
  exact List.idxOf_lt_length_iff.mpr (mem_ddp hk)
theorem nCls_le {ks : List κ} : nCls ks ≤ ks.length := sub_len _ _ (ddp_nodup List.nodup_nil) fun x hx => by
  rcases ddp_mem.mp hx with z | z
  · simp at z
  · exact z
theorem nCls_pos {ks : List κ} (h : ks ≠ []) : 1 ≤ nCls ks := by
  cases ks with
  | nil => exact absurd rfl h
  | cons k ks => exact List.length_pos_of_mem (mem_ddp List.mem_cons_self)
theorem idx_nodup {l : List κ} (nd : l.Nodup) {c : Nat} {k : κ} (e : l[c]? = some k) : l.idxOf k = c := by
  obtain ⟨h1, h2⟩ := List.getElem?_eq_some_iff.mp e
  rw [← h2]
  exact nd.idxOf_getElem c h1
theorem numB_all {ks : List κ} {c : Nat} (h : c < nCls ks) : c ∈ numB ks := by
  have e : (ddp [] ks)[c]? = some (ddp [] ks)[c] := List.getElem?_eq_getElem h
  have hm := List.getElem_mem h
  rcases ddp_mem.mp hm with z | z
  · simp at z
  · exact List.mem_map.mpr ⟨_, z, idx_nodup (ddp_nodup List.nodup_nil) e⟩
end
/-! marks that are numbered by first occurrence -/
def Can (M : List Nat) : Prop := numB M = M
theorem can_ddp {M : List Nat} (h : Can M) : ddp [] M = List.range (nCls M) := by
  apply List.ext_getElem?
  intro c
  by_cases hc : c < nCls M
  · rw [List.getElem?_range hc]
    have e : (ddp [] M)[c]? = some (ddp [] M)[c] := List.getElem?_eq_getElem hc
    have hm : (ddp [] M)[c] ∈ M := by
      rcases ddp_mem.mp (List.getElem_mem (l := ddp [] M) hc) with z | z
      · simp at z
      · exact z
    rw [e]
    congr 1
    generalize (ddp [] M)[c] = d at *
    have i1 := idx_nodup (ddp_nodup List.nodup_nil) e
    obtain ⟨i, hi⟩ := List.mem_iff_getElem?.mp hm
    have g := numB_get hi
    rw [show numB M = M from h, hi] at g
    injection g with g
    omega
  · rw [List.getElem?_eq_none (by unfold nCls at hc; omega), List.getElem?_eq_none (by rw [List.length_range]; omega)]
/-- a mark is one that was there, or the next one -/
theorem can_next {M : List Nat} (h : Can M) {i m : Nat} (e : M[i]? = some m) : (m ∈ M.take i ∧ m < nCls (M.take i)) ∨ (m ∉ M.take i ∧ m = nCls (M.take i)) := by
  have hi := (List.getElem?_eq_some_iff.mp e).1
  have g := numB_get e
  rw [show numB M = M from h, e] at g
  injection g with g
  have ht : M = M.take i ++ (m :: M.drop (i + 1)) := by
    have e2 : M[i] = m := (List.getElem?_eq_some_iff.mp e).2
    rw [← e2, ← List.drop_eq_getElem_cons hi, List.take_append_drop]
  have ht2 : M = (M.take i ++ [m]) ++ M.drop (i + 1) := by
    rw [List.append_assoc]
    exact ht
  by_cases q : m ∈ M.take i
  · refine .inl ⟨q, ?_⟩
    have p : ddp [] (M.take i) <+: ddp [] M := by
      conv => rhs; rw [ht, ddp_app]
      exact ddp_pre _ _
    rw [idx_pre p (mem_ddp q)] at g
    have := List.idxOf_lt_length_iff.mpr (mem_ddp q)
    unfold nCls
    omega
  · refine .inr ⟨q, ?_⟩
    have p : ddp [] (M.take i ++ [m]) <+: ddp [] M := by
      conv => rhs; rw [ht2, ddp_app]
      exact ddp_pre _ _
    have hm : m ∈ ddp [] (M.take i ++ [m]) := mem_ddp (by simp)
    rw [idx_pre p hm, ddp_snoc, if_neg q] at g
    have : m ∉ ddp [] (M.take i) := fun z => by
      rcases ddp_mem.mp z with z | z
      · simp at z
      · exact q z
    rw [List.idxOf_append, if_neg this] at g
    simpa [nCls] using g
/-! ### finer -/
def keyL (goes : List (List Nat)) (M : List Nat) : List (List Nat) := goes.mapIdx fun i row => M.getD i 0 :: row.map fun t => M.getD t 0
def finB (goes : List (List Nat)) (M : List Nat) : List Nat := numB (keyL goes M)
section
variable {goes : List (List Nat)} {kinds : List Int} {M : List Nat} {S : Nat}
theorem keyL_len : (keyL goes M).length = goes.length := List.length_mapIdx
theorem keyL_get {i : Nat} (h : i < goes.length) : (keyL goes M)[i]? = some (M.getD i 0 :: (goes.getD i []).map fun t => M.getD t 0) := by
  unfold keyL
  rw [List.getElem?_mapIdx, List.getElem?_eq_getElem h, List.getD_eq_getElem?_getD (l := goes), List.getElem?_eq_getElem h]
  rfl
theorem finB_len : (finB goes M).length = goes.length := by unfold finB; rw [numB_len, keyL_len]
theorem finB_eq {i j : Nat} (hi : i < goes.length) (hj : j < goes.length) : (finB goes M).getD i 0 = (finB goes M).getD j 0 ↔ (M.getD i 0 = M.getD j 0 ∧ (goes.getD i []).map (fun t => M.getD t 0) = (goes.getD j []).map fun t => M.getD t 0) := by
  unfold finB
  rw [numB_eq (keyL_get hi) (keyL_get hj), List.cons.injEq]
theorem getD_mem {l : List Nat} {i : Nat} (h : i < l.length) : l.getD i 0 ∈ l := by
  rw [List.getD_eq_getElem?_getD, List.getElem?_eq_getElem h]
  exact List.getElem_mem h
theorem get_getD {l : List Nat} {i : Nat} (h : i < l.length) : l[i]? = some (l.getD i 0) := by
  rw [List.getD_eq_getElem?_getD, List.getElem?_eq_getElem h]
  rfl
/-- no fewer classes -/
theorem fin_ge (ml : M.length = goes.length) : nCls M ≤ nCls (finB goes M) := by
  rw [show nCls (finB goes M) = nCls (keyL goes M) from (numB_can _).2]
  have : (ddp [] M).length ≤ ((ddp [] (keyL goes M)).map fun k => k.headD 0).length := sub_len _ _ (ddp_nodup List.nodup_nil) fun x hx => by
    have hm : x ∈ M := by
      rcases ddp_mem.mp hx with z | z
      · simp at z
      · exact z
    obtain ⟨i, hi⟩ := List.mem_iff_getElem?.mp hm
    have il := (List.getElem?_eq_some_iff.mp hi).1
    have e := keyL_get (goes := goes) (M := M) (i := i) (by omega)
    refine List.mem_map.mpr ⟨_, mem_ddp (List.mem_of_getElem? e), ?_⟩
    rw [List.getD_eq_getElem?_getD, hi]
    rfl
  rw [List.length_map] at this
  exact this
/-- no more classes: the same marks -/
theorem fin_same (can : Can M) (ml : M.length = goes.length) (hc : nCls (finB goes M) = nCls M) : finB goes M = M := by
  have hc2 : nCls (keyL goes M) = nCls M := by rw [← hc]; exact (numB_can _).2.symm
  have inj : ∀ k1 k2, k1 ∈ ddp [] (keyL goes M) → k2 ∈ ddp [] (keyL goes M) → k1.headD 0 = k2.headD 0 → k1 = k2 := fun k1 k2 h1 h2 he => by
    by_cases q : k1 = k2
    · exact q
    · exfalso
      have : (ddp [] M).length ≤ (((ddp [] (keyL goes M)).erase k1).map fun k => k.headD 0).length := sub_len _ _ (ddp_nodup List.nodup_nil) fun x hx => by
        have hm : x ∈ M := by
          rcases ddp_mem.mp hx with z | z
          · simp at z
          · exact z
        obtain ⟨i, hi⟩ := List.mem_iff_getElem?.mp hm
        have il := (List.getElem?_eq_some_iff.mp hi).1
        have e := keyL_get (goes := goes) (M := M) (i := i) (by omega)
        have em := mem_ddp (List.mem_of_getElem? e)
        have hx2 : (M.getD i 0 :: (goes.getD i []).map fun t => M.getD t 0).headD 0 = x := by
          show M.getD i 0 = x
          rw [List.getD_eq_getElem?_getD, hi]
          rfl
        by_cases q2 : (M.getD i 0 :: (goes.getD i []).map fun t => M.getD t 0) = k1
        · refine List.mem_map.mpr ⟨k2, (List.mem_erase_of_ne (fun z => q z.symm)).mpr h2, ?_⟩
          rw [← he, ← q2, hx2]
        · exact List.mem_map.mpr ⟨_, (List.mem_erase_of_ne q2).mpr em, hx2⟩
      rw [List.length_map, List.length_erase_of_mem h1] at this
      have h3 := List.length_pos_of_mem h1
      unfold nCls at hc2
      omega
  have := (numB_congr (ks := keyL goes M) (ks' := M) (by rw [keyL_len, ml]) (fun i j a b a' b' h1 h2 h3 h4 => by
    have il : i < goes.length := by rw [← keyL_len (M := M)]; exact (List.getElem?_eq_some_iff.mp h1).1
    have jl : j < goes.length := by rw [← keyL_len (M := M)]; exact (List.getElem?_eq_some_iff.mp h2).1
    have ea := keyL_get (goes := goes) (M := M) il
    have eb := keyL_get (goes := goes) (M := M) jl
    rw [h1] at ea
    rw [h2] at eb
    injection ea with ea
    injection eb with eb
    have ha : a.headD 0 = a' := by rw [ea]; show M.getD i 0 = a'; rw [List.getD_eq_getElem?_getD, h3]; rfl
    have hb : b.headD 0 = b' := by rw [eb]; show M.getD j 0 = b'; rw [List.getD_eq_getElem?_getD, h4]; rfl
    constructor
    · rintro rfl; rw [← ha, ← hb]
    · intro e
      exact inj a b (mem_ddp (List.mem_of_getElem? h1)) (mem_ddp (List.mem_of_getElem? h2)) (by rw [ha, hb, e]))).1
  unfold finB
  rw [this]
  exact can
/-- what words cannot tell apart, step by step -/
def Bis (goes : List (List Nat)) (kinds : List Int) (E : Nat → Nat → Prop) : Prop := ∀ i j, E i j → i < goes.length ∧ j < goes.length ∧ kinds.getD i 0 = kinds.getD j 0 ∧ ∀ s, E ((goes.getD i []).getD s 0) ((goes.getD j []).getD s 0) ∨ (goes.getD i []).length ≤ s
/-- marks so far: kinds are told, nothing is told apart that words don't -/
structure MkM (goes : List (List Nat)) (kinds : List Int) (M : List Nat) : Prop where
  len : M.length = goes.length
  can : Can M
  kd : ∀ i j, i < goes.length → j < goes.length → M.getD i 0 = M.getD j 0 → kinds.getD i 0 = kinds.getD j 0
  co : ∀ E, Bis goes kinds E → ∀ i j, E i j → M.getD i 0 = M.getD j 0
structure ClsM (goes : List (List Nat)) (kinds : List Int) (M : List Nat) : Prop extends MkM goes kinds M where
  st : finB goes M = M
theorem mk_first (kl : kinds.length = goes.length) : MkM goes kinds (numB kinds) := by
  have gk : ∀ i, i < goes.length → kinds[i]? = some (kinds.getD i 0) := fun i hi => by
    rw [List.getD_eq_getElem?_getD, List.getElem?_eq_getElem (by omega)]
    rfl
  refine ⟨by rw [numB_len, kl], (numB_can _).1, fun i j hi hj e => (numB_eq (gk i hi) (gk j hj)).mp e, fun E hE i j e => ?_⟩
  obtain ⟨hi, hj, hk, _⟩ := hE i j e
  exact (numB_eq (gk i hi) (gk j hj)).mpr hk
theorem mk_finer (row : ∀ r ∈ goes, r.length = S) (k : MkM goes kinds M) : MkM goes kinds (finB goes M) := by
  refine ⟨finB_len, (numB_can _).1, fun i j hi hj e => k.kd i j hi hj ((finB_eq hi hj).mp e).1, fun E hE i j e => ?_⟩
  obtain ⟨hi, hj, hk, hs⟩ := hE i j e
  have rl : ∀ i, i < goes.length → (goes.getD i []).length = S := fun i hi => by
    rw [List.getD_eq_getElem?_getD, List.getElem?_eq_getElem hi]
    exact row _ (List.getElem_mem hi)
  refine (finB_eq hi hj).mpr ⟨k.co E hE i j e, ?_⟩
  apply List.ext_getElem?
  intro s
  rw [List.getElem?_map, List.getElem?_map]
  have li := rl i hi
  have lj := rl j hj
  by_cases q : s < S
  · rw [get_getD (by omega : s < (goes.getD i []).length), get_getD (by omega : s < (goes.getD j []).length)]
    rcases hs s with h | h
    · show some _ = some _
      show some (M.getD _ 0) = some (M.getD _ 0)
      rw [k.co E hE _ _ h]
    · omega
  · rw [List.getElem?_eq_none (by omega), List.getElem?_eq_none (by omega)]
theorem ClsM.step (c : ClsM goes kinds M) (row : ∀ r ∈ goes, r.length = S) {i j : Nat} (hi : i < goes.length) (hj : j < goes.length) (e : M.getD i 0 = M.getD j 0) : (goes.getD i []).map (fun t => M.getD t 0) = (goes.getD j []).map fun t => M.getD t 0 := by
  have : (finB goes M).getD i 0 = (finB goes M).getD j 0 := by rw [c.st]; exact e
  exact ((finB_eq hi hj).mp this).2
/-- the greatest mark -/
theorem can_max (can : Can M) (ne : M ≠ []) : (∀ m ∈ M, m < nCls M) ∧ nCls M - 1 ∈ M := by
  refine ⟨fun m hm => numB_lt (by rw [show numB M = M from can]; exact hm), ?_⟩
  have := numB_all (ks := M) (c := nCls M - 1) (by have := nCls_pos ne; omega)
  rw [show numB M = M from can] at this
  exact this
end
end NR

set_option Elab.async false
set_option linter.all false
set_option maxRecDepth 100000
/-! Lists compared by < -/
namespace NR
open PySem PySem.Spec PyProof.Rows L2
def rLtL (K : PySem.W.Frag) : R2 := fun x y H Q => ∃ d e, Dp K H x d ∧ Dp K H y e ∧ PySem.W.alike d e = true ∧ d ≠ .none ∧ d.depth ≤ 50 ∧ Q (.bl (PySem.W.dataLt d e)) H
theorem op_ltL {X : Cx} (hu : X.A.units + 64 < cLine) : OpR X (compareOp .Lt) (rLtL X.K) := by
  intro pins s σ H x y v u Q I rx ry h
  obtain ⟨d, e, hd, he, al, dn, dd, q⟩ := h
  obtain ⟨as, r1⟩ := Dp.reads I d x v hd rx
  obtain ⟨bs, r2⟩ := Dp.reads I e y u he ry
  exact PySem.W.lt_data r1 r2 al dn (by omega) ⟨.bl _, H, I, rfl, q⟩
def dLtL : D → D → IH → R D := fun x y h => match D.py h 50 x, D.py h 50 y with
  | some (.list a), some (.list b) => if PySem.W.alike (.list a) (.list b) = true then .ok (.bl (PySem.W.dataLt (.list a) (.list b))) h else .no
  | _, _ => .no
theorem dLtL_ok {X : Cx} {G : Cf} (hK : X.K = G.K) : OpS G (rLtL X.K) dLtL := by
  intro et H h x y v w W Q rx ry R p
  unfold dLtL at p
  split at p
  · rename_i d1 d2 e1 e2
    split at p
    · rename_i al
      obtain ⟨a1, a2, a3⟩ := py_ok R 50 x v _ e1 rx
      obtain ⟨b1, b2, b3⟩ := py_ok R 50 y w _ e2 ry
      rw [hK]
      exact ⟨_, _, a1, b1, al, by simp, a3, p.here R _ (by simp)⟩
    · exact p.elim
  · exact p.elim
theorem lt_toks : ∀ (ns ms : List Int), PyProof.Rows.lexLt PyProof.Rows.itemOrd (PySem.W.keyToksAll (ns.map PyData.int)) (PySem.W.keyToksAll (ms.map PyData.int)) = HT.lexLt ns ms
  | [], [] => rfl
  | [], m :: ms => rfl
  | n :: ns, [] => rfl
  | n :: ns, m :: ms => by
    rw [List.map_cons, List.map_cons, PySem.W.keyToksAll, PySem.W.keyToksAll, PyProof.Rows.lex_self, PySem.W.keyToks, PySem.W.keyToks]
    show PyProof.Rows.lexLt PyProof.Rows.itemOrd (.inl n :: _) (.inl m :: _) = _
    unfold HT.lexLt
    by_cases e : n = m
    · subst e
      rw [PyProof.Rows.lex_self, if_pos rfl]
      exact lt_toks ns ms
    · rw [if_neg e]
      exact PyProof.Rows.lex_diff (O := PyProof.Rows.itemOrd) (x := Sum.inl n) (y := Sum.inl m) (by intro z; injection z with z; exact e z)
theorem alike_ints : ∀ (ns ms : List Int), PySem.W.alikeAll (ns.map PyData.int) (ms.map PyData.int) = true
  | [], _ => by simp [PySem.W.alikeAll]
  | n :: ns, [] => by simp [PySem.W.alikeAll]
  | n :: ns, m :: ms => by simp [PySem.W.alikeAll, PySem.W.alike, alike_ints ns ms]
theorem py_ints {h : IH} {k : Nat} : ∀ (ns : List Int), allM (D.py h (k + 1)) (ns.map D.int) = some (ns.map PyData.int)
  | [] => rfl
  | n :: ns => by
    rw [List.map_cons, allM, py_ints ns]
    rfl
theorem dLtL_ints {ns ms : List Int} {h : IH} : dLtL (.fl (ns.map D.int)) (.fl (ms.map D.int)) h = .ok (.bl (HT.lexLt ns ms)) h := by
  have e1 : ∀ xs : List Int, D.py h 50 (.fl (xs.map D.int)) = some (.list (xs.map PyData.int)) := fun xs => by
    show (allM (D.py h 49) (xs.map D.int)).map PyData.list = _
    rw [py_ints (k := 48)]
    rfl
  unfold dLtL
  rw [e1, e1]
  dsimp only
  have al : PySem.W.alike (.list (ns.map PyData.int)) (.list (ms.map PyData.int)) = true := by
    unfold PySem.W.alike
    exact alike_ints ns ms
  rw [if_pos al]
  unfold PySem.W.dataLt
  rw [PySem.W.keyToks, PySem.W.keyToks, lt_toks]
end NR

set_option Elab.async false
set_option linter.all false
set_option maxRecDepth 100000
/-! rfind and split of one sign; the place of a datum in a list. -/
namespace NR
open PySem PySem.Spec PyProof.Rows L2
def lstI (c : Nat) : List Nat → Option Nat
  | [] => none
  | d :: s => match lstI c s with
    | some i => some (i + 1)
    | none => if d = c then some 0 else none
theorem lstI_none {c : Nat} : ∀ {s : List Nat}, lstI c s = none ↔ ∀ k : Nat, s[k]? ≠ some c
  | [] => by simp [lstI]
  | d :: s => by
    unfold lstI
    constructor
    · intro h k
      cases e : lstI c s with
      | some i => rw [e] at h; cases h
      | none =>
        rw [e] at h
        by_cases q : d = c
        · simp [q] at h
        · cases k with
          | zero => simpa using q
          | succ k => simpa using lstI_none.mp e k
    · intro h
      have : lstI c s = none := lstI_none.mpr fun k => by simpa using h (k + 1)
      rw [this]
      have := h 0
      simp at this
      simp [this]
theorem lstI_some {c : Nat} : ∀ {s : List Nat} {i : Nat}, s[i]? = some c → (∀ k : Nat, i < k → s[k]? ≠ some c) → lstI c s = some i
  | [], i, h, _ => by simp at h
  | d :: s, 0, h, n => by
    have : lstI c s = none := lstI_none.mpr fun k => by simpa using n (k + 1) (by omega)
    unfold lstI
    rw [this]
    simp at h
    simp [h]
  | d :: s, i + 1, h, n => by
    have := lstI_some (s := s) (i := i) (by simpa using h) fun k hk => by simpa using n (k + 1) (by omega)
    unfold lstI
    rw [this]
def rfI (c : Nat) (s : List Nat) : Int := match lstI c s with
  | some i => (i : Int)
  | none => -1
open Builtin.Str StrLaws in
theorem rfind_one (s : List Nat) (c : Nat) : Txt.rfind (strV s) (strV [c]) = rfI c s := by
  have at_ : ∀ i, At (strV s) (strV [c]) (strV s).length i ↔ s[i]? = some c := fun i => by
    have := subAt_one (strV s) c i
    simpa [strV, At] using this
  unfold Txt.rfind rfI
  rcases last_spec (strV s) (strV [c]) with ⟨h1, h2⟩ | ⟨i, h1, h2, h3⟩
  · rw [h1, lstI_none.mpr fun k z => h2 k ((at_ k).mpr z)]
  · rw [h1, lstI_some ((at_ i).mp h2) fun k hk z => h3 k hk ((at_ k).mpr z)]
/-- the parts between -/
def spl1 (c : Nat) : List Nat → List (List Nat)
  | [] => [[]]
  | d :: s => if d = c then [] :: spl1 c s else match spl1 c s with
    | w :: r => (d :: w) :: r
    | [] => [[d]]
theorem spl1_ne (c : Nat) : ∀ s, ∃ w r, spl1 c s = w :: r
  | [] => ⟨[], [], rfl⟩
  | d :: s => by
    obtain ⟨w, r, e⟩ := spl1_ne c s
    unfold spl1
    rw [e]
    by_cases q : d = c
    · exact ⟨[], w :: r, by simp [q]⟩
    · exact ⟨d :: w, r, by simp [q]⟩
def fRfind : D → List D → IH → R D
  | .str s, [.str [c]], h => .ok (.int (rfI c s)) h
  | _, _, _ => .no
def fSplit : D → List D → IH → R D
  | .str s, [.str [c]], h => if c < 256 ∧ s.length ≤ 1000000 then .ok (.ref h.length) (h ++ [.lst ((spl1 c s).map D.str)]) else .no
  | _, _, _ => .no
def fIndexD : D → List D → IH → R D
  | x, [y], h => match D.py h 50 x, D.py h 49 y with
    | some (.list ds), some d => if SeqAt.shaped (.list ds) = true ∧ SeqAt.shaped d = true then (match ds.findIdx? (fun z => PyData.eqv z d) with
      | some j => .ok (.int (j : Nat)) h
      | none => .no) else .no
    | _, _ => .no
  | _, _, _ => .no
theorem spl_spl1 (c : Nat) : ∀ (s acc : List Nat), TL.spl [c] 0 acc s = match spl1 c s with
    | w :: r => (acc ++ w) :: r
    | [] => [acc]
  | [], acc => by simp [TL.spl, spl1]
  | d :: s, acc => by
    obtain ⟨w, r, e⟩ := spl1_ne c s
    unfold TL.spl spl1
    have pe : TL.pre [c] (d :: s) = decide (d = c) := by
      unfold TL.pre
      by_cases q : d = c <;> simp [q]
    rw [pe]
    by_cases q : d = c
    · rw [if_pos (by simpa using q), if_pos q]
      show acc :: TL.spl [c] 0 [] s = _
      rw [spl_spl1 c s [], e]
      simp
    · rw [if_neg (by simpa using q), if_neg q, spl_spl1 c s (acc ++ [d]), e]
      simp
theorem split_one (s : List Nat) (c : Nat) (hc : c < 256) : Txt.split (strV s) (strV [c]) = (spl1 c s).map strV := by
  apply TL.map_tl_inj
  rw [TL.split_spl (strV s) (strV [c]) (by simp [TL.tl, strV]) (TL.kind_ok (by simp [strV, hc]))]
  rw [List.map_map]
  have e1 : TL.tl (strV [c]) = [c] := rfl
  have e2 : TL.tl (strV s) = s := rfl
  rw [e1, e2, spl_spl1]
  obtain ⟨w, r, e⟩ := spl1_ne c s
  rw [e]
  have : (TL.tl ∘ strV) = id := by funext l; rfl
  rw [this, List.map_id]
  rfl
theorem units65 {k : Nat} {A : Around} (r : Room k A) : A.units + 65 < cLine := by have := r.un; have := r.units; unfold cLine at *; omega
section
variable {G : Cf}
theorem fRfind_ok : MethS G (fun x xs H Q => ∃ a b, x = .str a ∧ xs = [.str b] ∧ Q (.int (Txt.rfind a b)) H) fRfind := by
  intro et H h x v xs vs W Q rx rv R p
  unfold fRfind at p
  split at p
  · obtain ⟨w, rfl, r⟩ := list1 rv
    exact ⟨_, _, den_str.mp rx, by rw [den_str.mp r], p.here R _ (by rw [rfind_one]; simp)⟩
  · exact p.elim
theorem fSplit_ok : MethS G (fun x xs H Q => ∃ a b, x = .str a ∧ xs = [.str b] ∧ (b.length == 0) = false ∧ a.length + 2 ≤ sizeLine ∧ rNewStrs (Txt.split a b) H Q) fSplit := by
  intro et H h x v xs vs W Q rx rv R p
  unfold fSplit at p
  split at p
  · rename_i s c
    split at p
    · rename_i q
      obtain ⟨w, rfl, r⟩ := list1 rv
      refine ⟨_, _, den_str.mp rx, by rw [den_str.mp r], rfl, ?_, ?_⟩
      · rw [strV_length, sizeLine_eq]; omega
      · rw [split_one s c q.1]
        exact fun a ha => p.newL R DenL.ofStrs a ha
    · exact p.elim
  · exact p.elim
theorem fIndexD_ok : MethS G (rIndexD G.K) fIndexD := by
  intro et H h x v xs vs W Q rx rv R p
  unfold fIndexD at p
  split at p
  · rename_i y
    split at p
    · rename_i d1 d2 e1 e2
      split at p
      · rename_i q
        split at p
        · rename_i j ej
          obtain ⟨w, rfl, r⟩ := list1 rv
          obtain ⟨a1, a2, a3⟩ := py_ok R 50 x v _ e1 rx
          obtain ⟨b1, b2, b3⟩ := py_ok R 49 y w _ e2 r
          rw [List.findIdx?_eq_some_iff_getElem] at ej
          obtain ⟨hj, h1, h2⟩ := ej
          cases a1 with
          | lst hs ha =>
            exact ⟨_, w, d2, d1, j, d1[j], rfl, rfl, .lst hs ha, b1, q.1, q.2, List.getElem?_eq_getElem hj, h1, fun m z' hm hz => by
              obtain ⟨hm', ez⟩ := List.getElem?_eq_some_iff.mp hz
              subst ez
              simpa using h2 m hm, p.here R _ (by simp)⟩
        · exact p.elim
      · exact p.elim
    · exact p.elim
  · exact p.elim
end
theorem mt_w {X : Cx} {e : Expr} {w : TT} (h : PW X e w) : PT X e w := h.pt
section
open PySem.AutoSeq1 (wpAny_loadPart' sub_tuple_tuple sub_list_list sub_tuple_list sub_list_tuple idx_int)
open PySem.MeetsSeq PySem.MeetsSeq2 PySem.MeetsSeq3
theorem ext_tup (l b : Addr) (xs ys : Array Value) (n m : Nat) (dd : Option Addr) (sl : Array (Option Value)) (h0 : ¬(!xs.isEmpty && Builtin.List.listTooLong (xs.size + ys.size)) = true) (h1 : xs.size ≤ sizeLine) (h2 : xs.size + ys.size ≤ sizeLine + 1) :
    Meets (Builtin.«list.extend» ⟨[.ref l, .ref b], []⟩) (fun _ R s => s.heap.get? l = some { cls := .type "list", dict := none, data := .seq xs n, slots := #[] } ∧ s.heap.get? b = some { cls := .type "tuple", dict := dd, data := .seq ys m, slots := sl } ∧
      R (.ok (.ret Value.none)) { s with heap := s.heap.update l (Obj.mapSeq fun x => x ++ ys), toks := s.toks }) :=
  .of_wp fun prog w A R s h => by
    obtain ⟨hp, gl, ds, tk, os⟩ := s
    obtain ⟨hl, hb, h⟩ := h
    have t1 := PySem.AutoSeq1.idx_int
    have t2 := PySem.AutoSeq1.sub_tuple_tuple
    have t3 := PySem.AutoSeq1.sub_list_list
    have t4 := PySem.AutoSeq1.sub_tuple_list
    have t5 := PySem.AutoSeq1.sub_list_tuple
    have hz' : (xs ++ ys).size ≤ sizeLine + 1 := by rw [Array.size_append]; exact h2
    wp_walk using (wpAny_updateSeq hl rfl (hz := h1) (_hz' := hz')), wpAny_loadPart' hl, wpAny_loadPart' hb
    exact ⟨_, rfl, h⟩
end
def rExtendT (K : PySem.W.Frag) : V → List V → Hp → VK → Prop := fun x vs H Q => ∃ l b xs zs, x = .ref l ∧ vs = [.ref b] ∧ H l = some (.lst xs) ∧ SqT K H b zs ∧ xs.length + zs.length ≤ sizeLine ∧ Q .non (upd H l (.lst (xs ++ zs)))
theorem mt_extendT {X : Cx} : MtM X "list.extend" (rExtendT X.K) := by
  intro pins s σ H x vs v us Q I rx rv h
  obtain ⟨l, b, xs, zs, rfl, rfl, hH, hB, hz, q⟩ := h
  cases rx
  obtain ⟨u, rfl, ru⟩ := rv.one
  cases ru
  obtain ⟨z, its, n, r, hl, e⟩ := I.lstM hH
  obtain ⟨its2, r2, ⟨⟨cls2, dd2, data2, sl2⟩, e2, hc2, n2, hd2⟩, _⟩ := I.tuple hB
  simp only at hc2 hd2
  subst hc2 hd2
  have hl2 := r2.length
  have k1 : its.toArray.size + its2.toArray.size ≤ sizeLine := by rw [List.size_toArray, List.size_toArray]; omega
  have k2 : ¬ (!its.toArray.isEmpty && Builtin.List.listTooLong (its.toArray.size + its2.toArray.size)) = true := by
    rw [notLongL k1, Bool.and_false]
    simp
  refine call_meets F.slot_list_extend ⟨_, e, rfl⟩ F.entry_list_extend (F.args_list_extend_2 _ _) (ext_tup l b its.toArray its2.toArray n n2 dd2 sl2 k2 (by rw [List.size_toArray]; omega) (by omega)) ⟨e, e2, ?_⟩
  refine ⟨.non, _, I.lset (its' := its ++ its2) hH e (by simp) (r.append r2) ?_, rfl, q⟩
  rw [List.length_append]
  omega
def fExtendT : D → List D → IH → R D
  | .ref n, [.tup ys], h => match h[n]? with
    | some (.lst xs) => if xs.length + ys.length ≤ 10000000 then .ok .non (h.set n (.lst (xs ++ ys))) else .no
    | _ => .no
  | _, _, _ => .no
theorem fExtendT_ok {G : Cf} : MethS G (rExtendT G.K) fExtendT := by
  intro et H h x v xs vs W Q rx rv R p
  unfold fExtendT at p
  split at p
  · split at p
    · split at p
      · rename_i n ys _ xs' hx c
        obtain ⟨w, rfl, h1⟩ := list1 rv
        obtain ⟨a, us, h2, rfl, h3, h4⟩ := den_list R hx rx
        obtain ⟨b, ws, rfl, k3, k4⟩ := den_tup.mp h1
        refine ⟨a, b, us, ws, rfl, rfl, h3, k3.sq, sz (by rw [h4.len, k4.len]; exact c), ?_⟩
        have ex : Ext H (upd H a (.lst (us ++ ws))) := Ext.mut h3 True.intro
        exact p et _ List.prefix_rfl ex (R.set hx h2 rfl h3 True.intro ⟨_, upd_same, (h4.app k4).mono List.prefix_rfl ex⟩) _ (by simp)
      · exact p.elim
    · exact p.elim
  · exact p.elim
end NR

set_option Elab.async false
set_option linter.all false
set_option maxRecDepth 100000
set_option maxHeartbeats 4000000
namespace NR
open PySem PySem.Spec PyProof.Rows L2
/-! ### isinstance of several -/
def isTs (h : IH) (x : D) : List String → Option Bool
  | [] => some false
  | T :: r => match isT T h x with
    | some true => some true
    | some false => isTs h x r
    | none => none
def mIsT (Ts : List String) (m : ME) : ME := fun env h => (m env h).bind fun x h1 => match isTs h1 x Ts with
  | some b => .ok (.bl b) h1
  | none => .no
theorem tyK_ok {G : Cf} {et : List Addr} {H : Hp} {h : IH} (R : HRel G et h H) {x : D} {v : V} (r : Den G et H x v) : (∃ t, TyX G.K H v t ∧ ∀ (T : String) (b : Bool), isT T h x = some b → PySem.W.kitOne G.K t (.type T) = some b) ∨ ∀ T, isT T h x = none := by
  cases x with
  | non => rw [den_non.mp r]; exact .inl ⟨_, .base .non, fun _ _ e => kit_ty e⟩
  | bl _ => rw [den_bl.mp r]; exact .inl ⟨_, .base (.bl _), fun _ _ e => kit_ty e⟩
  | int _ => rw [den_int.mp r]; exact .inl ⟨_, .base (.int _), fun _ _ e => kit_ty e⟩
  | str _ => rw [den_str.mp r]; exact .inl ⟨_, .base (.str _), fun _ _ e => kit_ty e⟩
  | tup l =>
    obtain ⟨a, vs, rfl, h1, _⟩ := den_tup.mp r
    exact .inl ⟨_, sqT_ty (TpT.sq h1), fun _ _ e => kit_ty e⟩
  | ref n =>
    obtain ⟨a, h1, rfl⟩ := den_ref.mp r
    obtain ⟨c, hc, ok⟩ := R.cellAt h1
    cases c with
    | lst xs =>
      obtain ⟨vs, h2, _⟩ := ok
      exact .inl ⟨_, .base (.lst h2), fun T b e => kit_ty (by simpa only [isT, hc] using e)⟩
    | frz xs =>
      obtain ⟨vs, h2, _⟩ := ok
      exact .inl ⟨_, frzL_ty h2, fun T b e => kit_ty (by simpa only [isT, hc] using e)⟩
    | dk xs =>
      obtain ⟨vs, h2, _⟩ := ok
      exact .inl ⟨_, .base (.dK h2), fun T b e => kit_ty (by simpa only [isT, hc] using e)⟩
    | dt xs => exact .inr fun T => by simp only [isT, hc]
    | ins c fs => exact .inr fun T => by simp only [isT, hc]
  | fl l =>
    obtain ⟨a, vs, rfl, h1, _⟩ := den_fl.mp r
    exact .inl ⟨_, frzL_ty (K := G.K) h1.frz, fun _ _ e => kit_ty e⟩
  | fd ks l =>
    obtain ⟨a, ws, rfl, ⟨o, h1⟩, _⟩ := den_fd.mp r
    exact .inl ⟨_, .fDict h1, fun _ _ e => kit_ty e⟩
  | exc a => exact .inr fun T => rfl
theorem kits_of {K : PySem.W.Frag} {h : IH} {x : D} {t : Value} (k : ∀ (T : String) (b : Bool), isT T h x = some b → PySem.W.kitOne K t (.type T) = some b) : ∀ {Ts : List String} {b : Bool}, isTs h x Ts = some b → PySem.W.kitAny K t (Ts.map Value.type) = some b
  | [], b, e => by rw [← e]; rfl
  | T :: r, b, e => by
    unfold isTs at e
    rw [List.map_cons]
    cases h1 : isT T h x with
    | none => rw [h1] at e; cases e
    | some c =>
      rw [h1] at e
      cases c with
      | true => cases e; exact kitAny_cons (k T true h1) (fun z => by cases z) (fun _ => rfl)
      | false => exact kitAny_cons (k T false h1) (fun _ => kits_of k e) (fun z => by cases z)
inductive TNs (X : Cx) : List String → List Expr → Prop
  | nil : TNs X [] []
  | cons {y : Str} {T : String} {Ts : List String} {es : List Expr} {p : Pos} (hg : Gl X y) (hm : X.mg y = none) (hv : bootBuiltins y = some (.type T)) (hn : y ≠ "__name__") (hd : (y == ("__debug__" : Str)) = false) (h : TNs X Ts es) : TNs X (T :: Ts) (.Name y p :: es)
theorem TNs.pa {X : Cx} : ∀ {Ts : List String} {es : List Expr}, TNs X Ts es → PA X es (fun _ H Q => Q (Ts.map V.ty) H)
  | [], _, .nil => pa_nil
  | T :: Ts, _, .cons (y := y) (es := es) (p := p) hg hm hv hn hd h => pa_cons (pe_bltn (v := .ty T) hg hm hv rfl hn hd) h.pa rfl
theorem paired_tys : ∀ Ts : List String, Paired ClsV (Ts.map V.ty) (Ts.map Value.type)
  | [] => .nil
  | T :: Ts => .cons (.ty T) (paired_tys Ts)
theorem me_isT {X : Cx} {G : Cf} {W : WX} {a : Expr} {ma : ME} {pos p p2 : Pos} {T : String} {Ts : List String} {es : List Expr} {k : Nat} (hK : X.K = G.K) (ha : PE X a (tE G W ma)) (hm : X.mg "isinstance" = none) (hy : TNs X (T :: Ts) es) (hl : (T :: Ts).length ≤ 1000 := by decide) (hv : bootBuiltins "isinstance" = some (.builtin "isinstance") := by decide +kernel) (hg : Gl X "isinstance" := by rfl)
    (hs1 : starEach [a, .Tuple es k p2] X.env = (false, eval a X.env) :: starEach [.Tuple es k p2] X.env := by rfl) (hs2 : starEach [.Tuple es k p2] X.env = (false, eval (.Tuple es k p2) X.env) :: starEach [] X.env := by rfl) (hpl : (backTo pos (starEach [.Tuple es k p2] X.env)).any (·.1) = false := by rfl) :
    PE X (.Call (.Name "isinstance" p) [a, .Tuple es k p2] [] pos) (tE G W (mIsT (T :: Ts) ma)) :=
  PE.imp (pe_callB call_isiT hg hm hv (pa_cons ha (pa_cons (pe_tup hy.pa) pa_nil hs2) hs1) (by decide) (by decide) hs1 hpl) fun σ H Q ⟨et, env, h, hE, hH, hP⟩ => by
    refine ⟨et, env, h, hE, hH, (Pst.of_bind hP).imp fun et1 H1 h1 x p e hr q v hv => ?_⟩
    split at q
    · rename_i b hb
      refine ⟨sz (by rw [List.length_map]; exact Nat.le_trans hl (by omega)), fun tp htp => ?_⟩
      have e1 := Ext.new (o := .tup ((T :: Ts).map V.ty)) htp
      have hv2 := hv.mono List.prefix_rfl e1
      have hr2 := hr.new (o := .tup ((T :: Ts).map V.ty)) htp
      rcases tyK_ok hr2 hv2 with ⟨t, h2, h3⟩ | h2
      · rw [hK]
        exact ⟨v, tp, _, t, _, b, rfl, upd_same, paired_tys (T :: Ts), h2, kits_of h3 hb, q et1 _ List.prefix_rfl e1 hr2 _ (by simp)⟩
      · unfold isTs at hb
        rw [h2 T] at hb
        cases hb
    · exact q.elim
/-! ### a chain of three comparisons -/
def tChain3 (r r' r2 : R2) (ta tb tc td : TE) : TE := fun σ H Q => ta σ H fun x H1 => tb σ H1 fun y H2 => r x y H2 fun z H3 => ∃ k, z = .bl k ∧ (if k = true then tc σ H3 fun w H4 => r' y w H4 fun u H5 => ∃ j, u = .bl j ∧ (if j = true then td σ H5 fun t H6 => r2 w t H6 Q else Q (.bl false) H5) else Q (.bl false) H3)
section
variable {X : Cx} {a b c d : Expr} {ta tb tc td : TE} {pos : Pos} {r r' r2 : R2}
theorem pe_chain3 {o1 o2 o3 : CmpOp} (h1 : OpR X (compareOp o1) r) (h2 : OpR X (compareOp o2) r') (h3 : OpR X (compareOp o3) r2) (ha : PE X a ta) (hb : PE X b tb) (hc : PE X c tc) (hd : PE X d td)
    (hm : lastMarks [o1, o2, o3] [b, c, d] = false := by with_unfolding_all rfl) : PE X (.Compare a [o1, o2, o3] [b, c, d] pos) (tChain3 r r' r2 ta tb tc td) := by
  refine ⟨fun pins s σ H Q I q => ?_⟩
  refine Compare_chain (thn (ha.run pins s σ H _ I q) fun v s1 ⟨x, H1, I1, r1, q1⟩ => ?_) hm
  refine chain_link (thn (hb.run pins s1 σ H1 _ I1 q1) fun u s2 ⟨y, H2, I2, rr2, q2⟩ => ?_)
  refine thn (h1 pins s2 σ H2 x y v u _ I2 r1 rr2 q2) fun z s3 ⟨zz, H3, I3, r3, k, e, q3⟩ => ?_
  subst e
  cases r3
  refine wpAny_truthy_bool ?_
  cases k with
  | false => exact ite_ff ⟨.bl false, H3, I3, rfl, q3⟩
  | true =>
    refine ite_tt ?_
    refine chain_link (thn (hc.run pins s3 σ H3 _ I3 q3) fun w s4 ⟨ww, H4, I4, r4, q4⟩ => ?_)
    refine thn (h2 pins s4 σ H4 y ww u w _ I4 rr2 r4 q4) fun z2 s5 ⟨zz2, H5, I5, r5, k2, e2, q5⟩ => ?_
    subst e2
    cases r5
    refine wpAny_truthy_bool ?_
    cases k2 with
    | false => exact ite_ff ⟨.bl false, H5, I5, rfl, q5⟩
    | true => exact ite_tt (chain_last (thn (hd.run pins s5 σ H5 _ I5 q5) fun t s6 ⟨tt, H6, I6, r6, q6⟩ => h3 pins s6 σ H6 ww tt w t Q I6 r4 r6 q6))
end
def mChain3 (f g f3 : D → D → IH → R D) (a b c d : ME) : ME := fun env h => (a env h).bind fun x h1 => (b env h1).bind fun y h2 => (f x y h2).bind fun z h3 => match z with
  | .bl true => (c env h3).bind fun w h4 => (g y w h4).bind fun u h5 => match u with
    | .bl true => (d env h5).bind fun t h6 => f3 w t h6
    | .bl false => .ok (.bl false) h5
    | _ => .no
  | .bl false => .ok (.bl false) h3
  | _ => .no
section
variable {X : Cx} {G : Cf} {W : WX} {a b c d e : Expr} {ma mb mc md : ME} {pos : Pos} {r r' r2 : R2} {f g f3 : D → D → IH → R D}
theorem me_chain3 {o1 o2 o3 : CmpOp} (ho : OpR X (compareOp o1) r) (hs : OpS G r f) (ho' : OpR X (compareOp o2) r') (hs' : OpS G r' g) (ho2 : OpR X (compareOp o3) r2) (hs2 : OpS G r2 f3) (ha : PE X a (tE G W ma)) (hb : PE X b (tE G W mb)) (hc : PE X c (tE G W mc)) (hd : PE X d (tE G W md)) (hm : lastMarks [o1, o2, o3] [b, c, d] = false := by rfl) :
    PE X (.Compare a [o1, o2, o3] [b, c, d] pos) (tE G W (mChain3 f g f3 ma mb mc md)) := PE.imp (pe_chain3 ho ho' ho2 ha hb hc hd hm) fun σ H Q ⟨et, env, h, hE, hH, hP⟩ => by
  refine ⟨et, env, h, hE, hH, (Pst.of_bind hP).imp fun et1 H1 h1 x p e hr q v hv => ?_⟩
  refine ⟨et1, env, h1, hE.mono p e, hr, (Pst.of_bind q).imp fun et2 H2 h2 y p2 e2 hr2 q2 w hw => ?_⟩
  refine hs et2 H2 h2 x y v w _ _ (hv.mono p2 e2) hw hr2 ((Pst.of_bind q2).imp fun et3 H3 h3 z p3 e3 hr3 q3 vz hz => ?_)
  cases z with
  | bl k =>
    refine ⟨k, den_bl.mp hz, ?_⟩
    cases k with
    | true =>
      rw [if_pos rfl]
      refine ⟨et3, env, h3, ((hE.mono p e).mono p2 e2).mono p3 e3, hr3, (Pst.of_bind q3).imp fun et4 H4 h4 u p4 e4 hr4 q4 vu hu => ?_⟩
      refine hs' et4 H4 h4 y u w vu _ _ ((hw.mono p3 e3).mono p4 e4) hu hr4 ((Pst.of_bind q4).imp fun et5 H5 h5 z2 p5 e5 hr5 q5 vz2 hz2 => ?_)
      cases z2 with
      | bl k2 =>
        refine ⟨k2, den_bl.mp hz2, ?_⟩
        cases k2 with
        | true =>
          rw [if_pos rfl]
          refine ⟨et5, env, h5, ((((hE.mono p e).mono p2 e2).mono p3 e3).mono p4 e4).mono p5 e5, hr5, (Pst.of_bind q5).imp fun et6 H6 h6 t p6 e6 hr6 q6 vt ht => ?_⟩
          exact hs2 et6 H6 h6 u t vu vt _ Q ((hu.mono p5 e5).mono p6 e6) ht hr6 q6
        | false =>
          rw [if_neg Bool.false_ne_true]
          exact q5.here hr5 _ (by simp)
      | _ => exact q5.elim
    | false =>
      rw [if_neg Bool.false_ne_true]
      exact q3.here hr3 _ (by simp)
  | _ => exact q3.elim
theorem mt_chain3 {o1 o2 o3 : CmpOp} (ho : OpR X (compareOp o1) r) (hs : OpS G r f) (ho' : OpR X (compareOp o2) r') (hs' : OpS G r' g) (ho2 : OpR X (compareOp o3) r2) (hs2 : OpS G r2 f3) (ha : PE X a (tE G W ma)) (hb : PE X b (tE G W mb)) (hc : PE X c (tE G W mc)) (hd : PE X d (tE G W md)) (hm : lastMarks [o1, o2, o3] [b, c, d] = false := by rfl)
    (hv : ∀ whole, isTrue (.Compare a [o1, o2, o3] [b, c, d] pos) X.env whole = (do let v ← whole; standAt pos; holding [v] (truthy v)) := by intro _; rfl) (hK : X.K = G.K) :
    PT X (.Compare a [o1, o2, o3] [b, c, d] pos) (tT G W (mTr (mChain3 f g f3 ma mb mc md))) := mt_val hK (me_chain3 ho hs ho' hs' ho2 hs2 ha hb hc hd hm) hv
end
/-! ### reversed ranges -/
def iRevR1 (m : MA) : MI := fun env h => (m env h).bind fun xs h1 => match xs with
  | [.int j] => if -10000000 ≤ j ∧ j ≤ 10000000 then .ok (.st (intsDown (j - 1) j.toNat)) h1 else .no
  | _ => .no
def iRevR2 (m : MA) : MI := fun env h => (m env h).bind fun xs h1 => match xs with
  | [.int i, .int j] => if -10000000 ≤ i ∧ i ≤ 10000000 ∧ -10000000 ≤ j ∧ j ≤ 10000000 then .ok (.st (intsDown (j - 1) (j - i).toNat)) h1 else .no
  | _ => .no
section
variable {X : Cx} {G : Cf} {W : WX} {e tg a b : Expr} {me ma mb : ME} {pos p p2 q : Pos}
theorem jrel_downE {et : List Addr} {H : Hp} {hi hi' : Int} {n : Nat} (e : 0 < n → hi = hi') : JRel G et H (.st (intsDown hi n)) (Itc hi' (-1) n) := by
  cases n with
  | zero =>
    refine jrel_st fun et1 H1 h1 p ex R i => ?_
    rw [show (intsDown hi 0)[i]? = none from rfl]
    exact Nat.zero_le i
  | succ n => rw [e (by omega)]; exact jrel_down
theorem mi_revR1 (ha : PE X a (tE G W ma)) (hm : X.mg "reversed" = none) (hm2 : X.mg "range" = none) (hg : Gl X "reversed" := by rfl) (hg2 : Gl X "range" := by rfl) (hs : starEach [.Call (.Name "range" p2) [a] [] q] X.env = (false, eval (.Call (.Name "range" p2) [a] [] q) X.env) :: starEach [] X.env := by rfl) (hs3 : starEach [a] X.env = (false, eval a X.env) :: starEach [] X.env := by rfl) :
    PI X tg (.Call (.Name "reversed" p) [.Call (.Name "range" p2) [a] [] q] [] pos) (tI G W (iRevR1 (mCons ma mNil))) :=
  PI.imp (pi_revR hg hm (prg_1 hg2 hm2 ha hs3) hs) fun σ H K ⟨et, env, h, hE, hH, hP⟩ => by
    refine ⟨et, env, h, hE, hH, (Pst.of_bind (Pst.of_bind hP)).imp fun et1 H1 h1 x p e hr q v hv => ?_⟩
    simp only [mNil, R.bind] at q
    have q := Pst.here hr q
    cases x with
    | int j =>
      dsimp only at q
      split at q
      · rename_i c
        refine ⟨j, den_int.mp hv, by omega, by omega, by omega, by omega, q.here hr _ ?_⟩
        rw [show (j - 0).toNat = j.toNat by omega]
        exact jrel_downE fun h => by omega
      · exact q.elim
    | _ => exact q.elim
end
/-! ### max, min of a tuple -/
section
variable {prog : Program} {w : World} {A : Around} {E : Value → Shared → Prop} {s : Shared} {l : Addr} {its : List Value} {ns : List Int}
theorem tup_kept {h' : Heap} (hk : ∀ b o, b ∉ [s.heap.objs.size] → (s.heap.push { cls := .type "tuple_iterator", data := .fields #[.ref l, .int 0 0] }).get? b = some o → h'.get? b = some o) (b : Addr) (o : Obj) (e : s.heap.get? b = some o) : h'.get? b = some o := by
  refine hk b o (fun hm => ?_) (Heap.get?_push_of_some _ e)
  have := List.mem_singleton.mp hm
  subst this
  exact Nat.lt_irrefl _ (Heap.lt_size e)
theorem tup_fp (lt : l < s.heap.objs.size) (o : Obj) : ∀ b ∈ [s.heap.objs.size, l], b < (s.heap.push o).objs.size := fun b hb => by
  rw [Heap.size_push]
  rcases List.mem_cons.mp hb with rfl | hb
  · exact Nat.lt_succ_self _
  · rw [List.mem_singleton.mp hb]
    exact Nat.lt_succ_of_lt lt
theorem tup_val (hi : IntsAre its ns) (i : Nat) (v : Value) (h : its.toArray[i]? = some v) : ∃ t, v = .int (ns.getD i 0) t := PyProof.Rows.IntsAre.int_at hi i v (by simpa using h)
theorem tup_best {k : Nat} {M : Int} (hk : k < ns.length) (e : ns.getD k 0 = M) : M ∈ ns := by
  rw [List.getD_eq_getElem?_getD, List.getElem?_eq_getElem hk] at e
  rw [← e]
  exact List.getElem_mem hk
theorem max_tup {Q : Value → Shared → Prop} (hh : A.handled = none) (hl : s.heap.IsTuple l its.toArray) (hi : IntsAre its ns) (hne : 0 < ns.length)
    (h : ∀ h' tk M t', (∀ b o, s.heap.get? b = some o → h'.get? b = some o) → M ∈ ns → (∀ a, a ∈ ns → a ≤ M) → Q (.int M t') { s with heap := h', toks := tk }) : wpAny (model prog w) A (call (.builtin "max") [.ref l]) Q E s := by
  have lt : l < s.heap.objs.size := by obtain ⟨_, e, _⟩ := hl; exact Heap.lt_size e
  have hz : its.length = ns.length := IntsAre.length hi
  refine call_max_walk (wpAny_pyIter_tuple hl ?_)
  refine ⟨_, _, _, _, _, _, _, rfl, Walks.tuple (A := A.in1) hh _ l (Nat.ne_of_lt lt) its.toArray, ⟨⟨_, Heap.get?_push_size _ rfl, rfl, rfl⟩, hl.push _⟩, tup_fp lt _, by simpa [hz] using hne, CmpOf.ints_gt (fun i => ns.getD i 0) (tup_val hi), fun v h' tk hP hk => ?_⟩
  obtain ⟨h1, h2⟩ := argBest_gt (fun i => ns.getD i 0) (its.toArray.size - 1)
  obtain ⟨t, rfl⟩ := tup_val hi _ _ hP
  rw [List.size_toArray, hz] at h1 h2
  refine h h' tk _ t (tup_kept hk) (tup_best (by rw [List.size_toArray, hz]; omega) rfl) fun a ha => ?_
  obtain ⟨j, hj⟩ := List.mem_iff_getElem?.mp ha
  have hj2 := (List.getElem?_eq_some_iff.mp hj).1
  have := h2 j (by omega)
  simp only [List.getD_eq_getElem?_getD, hj, Option.getD_some] at this
  simpa [List.getD_eq_getElem?_getD, hz] using this
theorem min_tup {Q : Value → Shared → Prop} (hh : A.handled = none) (hl : s.heap.IsTuple l its.toArray) (hi : IntsAre its ns) (hne : 0 < ns.length)
    (h : ∀ h' tk M t', (∀ b o, s.heap.get? b = some o → h'.get? b = some o) → M ∈ ns → (∀ a, a ∈ ns → M ≤ a) → Q (.int M t') { s with heap := h', toks := tk }) : wpAny (model prog w) A (call (.builtin "min") [.ref l]) Q E s := by
  have lt : l < s.heap.objs.size := by obtain ⟨_, e, _⟩ := hl; exact Heap.lt_size e
  have hz : its.length = ns.length := IntsAre.length hi
  refine call_min_walk (wpAny_pyIter_tuple hl ?_)
  refine ⟨_, _, _, _, _, _, _, rfl, Walks.tuple (A := A.in1) hh _ l (Nat.ne_of_lt lt) its.toArray, ⟨⟨_, Heap.get?_push_size _ rfl, rfl, rfl⟩, hl.push _⟩, tup_fp lt _, by simpa [hz] using hne, CmpOf.ints_lt (fun i => ns.getD i 0) (tup_val hi), fun v h' tk hP hk => ?_⟩
  obtain ⟨h1, h2⟩ := argBest_lt (fun i => ns.getD i 0) (its.toArray.size - 1)
  obtain ⟨t, rfl⟩ := tup_val hi _ _ hP
  rw [List.size_toArray, hz] at h1 h2
  refine h h' tk _ t (tup_kept hk) (tup_best (by rw [List.size_toArray, hz]; omega) rfl) fun a ha => ?_
  obtain ⟨j, hj⟩ := List.mem_iff_getElem?.mp ha
  have hj2 := (List.getElem?_eq_some_iff.mp hj).1
  have := h2 j (by omega)
  simp only [List.getD_eq_getElem?_getD, hj, Option.getD_some] at this
  simpa [List.getD_eq_getElem?_getD, hz] using this
end
def rMaxT (K : PySem.W.Frag) : List V → Hp → VK → Prop := fun vs H Q => ∃ (a : Addr) (ns : List Int), vs = [V.ref a] ∧ (SqL K H a (ns.map V.int) ∨ SqT K H a (ns.map V.int)) ∧ 0 < ns.length ∧ ∀ m, m ∈ ns → (∀ y, y ∈ ns → y ≤ m) → Q (.int m) H
def rMinT (K : PySem.W.Frag) : List V → Hp → VK → Prop := fun vs H Q => ∃ (a : Addr) (ns : List Int), vs = [V.ref a] ∧ (SqL K H a (ns.map V.int) ∨ SqT K H a (ns.map V.int)) ∧ 0 < ns.length ∧ ∀ m, m ∈ ns → (∀ y, y ∈ ns → m ≤ y) → Q (.int m) H
section
variable {X : Cx} {G : Cf}
theorem cr_maxT (hc : X.calm = true) : CallR X (.builtin "max") (rMaxT X.K) := by
  intro pins s σ H vs us Q I r h
  obtain ⟨a, ns, rfl, hs | hs, hne, q⟩ := h
  · exact cr_max hc pins s σ H _ us Q I r ⟨a, ns, rfl, hs, hne, q⟩
  · obtain ⟨its, rv, ht, _⟩ := I.tuple hs
    rw [Vals.ref1 r]
    exact max_tup (I.ok.hd hc) ht rv.ints hne fun h' tk m t' hk h1 h2 => ⟨.int _, H, I.kept hk, ⟨_, rfl⟩, q m h1 h2⟩
theorem cr_minT (hc : X.calm = true) : CallR X (.builtin "min") (rMinT X.K) := by
  intro pins s σ H vs us Q I r h
  obtain ⟨a, ns, rfl, hs | hs, hne, q⟩ := h
  · exact cr_min hc pins s σ H _ us Q I r ⟨a, ns, rfl, hs, hne, q⟩
  · obtain ⟨its, rv, ht, _⟩ := I.tuple hs
    rw [Vals.ref1 r]
    exact min_tup (I.ok.hd hc) ht rv.ints hne fun h' tk m t' hk h1 h2 => ⟨.int _, H, I.kept hk, ⟨_, rfl⟩, q m h1 h2⟩
def bMax1T : List D → IH → R D
  | [x], h => match (seqOf h x).bind (allM D.int?) with
    | some ns => if 0 < ns.length then .ok (.int (imax ns)) h else .no
    | none => .no
  | _, _ => .no
def bMin1T : List D → IH → R D
  | [x], h => match (seqOf h x).bind (allM D.int?) with
    | some ns => if 0 < ns.length then .ok (.int (imin ns)) h else .no
    | none => .no
  | _, _ => .no
theorem sq_ints {et : List Addr} {H : Hp} {h : IH} {x : D} {v : V} {ns : List Int} (R : HRel G et h H) (e : (seqOf h x).bind (allM D.int?) = some ns) (r : Den G et H x v) : ∃ a, v = .ref a ∧ (SqL G.K H a (ns.map V.int) ∨ SqT G.K H a (ns.map V.int)) := by
  cases hq : seqOf h x with
  | none => rw [hq] at e; cases e
  | some ds =>
    rw [hq] at e
    obtain ⟨a, vs, rfl, h1, h2⟩ := seq_ok R hq r
    have := allM_ints (ds := ds) e
    subst this
    rw [h2.ints] at h1
    exact ⟨a, rfl, h1⟩
theorem bMax1T_ok : CallS G (rMaxT G.K) bMax1T := by
  intro et H h xs vs W Q hv hr q
  unfold bMax1T at q
  split at q
  · obtain ⟨v, rfl, r⟩ := list1 hv
    split at q
    · rename_i ns e
      split at q
      · rename_i l
        obtain ⟨a, rfl, s⟩ := sq_ints hr e r
        refine ⟨a, ns, rfl, s, l, fun m m1 m2 => ?_⟩
        have em : m = imax ns := Int.le_antisymm (imax_le m1) (m2 _ (imax_mem l))
        rw [em]
        exact q.here hr _ (by simp)
      · exact q.elim
    · exact q.elim
  · exact q.elim
theorem bMin1T_ok : CallS G (rMinT G.K) bMin1T := by
  intro et H h xs vs W Q hv hr q
  unfold bMin1T at q
  split at q
  · obtain ⟨v, rfl, r⟩ := list1 hv
    split at q
    · rename_i ns e
      split at q
      · rename_i l
        obtain ⟨a, rfl, s⟩ := sq_ints hr e r
        refine ⟨a, ns, rfl, s, l, fun m m1 m2 => ?_⟩
        have em : m = imin ns := Int.le_antisymm (m2 _ (imin_mem l)) (imin_le m1)
        rw [em]
        exact q.here hr _ (by simp)
      · exact q.elim
    · exact q.elim
  · exact q.elim
end
end NR

set_option Elab.async false
set_option linter.all false
set_option maxRecDepth 100000
set_option maxHeartbeats 4000000
/-! Lists within tuples and lists, locked. -/
namespace NR
open PySem PySem.Spec PyProof.Rows L2
/-- some locks lead there -/
inductive Locks (P : Hp → Prop) : Hp → Prop
  | done {H : Hp} (h : P H) : Locks P H
  | lock {H : Hp} {a : Addr} {u : HO} (e : H a = some u) (m : Mut (some u)) (k : ∀ od, Locks P (upd H a (.frz od u))) : Locks P H
theorem Locks.bind {P Q : Hp → Prop} {H : Hp} (x : Locks P H) (k : ∀ H', P H' → Locks Q H') : Locks Q H := by
  induction x with
  | done h => exact k _ h
  | lock e m _ ih => exact .lock e m ih
theorem Locks.imp {P Q : Hp → Prop} {H : Hp} (x : Locks P H) (k : ∀ H', P H' → Q H') : Locks Q H := x.bind fun H' h => .done (k H' h)
theorem Locks.run {X : Cx} {P : Hp → Prop} {pins : List (Addr × Obj)} {σ : L2.St} {s : Shared} {H : Hp} (x : Locks P H) : Inv X pins σ H s → ∃ H', Inv X pins σ H' s ∧ P H' := by
  induction x with
  | done h => exact fun I => ⟨_, I, h⟩
  | lock e m _ ih =>
    intro I
    obtain ⟨od, I2⟩ := I.lock e m
    exact ih od I2
mutual
/-- the lists and dicts from cell number b on, locked -/
def dzD (b : Nat) : Nat → IH → D → Option (D × IH)
  | 0, _, _ => none
  | k + 1, h, .ref n => if b ≤ n then (match h[n]? with
    | some (.lst xs) => match dzL b k (h.set n (.frz xs)) xs with
      | some (ys, h1) => some (.fl ys, h1)
      | none => none
    | _ => none) else some (.ref n, h)
  | k + 1, h, .tup l => match dzL b k h l with
    | some (ys, h1) => some (.tup ys, h1)
    | none => none
  | _ + 1, h, .fl l => some (.fl l, h)
  | _ + 1, h, .fd ks l => some (.fd ks l, h)
  | _ + 1, h, .exc a => none
  | _ + 1, h, .non => some (.non, h)
  | _ + 1, h, .bl i => some (.bl i, h)
  | _ + 1, h, .int i => some (.int i, h)
  | _ + 1, h, .str i => some (.str i, h)
def dzL (b : Nat) : Nat → IH → List D → Option (List D × IH)
  | 0, _, _ => none
  | _ + 1, h, [] => some ([], h)
  | k + 1, h, d :: l => match dzD b k h d with
    | some (y, h1) => match dzL b k h1 l with
      | some (ys, h2) => some (y :: ys, h2)
      | none => none
    | none => none
end
section
variable {G : Cf} {et : List Addr}
theorem dz_ok (b : Nat) : ∀ (k : Nat), (∀ (h : IH) (H : Hp) (d d' : D) (h' : IH) (v : V), HRel G et h H → Den G et H d v → dzD b k h d = some (d', h') → Locks (fun H' => HRel G et h' H' ∧ Ext H H' ∧ Den G et H' d' v) H) ∧
    (∀ (h : IH) (H : Hp) (l l' : List D) (h' : IH) (vs : List V), HRel G et h H → DenL G et H l vs → dzL b k h l = some (l', h') → Locks (fun H' => HRel G et h' H' ∧ Ext H H' ∧ DenL G et H' l' vs) H)
  | 0 => ⟨fun _ _ _ _ _ _ _ _ e => by simp [dzD] at e, fun _ _ _ _ _ _ _ _ e => by simp [dzL] at e⟩
  | k + 1 => by
    obtain ⟨ihD, ihL⟩ := dz_ok b k
    refine ⟨fun h H d d' h' v R r e => ?_, fun h H l l' h' vs R r e => ?_⟩
    · cases d with
      | ref n =>
        unfold dzD at e
        split at e
        · split at e
          · rename_i xs hx
            split at e
            · rename_i ys h1 e1
              cases e
              obtain ⟨a, ha, rfl⟩ := den_ref.mp r
              obtain ⟨vs, k1, k2⟩ := R.cell n _ a hx ha
              refine .lock k1 True.intro fun od => ?_
              have ex : Ext H (upd H a (.frz od (.lst vs))) := Ext.mut k1 True.intro
              have hf : DenL G et (upd H a (.frz od (.lst vs))) xs vs := k2.mono List.prefix_rfl ex
              have hc : CellOk G et (upd H a (.frz od (.lst vs))) a (.frz xs) := ⟨vs, .inl ⟨od, upd_same⟩, hf⟩
              refine (ihL _ _ xs ys h' vs (R.set hx ha rfl k1 True.intro hc) hf e1).imp fun H1 ⟨R1, x1, D1⟩ => ⟨R1, ex.trans x1, ?_⟩
              exact den_fl.mpr ⟨a, vs, rfl, FrzM.ext x1 ⟨od, upd_same⟩, D1⟩
            · cases e
          · cases e
        · cases e
          exact .done ⟨R, Ext.refl H, r⟩
      | tup l =>
        unfold dzD at e
        split at e
        · rename_i ys h1 e1
          cases e
          obtain ⟨a, vs, rfl, h2, h3⟩ := den_tup.mp r
          exact (ihL h H l ys h' vs R h3 e1).imp fun H1 ⟨R1, x1, D1⟩ => ⟨R1, x1, den_tup.mpr ⟨a, vs, rfl, h2.ext x1, D1⟩⟩
        · cases e
      | exc a => simp [dzD] at e
      | fl l => simp [dzD] at e; obtain ⟨rfl, rfl⟩ := e; exact .done ⟨R, Ext.refl H, r⟩
      | fd ks l => simp [dzD] at e; obtain ⟨rfl, rfl⟩ := e; exact .done ⟨R, Ext.refl H, r⟩
      | non => simp [dzD] at e; obtain ⟨rfl, rfl⟩ := e; exact .done ⟨R, Ext.refl H, r⟩
      | bl i => simp [dzD] at e; obtain ⟨rfl, rfl⟩ := e; exact .done ⟨R, Ext.refl H, r⟩
      | int i => simp [dzD] at e; obtain ⟨rfl, rfl⟩ := e; exact .done ⟨R, Ext.refl H, r⟩
      | str i => simp [dzD] at e; obtain ⟨rfl, rfl⟩ := e; exact .done ⟨R, Ext.refl H, r⟩
    · cases l with
      | nil =>
        simp [dzL] at e
        obtain ⟨rfl, rfl⟩ := e
        exact .done ⟨R, Ext.refl H, r⟩
      | cons d l =>
        unfold dzL at e
        split at e
        · rename_i y h1 e1
          split at e
          · rename_i ys h2 e2
            cases e
            obtain ⟨v, ws, rfl, r1, r2⟩ := denL_cons.mp r
            refine (ihD h H d y h1 v R r1 e1).bind fun H1 ⟨R1, x1, D1⟩ => ?_
            refine (ihL h1 H1 l ys h' ws R1 (r2.mono List.prefix_rfl x1) e2).imp fun H2 ⟨R2, x2, D2⟩ => ⟨R2, x1.trans x2, ?_⟩
            exact denL_cons.mpr ⟨v, ws, rfl, D1.mono List.prefix_rfl x2, D2⟩
          · cases e
        · cases e
end
open Classical in
noncomputable def dzR (h : IH) (r : R D) : R D := match r with
  | .ok d h' => match dzD h.length 1000 h' d with
    | some (d', h2) => if D.lo h.length d' = true ∧ okB h.length h h2 then .ok d' (h2.take h.length) else .ok d h'
    | none => .ok d h'
  | r => r
noncomputable def mDz (m : ME) : ME := fun env h => dzR h (m env h)
theorem me_dz {X : Cx} {G : Cf} {W : WX} {e : Expr} {m : ME} (he : PE X e (tE G W m)) : PE X e (tE G W (mDz m)) := ⟨fun pins s σ H Q I ⟨et, env, h, hE, hH, hP⟩ => by
  have main : Pst G et H (m env h) (fun et' H' _ d => ∀ v, Den G et' H' d v → Locks (fun H2 => Q v H2) H') (fun c d H' => W c d σ H') := by
    have hP : Pst G et H (dzR h (m env h)) _ _ := hP
    revert hP
    cases m env h with
    | no => exact fun z => z
    | ex c d h' => exact fun z => z
    | ok d h' =>
      intro hP
      have dull : Pst G et H (.ok d h') (fun et' H' _ d => ∀ v, Den G et' H' d v → Q v H') (fun c d H' => W c d σ H') → Pst G et H (.ok d h') (fun et' H' _ d => ∀ v, Den G et' H' d v → Locks (fun H2 => Q v H2) H') (fun c d H' => W c d σ H') := fun z => z.imp fun et1 H1 h1 a p e hr q v hv => .done (q v hv)
      unfold dzR at hP
      dsimp only at hP
      split at hP
      · rename_i d' h2 e1
        split at hP
        · rename_i c
          intro et' H' p e hr v hv
          refine ((dz_ok (G := G) (et := et') h.length 1000).1 h' H' d d' h2 v hr hv e1).imp fun H2 ⟨R2, x2, D2⟩ => ?_
          have al := okB_all hH c.2
          have R3 := R2.cut p al
          rw [hH.len] at R3
          have lo := c.1
          rw [← hH.len] at lo
          exact hP et H2 List.prefix_rfl (e.trans x2) R3 v (D2.back p lo)
        · exact dull hP
      · exact dull hP
  refine thn (he.run pins s σ H _ I ⟨et, env, h, hE, hH, main⟩) fun v s1 ⟨x, H1, I1, r, q⟩ => ?_
  obtain ⟨H2, I2, q2⟩ := q.run I1
  exact ⟨x, H2, I2, r, q2⟩⟩
end NR

set_option Elab.async false
set_option linter.all false
set_option maxRecDepth 100000
set_option maxHeartbeats 1000000
/-! The number of keys of a dict whose keys are tuples. -/
namespace NR
open PySem PySem.Spec PyProof.Rows L2
def bLenT : List D → IH → R D
  | [.ref n], h => match h[n]? with
    | some (.dt kvs) => .ok (.int (kvs.length : Nat)) h
    | _ => .no
  | _, _ => .no
theorem bLenT_ok {G : Cf} : CallS G rLenT bLenT := by
  intro et H h xs vs W Q rv R p
  unfold bLenT at p
  split at p
  · obtain ⟨v, rfl, h1⟩ := list1 rv
    obtain ⟨a, h2, rfl⟩ := den_ref.mp h1
    split at p
    · rename_i kvs hx
      obtain ⟨ws, h3, h4⟩ := R.cell _ _ a hx h2
      have lw : ws.length = kvs.length := by have := congrArg List.length h4.1; simpa using this
      refine ⟨a, ws, rfl, h3, ?_⟩
      rw [lw]
      exact p.here R _ (by simp)
    · exact p.elim
  · exact p.elim
theorem bLenT_ref {h : IH} {n : Nat} {kvs : List (List DKey × D)} (e : h[n]? = some (.dt kvs)) : bLenT [.ref n] h = .ok (.int (kvs.length : Nat)) h := by
  unfold bLenT
  dsimp only
  rw [e]
end NR

set_option Elab.async false
set_option linter.all false
set_option maxRecDepth 100000
set_option maxHeartbeats 1000000
/-! Dicts: an empty one whose keys are told by the list that is walked; {(..): v}. -/
namespace NR
open PySem PySem.Spec PyProof.Rows L2
/-- is slot i a list whose first item is a tuple? -/
def tupAt (i : Nat) (env : EV) (h : IH) : Bool := match env[i]? with
  | some (some d) => match seqOf h d with
    | some (.tup _ :: _) => true
    | _ => false
  | _ => false
/-- an empty dict; its keys are of the kind of the items of slot i -/
def mDictV (i : Nat) : ME := fun env h => if tupAt i env h = true then mDictT env h else mDict [] env h
section
variable {X : Cx} {G : Cf} {W : WX}
theorem me_dictV (i : Nat) {pos : Pos} : PE X (.Dict [] [] pos) (tE G W (mDictV i)) := ⟨fun pins s σ H Q I ⟨et, env, h, hE, hH, hP⟩ => by
  unfold mDictV at hP
  by_cases c : tupAt i env h = true
  · rw [if_pos c] at hP
    exact me_dict0T.run pins s σ H Q I ⟨et, env, h, hE, hH, hP⟩
  · rw [if_neg c] at hP
    exact me_dict0.run pins s σ H Q I ⟨et, env, h, hE, hH, hP⟩⟩
end
theorem ap_mDictV_t {i : Nat} {env : EV} {h : IH} (e : tupAt i env h = true) : mDictV i env h = .ok (.ref h.length) (h ++ [.dt []]) := by
  unfold mDictV
  rw [if_pos e]
  rfl
theorem ap_mDictV_k {i : Nat} {env : EV} {h : IH} (e : tupAt i env h = false) : mDictV i env h = .ok (.ref h.length) (h ++ [.dk []]) := by
  unfold mDictV
  rw [if_neg (by rw [e]; simp)]
  simp [mDict, mPr, R.bind, keyPs, dkAt]
/-- len, of a dict of either kind too -/
def bLenV (xs : List D) (h : IH) : R D := match xs with
  | [.ref n] => match h[n]? with
    | some (.dt kvs) => .ok (.int (kvs.length : Nat)) h
    | _ => bLen xs h
  | _ => bLen xs h
theorem call_lenV {X : Cx} : CallR X (.builtin "len") (fun xs H Q => rLenA X.K xs H Q ∨ rLenT xs H Q) := CallR.or call_lenA call_len_dT
theorem bLenV_ok {G : Cf} : CallS G (fun xs H Q => rLenA G.K xs H Q ∨ rLenT xs H Q) bLenV := by
  intro et H h xs vs W Q rv R p
  unfold bLenV at p
  split at p
  · rename_i n
    split at p
    · rename_i kvs hx
      refine .inr (bLenT_ok (G := G) et H h [.ref n] vs W Q rv R ?_)
      rw [bLenT_ref hx]
      exact p
    · exact .inl (bLen_ok et H h _ vs W Q rv R p)
  · exact .inl (bLen_ok et H h _ vs W Q rv R p)
theorem bLenV_dt {h : IH} {n : Nat} {kvs : List (List DKey × D)} (e : h[n]? = some (.dt kvs)) : bLenV [.ref n] h = .ok (.int (kvs.length : Nat)) h := by
  unfold bLenV
  dsimp only
  rw [e]
theorem bLenV_dk {h : IH} {n : Nat} {kvs : List (DKey × D)} (e : h[n]? = some (.dk kvs)) : bLenV [.ref n] h = .ok (.int (kvs.length : Nat)) h := by
  unfold bLenV bLen
  dsimp only
  rw [e]
/-! ### {(..): v} -/
section
variable {X : Cx} {pins : List (Addr × Obj)} {σ : L2.St} {H : Hp} {s : Shared} {a b : Addr} {v : V} {r : Value} {A : Around} {E : Value → Shared → Prop} {kvs : List (List Key × V)} {k : List Key}
theorem d_setT {Q : Unit → Shared → Prop} (hu : A.units < cLine) (I : Inv X pins σ H s) (e : H a = some (.dT kvs)) (eb : H b = some (.tup (k.map kV))) (l : kvs.length < sizeLine) (rv : RelV v r) (h : ∀ s', Inv X pins σ (upd H a (.dT (putK kvs k v))) s' → Q () s') :
    wpAny (model X.prog X.w) A (dictSet a (.ref b) r) Q E s := by
  obtain ⟨z, hd, xs, rel, dd⟩ := dt_of I.hok e
  have hz : xs.length ≤ sizeLine := by rw [← Paired.length rel]; exact z
  have hl : (putK kvs k v).length ≤ sizeLine := by have := length_putK kvs k v; omega
  refine wpAny_dictSet_heap (hsz := hz) (knd := tupleKind (mixKind X.prog X.w)) hu (key_of I.hok eb) dd fun h' dd' hs => h _ ?_
  obtain ⟨q, es, ep, hq, h2, h3, h4, _, h5⟩ := dd'
  refine d_write I (by rw [e]; exact True.intro) hs ⟨q, hq⟩ ⟨hl, hd, _, (rel.put k eb rv).keeps fun c ys ec => ?_, q, es, ep, hq, h2, h3, h4, h5⟩
  rw [upd_ne (ne_of ec e (fun z => nomatch z))]
  exact ec
end
def tDispT (tk tv : TE) : TE := fun σ H Q => ∀ p, H p = none → tk σ (upd H p (.dT [])) fun x H1 => tv σ H1 fun y H2 => H2 p = some (.dT []) ∧ ∃ (b : Addr) (ks : List Key), x = .ref b ∧ H2 b = some (.tup (ks.map kV)) ∧ Q (.ref p) (upd H2 p (.dT [(ks, y)]))
theorem pe_dispT {X : Cx} {k v : Expr} {pos : Pos} {tk tv : TE} (hu : X.A.units < cLine) (hk : PE X k tk) (hv : PE X v tv) : PE X (.Dict [some k] [v] pos) (tDispT tk tv) := by
  refine ⟨fun pins s σ H Q I q => ?_⟩
  have hn := I.hok.fresh (Nat.le_refl s.heap.objs.size)
  have I1 := I.laid (a := s.heap.objs.size) (o := .dT []) (h' := s.heap.push { cls := .type "dict", data := .dict #[] }) (t' := s.toks) (fun _ _ q => Heap.get?_push_of_some _ q) (Nat.le_refl _) (dt_empty s.heap I.big)
  refine wpAny_Dict_any rfl rfl (fun z => by cases z) (by simp) ?_
  refine pairTrees_cons_walk (thn (hk.run pins _ σ _ _ I1 (q _ hn)) fun u s1 ⟨x, H1, I1, rx, q1⟩ => thn (hv.run pins s1 σ H1 _ I1 q1) fun w s2 ⟨y, H2, I2, ry, q2⟩ => pairTrees_nil_walk ?_)
  obtain ⟨e, b, ks, ex, eb, q3⟩ := q2
  subst ex
  obtain rfl : u = Value.ref b := rx
  unfold storeAll
  rw [List.forIn_cons]
  refine wpAny_bind (wpAny_bind (d_setT (kvs := []) hu I2 e eb (by rw [sizeLine_eq]; simp) ry fun s3 I3 => wpAny_pure ?_))
  dsimp only
  rw [List.forIn_nil]
  exact wpAny_pure ⟨.ref s.heap.objs.size, _, I3, rfl, q3⟩
/-- {k: v}, k a tuple of ints and texts -/
def mDictP (mk mv : ME) : ME := fun env h => (mk env (h ++ [.dt []])).bind fun k h1 => (mv env h1).bind fun v h2 => match keyT? k, h2[h.length]? with
  | some ks, some (.dt []) => .ok (.ref h.length) (h2.set h.length (.dt [(ks, v)]))
  | _, _ => .no
section
variable {X : Cx} {G : Cf} {W : WX} {k v : Expr} {pos : Pos} {mk mv : ME}
theorem me_dictP (hu : X.A.units + 64 < cLine) (hk : PE X k (tE G W mk)) (hv : PE X v (tE G W mv)) : PE X (.Dict [some k] [v] pos) (tE G W (mDictP mk mv)) := PE.imp (pe_dispT (by omega) hk hv) fun σ H Q ⟨et, env, h, hE, hH, hP⟩ p hp => by
  have hH1 : HRel G (et ++ [p]) (h ++ [.dt []]) (upd H p (.dT [])) := hH.push hp ⟨[], upd_same, rfl, by simp⟩
  have pf : et <+: et ++ [p] := List.prefix_append _ _
  refine ⟨et ++ [p], env, h ++ [.dt []], hE.mono pf (Ext.new hp), hH1, (Pst.of_bind (Pst.weak pf (Ext.new hp) hP)).imp fun et2 H2 h2 kd p2 e2 hr2 q2 kv hkv => ?_⟩
  refine ⟨et2, env, h2, (hE.mono pf (Ext.new hp)).mono p2 e2, hr2, (Pst.of_bind q2).imp fun et3 H3 h3 vd p3 e3 hr3 q3 vv hvv => ?_⟩
  split at q3
  · rename_i ks ek ec
    have hp3 : et3[h.length]? = some p := by
      obtain ⟨t, rfl⟩ := p2
      obtain ⟨t', rfl⟩ := p3
      rw [List.getElem?_append_left (by simp [hH.len]), List.getElem?_append_left (by simp [hH.len]), ← hH.len]
      simp
    obtain ⟨ws, c1, c2⟩ := hr3.cell _ _ _ ec hp3
    have hw : ws = [] := by
      have := c2.1
      simpa using this
    subst hw
    cases kd with
    | tup l =>
      obtain ⟨b, vs, rfl, t1, t2⟩ := den_tup.mp hkv
      have ek' := keys_den (show allM keyD? l = some ks from ek) t2
      subst ek'
      have t3 := t1.ext e3
      have ex : Ext H3 (upd H3 p (.dT [(ks.map keyV, vv)])) := Ext.mut c1 True.intro
      refine ⟨c1, b, ks.map keyV, rfl, t3, ?_⟩
      refine q3 et3 _ List.prefix_rfl ex (hr3.set ec hp3 rfl c1 True.intro ⟨_, upd_same, rfl, ?_⟩) _ (den_ref.mpr ⟨p, hp3, rfl⟩)
      exact denL_cons.mpr ⟨vv, [], rfl, hvv.mono List.prefix_rfl ex, denL_nil.mpr rfl⟩
    | _ => cases ek
  · exact q3.elim
end
@[simp] theorem ap_mDictP {mk mv : ME} {env : EV} {h : IH} : mDictP mk mv env h = (mk env (h ++ [.dt []])).bind fun k h1 => (mv env h1).bind fun v h2 => match keyT? k, h2[h.length]? with
  | some ks, some (.dt []) => .ok (.ref h.length) (h2.set h.length (.dt [(ks, v)]))
  | _, _ => .no := rfl
end NR

set_option Elab.async false
set_option linter.all false
set_option maxRecDepth 100000
/-! zip with a plain name as target: what was handed out may still stand. -/
namespace NR
open PySem PySem.Spec PyProof.Rows L2
open Sem (wp)
abbrev IsZipG (h : Heap) (z TI TO : Addr) (m : Value) (f : Bool) : Prop :=
  h.get? z = some { cls := .type "zip", dict := none, data := .fields #[m, .bool f, .bool false, .ref TI, .ref TO], slots := #[] }
/-- nothing handed out, or a tuple -/
def ZOut (m : Value) : Prop := m = .none ∨ ∃ T : Addr, m = rawInt (T : Nat)
section
variable {prog : Program} {w : World} {A : Around} {E : Value → Shared → Prop} {s : Shared} {z TI TO i1 i2 : Addr} {fp1 fp2 : List Addr} {n1 n2 i : Nat} {P1 P2 : Nat → Value → Prop} {St1 St2 : Nat → Heap → Prop} {a1 a2 m : Value} {f : Bool}
theorem aliveQ {a : Addr} {Q : Option Obj → Shared → Prop} (h : Q (s.heap.get? a) s) : wpAny (model prog w) A (loadIfAlive a) Q E s := fun _ _ _ => h
/-- free or not -/
theorem zip_free {Q : Bool → Shared → Prop} (hz : IsZipG s.heap z TI TO m f) (hm : ZOut m) (ht : Q true s)
    (hf : ∀ h', IsZipG h' z TI TO m true → Heap.SameBut z s.heap h' → Q false { s with heap := h' }) : wpAny (model prog w) A (Builtin.SmallTypes.ownedTupleIsFree (.ref z)) Q E s := by
  rcases hm with rfl | ⟨T, rfl⟩
  · unfold Builtin.SmallTypes.ownedTupleIsFree
    exact wpAny_bind (wpAny_field hz rfl (x := .none) rfl (wpAny_pure ht))
  · cases hT : s.heap.get? T with
    | some oT => exact wpAny_tupleHeld_zip (f := f) hz hT fun h' q1 q2 => hf h' q1 q2
    | none =>
      unfold Builtin.SmallTypes.ownedTupleIsFree
      refine wpAny_bind (wpAny_field hz rfl (x := rawInt (T : Nat)) rfl ?_)
      show wpAny _ _ (loadIfAlive ((T : Int).toNat) >>= _) _ _ _
      rw [Int.toNat_natCast]
      refine wpAny_bind (aliveQ ?_)
      rw [hT]
      exact wpAny_pure ht
theorem zipG_next_item {Q : Value → Shared → Prop} (S : ZipSep2 z TI TO i1 i2 fp1 fp2) (D1 : Draws prog w A i1 fp1 n1 P1 St1) (D2 : Draws prog w A i2 fp2 n2 P2 St2)
    (hz : IsZipG s.heap z TI TO m f) (hm : ZOut m) (hTI : IsTupOf2 s.heap TI (.ref i1) (.ref i2)) (hTO : IsTupOf2 s.heap TO a1 a2) (st1 : St1 i s.heap) (st2 : St2 i s.heap) (hlt1 : i < n1) (hlt2 : i < n2)
    (hQ : ∀ x1 x2 h' tk m' f', P1 i x1 → P2 i x2 → IsZipG h' z TI TO m' f' → ZOut m' → (∃ b1 b2, IsTupOf2 h' TO b1 b2) → St1 (i + 1) h' → St2 (i + 1) h' → IsTupOf2 h' s.heap.objs.size x1 x2 → h'.objs.size = s.heap.objs.size + 1 →
      (∀ c o, c ≠ z → c ≠ TO → c ≠ i1 → c ≠ i2 → s.heap.get? c = some o → h'.get? c = some o) → Q (.ref s.heap.objs.size) { s with heap := h', toks := tk }) :
    wpAny (model prog w) A (Builtin.«zip.__next__» ⟨[.ref z], []⟩) (fun fin s' => ∃ v, fin = .done (.ret v) ∧ Q v s') E s := by
  obtain ⟨hp, g, d, tk0, os⟩ := s
  show wpAny _ _ (field (.ref z) 2 >>= _) _ _ _
  refine wpAny_bind (wpAny_field hz rfl (x := .bool false) rfl ?_)
  show wpAny _ _ (field (.ref z) 3 >>= _) _ _ _
  refine wpAny_bind (wpAny_field hz rfl (x := .ref TI) rfl ?_)
  refine wpAny_bind (wpAny_seqItems hTI rfl ?_)
  show wpAny _ _ (Builtin.SmallTypes.ownedTupleIsFree (.ref z) >>= _) _ _ _
  refine wpAny_bind (zip_free hz hm ?_ ?_)
  · simp only [if_true]
    refine wpAny_bind (wpAny_rule ?_)
    refine wpAny_bind (wpAny_field hz rfl (x := .ref TO) rfl ?_)
    refine wpAny_bind (wpAny_setField_rec hz (by simp) fun g0 hz0 hs0 => ?_)
    replace hz0 : IsZipG g0 z TI TO .ellipsis f := hz0
    replace hs0 : Heap.SameBut z hp g0 := hs0
    refine wpAny_bind ?_
    simp only [List.zipIdx_cons, List.zipIdx_nil, List.forIn_cons, List.forIn_nil]
    refine wpAny_bind (wpAny_bind (wpAny_onRaise ?_))
    show wpAny _ _ (Builtin.SmallTypes.nextOf (.ref i1) >>= _) _ _ ⟨g0, g, d, tk0, os⟩
    refine wpAny_bind (D1.item i _ _ _ hlt1 (D1.over st1 hs0 S.zf1) fun x1 p1 tk1 hx1 sn1 hp1 => wpAny_pure ?_)
    replace hp1 : Heap.SameBut i1 g0 p1 := hp1
    have hU1 : IsTupOf2 p1 TO a1 a2 := hp1.extBut _ _ S.Ti1 (hs0.extBut _ _ S.TOz hTO)
    refine wpAny_bind (wpAny_seqItems (s := ⟨p1, g, d, tk1, os⟩) hU1 rfl ?_)
    refine wpAny_bind (updateSeq_IsTupOf2 (s := ⟨p1, g, d, tk1, os⟩) hU1 fun g1 hT1 hs1 => ?_)
    replace hT1 : IsTupOf2 g1 TO x1 a2 := hT1
    replace hs1 : Heap.SameBut TO p1 g1 := hs1
    refine wpAny_bind (wpAny_letGo (wpAny_pure ?_))
    refine wpAny_bind (wpAny_bind (wpAny_onRaise ?_))
    show wpAny _ _ (Builtin.SmallTypes.nextOf (.ref i2) >>= _) _ _ ⟨g1, g, d, tk1, os⟩
    refine wpAny_bind (D2.item i _ _ _ hlt2 (D2.over (D2.over (D2.over st2 hs0 S.zf2) hp1 S.sep1_2) hs1 S.Tf2) fun x2 p2 tk2 hx2 sn2 hp2 => wpAny_pure ?_)
    replace hp2 : Heap.SameBut i2 g1 p2 := hp2
    have hU2 : IsTupOf2 p2 TO x1 a2 := hp2.extBut _ _ S.Ti2 hT1
    refine wpAny_bind (wpAny_seqItems (s := ⟨p2, g, d, tk2, os⟩) hU2 rfl ?_)
    refine wpAny_bind (updateSeq_IsTupOf2 (s := ⟨p2, g, d, tk2, os⟩) hU2 fun g2 hT2 hs2 => ?_)
    replace hT2 : IsTupOf2 g2 TO x1 x2 := hT2
    replace hs2 : Heap.SameBut TO p2 g2 := hs2
    refine wpAny_bind (wpAny_letGo (wpAny_pure (wpAny_pure ?_)))
    refine wpAny_bind (wpAny_seqItems (s := ⟨g2, g, d, tk2, os⟩) hT2 rfl ?_)
    refine wpAny_bind (wpAny_newTuple ?_)
    have hsz : g2.objs.size = hp.objs.size := by rw [hs2.1, hp2.1, hs1.1, hp1.1, hs0.1]
    have hzz : IsZipG g2 z TI TO .ellipsis f := (hs2.extBut _ _ S.TOz.symm (hp2.extBut _ _ S.zi2 (hs1.extBut _ _ S.TOz.symm (hp1.extBut _ _ S.zi1 hz0))))
    have hkk : ∀ c o, c ≠ z → c ≠ TO → c ≠ i1 → c ≠ i2 → hp.get? c = some o → g2.get? c = some o := fun c o cz cT c1 c2 e =>
      (hs2.extBut _ _ cT (hp2.extBut _ _ c2 (hs1.extBut _ _ cT (hp1.extBut _ _ c1 (hs0.extBut _ _ cz e)))))
    have hj1 : St1 (i + 1) g2 := (D1.over (D1.over (D1.over sn1 hs1 S.Tf1) hp2 S.sep2_1) hs2 S.Tf1)
    have hj2 : St2 (i + 1) g2 := (D2.over sn2 hs2 S.Tf2)
    have hzlt : z < g2.objs.size := Heap.lt_size hzz
    show wpAny _ _ (Builtin.SmallTypes.ownedTupleHandOut (.ref z) (.ref g2.objs.size) >>= _) _ _ ⟨g2.push { cls := .type "tuple", data := .seq #[x1, x2] }, g, d, tk2, os⟩
    refine wpAny_bind ?_
    unfold Builtin.SmallTypes.ownedTupleHandOut
    have hz₆ : IsZipG (g2.push { cls := .type "tuple", data := .seq #[x1, x2] }) z TI TO .ellipsis f := Heap.get?_push_of_some _ hzz
    refine wpAny_bind (wpAny_setField_rec hz₆ (by simp) fun h₇ hz₇ hs₇ => ?_)
    replace hz₇ : IsZipG h₇ z TI TO (rawInt g2.objs.size) f := hz₇
    refine wpAny_setField_rec hz₇ (by simp) fun h₈ hz₈ hs₈ => ?_
    replace hz₈ : IsZipG h₈ z TI TO (rawInt g2.objs.size) false := hz₈
    replace hs₇ : Heap.SameBut z (g2.push { cls := .type "tuple", data := .seq #[x1, x2] }) h₇ := hs₇
    replace hs₈ : Heap.SameBut z h₇ h₈ := hs₈
    have up : ∀ c o, c ≠ z → g2.get? c = some o → h₈.get? c = some o := fun c o c1 e => hs₈.extBut _ _ c1 (hs₇.extBut _ _ c1 (Heap.get?_push_of_some _ e))
    have hT₈ : IsTupOf2 h₈ g2.objs.size x1 x2 := hs₈.extBut _ _ (Nat.ne_of_gt hzlt) (hs₇.extBut _ _ (Nat.ne_of_gt hzlt) (Heap.get?_push_size _ rfl))
    have hz8 : h₈.objs.size = g2.objs.size + 1 := by rw [hs₈.1, hs₇.1, Heap.size_push]
    rw [hsz] at hz₈ hT₈ hz8
    refine wpAny_pure ⟨_, rfl, ?_⟩
    show Q (.ref g2.objs.size) ⟨h₈, g, d, tk2, os⟩
    rw [hsz]
    exact hQ x1 x2 h₈ tk2 _ false hx1 hx2 hz₈ (.inr ⟨_, rfl⟩) ⟨_, _, up _ _ S.TOz hT2⟩ (D1.frame _ _ _ hj1 fun b hb o e => up b o (fun q => S.zf1 (q ▸ hb)) e) (D2.frame _ _ _ hj2 fun b hb o e => up b o (fun q => S.zf2 (q ▸ hb)) e) hT₈ hz8 fun c o cz cT c1 c2 e => up c o cz (hkk c o cz cT c1 c2 e)
  · intro h₁ hz₁ hs₁
    replace hs₁ : Heap.SameBut z hp h₁ := hs₁
    simp only [Bool.false_eq_true, if_false]
    refine wpAny_bind ?_
    rw [← Array.forIn_toList]
    simp only [List.forIn_cons, List.forIn_nil]
    refine wpAny_bind (wpAny_bind (wpAny_holding ?_))
    show wpAny _ _ (Builtin.SmallTypes.nextOf (.ref i1) >>= _) _ _ ⟨h₁, g, d, tk0, os⟩
    refine wpAny_bind (D1.item i _ _ _ hlt1 (D1.over st1 hs₁ S.zf1) fun x1 p1 tk1 hx1 sn1 hp1 => wpAny_pure ?_)
    replace hp1 : Heap.SameBut i1 h₁ p1 := hp1
    refine wpAny_pure ?_
    refine wpAny_bind (wpAny_bind (wpAny_holding ?_))
    show wpAny _ _ (Builtin.SmallTypes.nextOf (.ref i2) >>= _) _ _ ⟨p1, g, d, tk1, os⟩
    refine wpAny_bind (D2.item i _ _ _ hlt2 (D2.over (D2.over st2 hs₁ S.zf2) hp1 S.sep1_2) fun x2 p2 tk2 hx2 sn2 hp2 => wpAny_pure ?_)
    replace hp2 : Heap.SameBut i2 p1 p2 := hp2
    refine wpAny_pure (wpAny_pure ?_)
    show wpAny _ _ (newTuple [x1, x2] >>= _) _ _ ⟨p2, g, d, tk2, os⟩
    refine wpAny_bind (wpAny_newTuple ?_)
    have hsz : p2.objs.size = hp.objs.size := by rw [hp2.1, hp1.1, hs₁.1]
    have hz₃ : IsZipG p2 z TI TO m true := hp2.extBut _ _ S.zi2 (hp1.extBut _ _ S.zi1 hz₁)
    have hk : ∀ c o, c ≠ z → c ≠ i1 → c ≠ i2 → hp.get? c = some o → p2.get? c = some o := fun c o c1 c2 c3 e => hp2.extBut _ _ c3 (hp1.extBut _ _ c2 (hs₁.extBut _ _ c1 e))
    have hj1 : St1 (i + 1) p2 := D1.over sn1 hp2 S.sep2_1
    refine wpAny_pure ⟨_, rfl, ?_⟩
    show Q (.ref p2.objs.size) ⟨p2.push { cls := .type "tuple", data := .seq #[x1, x2] }, g, d, tk2, os⟩
    have hp' : IsTupOf2 (p2.push { cls := .type "tuple", data := .seq #[x1, x2] }) p2.objs.size x1 x2 := Heap.get?_push_size _ rfl
    have hz4 : (p2.push { cls := .type "tuple", data := .seq #[x1, x2] }).objs.size = p2.objs.size + 1 := Heap.size_push ..
    rw [hsz] at hp' hz4 ⊢
    exact hQ x1 x2 _ tk2 m true hx1 hx2 (Heap.get?_push_of_some _ hz₃) hm ⟨_, _, Heap.get?_push_of_some _ (hk _ _ S.TOz S.Ti1 S.Ti2 hTO)⟩ (D1.frame _ _ _ hj1 fun b hb o e => Heap.get?_push_of_some _ e) (D2.frame _ _ _ sn2 fun b hb o e => Heap.get?_push_of_some _ e) hp' hz4 fun c o cz cT c1 c2 e => Heap.get?_push_of_some _ (hk c o cz c1 c2 e)
theorem zipG_next_end {Q : Fin → Shared → Prop} (hh : A.handled = none) (S : ZipSep2 z TI TO i1 i2 fp1 fp2) (D1 : Draws prog w A i1 fp1 n1 P1 St1) (D2 : Draws prog w A i2 fp2 n2 P2 St2)
    (hz : IsZipG s.heap z TI TO m f) (hm : ZOut m) (hTI : IsTupOf2 s.heap TI (.ref i1) (.ref i2)) (hTO : IsTupOf2 s.heap TO a1 a2) (st1 : St1 i s.heap) (st2 : St2 i s.heap) (hle1 : i ≤ n1) (hle2 : i ≤ n2) (hend : i = n1 ∨ i = n2)
    (hE : ∀ h' tk e, (∀ c o, c ≠ z → c ≠ TO → c ≠ i1 → c ≠ i2 → s.heap.get? c = some o → h'.get? c = some o) → (∃ o, h'.get? e = some o ∧ o.cls = .type "StopIteration") → E (.ref e) { s with heap := h', toks := tk }) :
    wpAny (model prog w) A (Builtin.«zip.__next__» ⟨[.ref z], []⟩) Q E s := by
  obtain ⟨hp, g, d, tk0, os⟩ := s
  show wpAny _ _ (field (.ref z) 2 >>= _) _ _ _
  refine wpAny_bind (wpAny_field hz rfl (x := .bool false) rfl ?_)
  show wpAny _ _ (field (.ref z) 3 >>= _) _ _ _
  refine wpAny_bind (wpAny_field hz rfl (x := .ref TI) rfl ?_)
  refine wpAny_bind (wpAny_seqItems hTI rfl ?_)
  show wpAny _ _ (Builtin.SmallTypes.ownedTupleIsFree (.ref z) >>= _) _ _ _
  refine wpAny_bind (zip_free hz hm ?_ ?_)
  · simp only [if_true]
    refine wpAny_bind (wpAny_rule ?_)
    refine wpAny_bind (wpAny_field hz rfl (x := .ref TO) rfl ?_)
    refine wpAny_bind (wpAny_setField_rec hz (by simp) fun g0 hz0 hs0 => ?_)
    replace hz0 : IsZipG g0 z TI TO .ellipsis f := hz0
    replace hs0 : Heap.SameBut z hp g0 := hs0
    refine wpAny_bind ?_
    simp only [List.zipIdx_cons, List.zipIdx_nil, List.forIn_cons, List.forIn_nil]
    refine wpAny_bind (wpAny_bind (wpAny_onRaise ?_))
    show wpAny _ _ (Builtin.SmallTypes.nextOf (.ref i1) >>= _) _ _ ⟨g0, g, d, tk0, os⟩
    by_cases hlt1 : i < n1
    · refine wpAny_bind (D1.item i _ _ _ hlt1 (D1.over st1 hs0 S.zf1) fun x1 p1 tk1 hx1 sn1 hp1 => wpAny_pure ?_)
      replace hp1 : Heap.SameBut i1 g0 p1 := hp1
      have hU1 : IsTupOf2 p1 TO a1 a2 := hp1.extBut _ _ S.Ti1 (hs0.extBut _ _ S.TOz hTO)
      refine wpAny_bind (wpAny_seqItems (s := ⟨p1, g, d, tk1, os⟩) hU1 rfl ?_)
      refine wpAny_bind (updateSeq_IsTupOf2 (s := ⟨p1, g, d, tk1, os⟩) hU1 fun g1 hT1 hs1 => ?_)
      replace hT1 : IsTupOf2 g1 TO x1 a2 := hT1
      replace hs1 : Heap.SameBut TO p1 g1 := hs1
      refine wpAny_bind (wpAny_letGo (wpAny_pure ?_))
      have hi2 : i = n2 := by omega
      refine wpAny_bind (wpAny_bind (wpAny_onRaise ?_))
      show wpAny _ _ (Builtin.SmallTypes.nextOf (.ref i2) >>= _) _ _ ⟨g1, g, d, tk1, os⟩
      refine wpAny_bind (D2.done ⟨g1, g, d, tk1, os⟩ _ _ (by rw [← hi2]; exact (D2.over (D2.over (D2.over st2 hs0 S.zf2) hp1 S.sep1_2) hs1 S.Tf2)) fun q e hq he => ?_)
      replace hq : Heap.ExtBut i2 g1 q := hq
      obtain ⟨oe, hoe, hce⟩ := he
      replace hoe : q.get? e = some oe := hoe
      have hzq : IsZipG q z TI TO .ellipsis f := hq _ _ S.zi2 (hs1.extBut _ _ S.TOz.symm (hp1.extBut _ _ S.zi1 hz0))
      have hez : e ≠ z := fun x => by subst x; rw [hzq] at hoe; cases hoe; simp at hce
      refine wpAny_setField_rec (s := ⟨q, g, d, tk1, os⟩) hzq (by simp) fun q' _ hq' => ?_
      replace hq' : Heap.SameBut z q q' := hq'
      exact hE q' tk1 e (fun c o cz cT c1 c2 x => hq'.extBut _ _ cz (hq _ _ c2 (hs1.extBut _ _ cT (hp1.extBut _ _ c1 (hs0.extBut _ _ cz x))))) ⟨oe, hq'.extBut _ _ hez hoe, hce⟩
    · have hi1 : i = n1 := by omega
      refine wpAny_bind (D1.done ⟨g0, g, d, tk0, os⟩ _ _ (by rw [← hi1]; exact (D1.over st1 hs0 S.zf1)) fun q e hq he => ?_)
      replace hq : Heap.ExtBut i1 g0 q := hq
      obtain ⟨oe, hoe, hce⟩ := he
      replace hoe : q.get? e = some oe := hoe
      have hzq : IsZipG q z TI TO .ellipsis f := hq _ _ S.zi1 hz0
      have hez : e ≠ z := fun x => by subst x; rw [hzq] at hoe; cases hoe; simp at hce
      refine wpAny_setField_rec (s := ⟨q, g, d, tk0, os⟩) hzq (by simp) fun q' _ hq' => ?_
      replace hq' : Heap.SameBut z q q' := hq'
      exact hE q' tk0 e (fun c o cz cT c1 c2 x => hq'.extBut _ _ cz (hq _ _ c1 (hs0.extBut _ _ cz x))) ⟨oe, hq'.extBut _ _ hez hoe, hce⟩
  · intro h₁ hz₁ hs₁
    replace hs₁ : Heap.SameBut z hp h₁ := hs₁
    simp only [Bool.false_eq_true, if_false]
    refine wpAny_bind ?_
    rw [← Array.forIn_toList]
    simp only [List.forIn_cons, List.forIn_nil]
    refine wpAny_bind (wpAny_bind (wpAny_holding ?_))
    show wpAny _ _ (Builtin.SmallTypes.nextOf (.ref i1) >>= _) _ _ ⟨h₁, g, d, tk0, os⟩
    by_cases hlt1 : i < n1
    · refine wpAny_bind (D1.item i _ _ _ hlt1 (D1.over st1 hs₁ S.zf1) fun x1 p1 tk1 hx1 sn1 hp1 => wpAny_pure ?_)
      replace hp1 : Heap.SameBut i1 h₁ p1 := hp1
      have hi2 : i = n2 := by omega
      refine wpAny_pure ?_
      refine wpAny_bind (wpAny_bind (wpAny_holding ?_))
      show wpAny _ _ (Builtin.SmallTypes.nextOf (.ref i2) >>= _) _ _ ⟨p1, g, d, tk1, os⟩
      refine wpAny_bind (D2.done ⟨p1, g, d, tk1, os⟩ _ _ (by rw [← hi2]; exact D2.over (D2.over st2 hs₁ S.zf2) hp1 S.sep1_2) fun q e hq he => ?_)
      replace hq : Heap.ExtBut i2 p1 q := hq
      exact hE q tk1 e (fun c o cz cT c1 c2 x => hq _ _ c2 (hp1.extBut _ _ c1 (hs₁.extBut _ _ cz x))) he
    · have hi1 : i = n1 := by omega
      refine wpAny_bind (D1.done ⟨h₁, g, d, tk0, os⟩ _ _ (by rw [← hi1]; exact D1.over st1 hs₁ S.zf1) fun q e hq he => ?_)
      replace hq : Heap.ExtBut i1 h₁ q := hq
      exact hE q tk0 e (fun c o cz cT c1 c2 x => hq _ _ c1 (hs₁.extBut _ _ cz x)) he
theorem pyNext_zipG_item {Q : Option Value → Shared → Prop} (S : ZipSep2 z TI TO i1 i2 fp1 fp2) (D1 : Draws prog w A.in1 i1 fp1 n1 P1 St1) (D2 : Draws prog w A.in1 i2 fp2 n2 P2 St2)
    (hz : IsZipG s.heap z TI TO m f) (hm : ZOut m) (hTI : IsTupOf2 s.heap TI (.ref i1) (.ref i2)) (hTO : IsTupOf2 s.heap TO a1 a2) (st1 : St1 i s.heap) (st2 : St2 i s.heap) (hlt1 : i < n1) (hlt2 : i < n2)
    (hQ : ∀ x1 x2 h' tk m' f', P1 i x1 → P2 i x2 → IsZipG h' z TI TO m' f' → ZOut m' → (∃ b1 b2, IsTupOf2 h' TO b1 b2) → St1 (i + 1) h' → St2 (i + 1) h' → IsTupOf2 h' s.heap.objs.size x1 x2 → h'.objs.size = s.heap.objs.size + 1 →
      (∀ c o, c ≠ z → c ≠ TO → c ≠ i1 → c ≠ i2 → s.heap.get? c = some o → h'.get? c = some o) → Q (some (.ref s.heap.objs.size)) { s with heap := h', toks := tk }) :
    wpAny (model prog w) A (pyNext (.ref z)) Q E s := by
  have hT : s.TypeIs (.ref z) "zip" := ⟨_, hz, rfl⟩
  unfold pyNext
  exact wpAny_bind (wpAny_attempt (wpAny_callSpecial?_slot (name := Str.ofString "__next__") hT F.slot_zip_next
    (wpAny_call_entry F.slot_zip_next hT F.entry_zip_next
      (zipG_next_item S D1 D2 hz hm hTI hTO st1 st2 hlt1 hlt2 fun x1 x2 h' tk m' f' y1 y2 b1 b2 b3 d1 d2 b5 b6 b7 => wpAny_pure (hQ x1 x2 h' tk m' f' y1 y2 b1 b2 b3 d1 d2 b5 b6 b7)) (F.args_zip_next_1 _))))
theorem pyNext_zipG_end {Q : Option Value → Shared → Prop} (hh : A.in1.handled = none) (S : ZipSep2 z TI TO i1 i2 fp1 fp2) (D1 : Draws prog w A.in1 i1 fp1 n1 P1 St1) (D2 : Draws prog w A.in1 i2 fp2 n2 P2 St2)
    (hz : IsZipG s.heap z TI TO m f) (hm : ZOut m) (hTI : IsTupOf2 s.heap TI (.ref i1) (.ref i2)) (hTO : IsTupOf2 s.heap TO a1 a2) (st1 : St1 i s.heap) (st2 : St2 i s.heap) (hle1 : i ≤ n1) (hle2 : i ≤ n2) (hend : i = n1 ∨ i = n2)
    (hQ : ∀ h' tk, (∀ c o, c ≠ z → c ≠ TO → c ≠ i1 → c ≠ i2 → s.heap.get? c = some o → h'.get? c = some o) → Q none { s with heap := h', toks := tk }) :
    wpAny (model prog w) A (pyNext (.ref z)) Q E s := by
  have hT : s.TypeIs (.ref z) "zip" := ⟨_, hz, rfl⟩
  unfold pyNext
  refine wpAny_bind (wpAny_attempt (wpAny_callSpecial?_slot (name := Str.ofString "__next__") hT F.slot_zip_next
    (wpAny_call_entry F.slot_zip_next hT F.entry_zip_next (zipG_next_end hh S D1 D2 hz hm hTI hTO st1 st2 hle1 hle2 hend fun h' tk e hk he => ?_) (F.args_zip_next_1 _))))
  obtain ⟨o, ho, hc⟩ := he
  refine wpAny_bind (wpAny_isInstance (T := "StopIteration") (b := true) ⟨o, ho, hc⟩ isSubtype_stop ?_)
  exact wpAny_pure (hQ _ _ hk)
end
def ZstN (k1 k2 : Kd) (n N : Nat) (i : Nat) (h : Heap) : Prop :=
  i ≤ n ∧ (∃ m f, IsZipG h (N + 4) (N + 2) (N + 3) m f ∧ ZOut m) ∧ IsTupOf2 h (N + 2) (.ref N) (.ref (N + 1)) ∧ (∃ a b, IsTupOf2 h (N + 3) a b) ∧ k1.It h N i ∧ k2.It h (N + 1) i
theorem ZstN.obj {k1 k2 : Kd} {n N i : Nat} {h : Heap} (q : ZstN k1 k2 n N i h) : ∀ b ∈ [N + 4, N + 2, N + 3, N, N + 1], ∃ o, h.get? b = some o ∧ ∀ v, o.data ≠ .cell v := by
  obtain ⟨_, ⟨m, f, z, _⟩, ti, ⟨a, b, to⟩, p1, p2⟩ := q
  intro c hc
  have : c = N + 4 ∨ c = N + 2 ∨ c = N + 3 ∨ c = N ∨ c = N + 1 := by simpa using hc
  rcases this with e | e | e | e | e <;> subst e
  · exact ⟨_, z, fun v x => nomatch x⟩
  · exact ⟨_, ti, fun v x => nomatch x⟩
  · exact ⟨_, to, fun v x => nomatch x⟩
  · exact p1.obj
  · exact p2.obj
section
variable {P : Program} {w : World} {K : PySem.W.Frag} {x : Str} {tpos : Pos}
theorem turn_zqN (k1 k2 : Kd) (n N : Nat) (h1 : ∀ b ∈ k1.ad, b < N) (h2 : ∀ b ∈ k2.ad, b < N) :
    Turn P w K (.Name x tpos) (Itq K k1 k2 n) [N + 4, N + 2, N + 3, N, N + 1] (N + 4) (ZstN k1 k2 n N) where
  mem := by simp
  obj := fun i h q => q.obj
  keep := fun i h h' q k => by
    obtain ⟨l, ⟨m, f, z, hm⟩, ti, ⟨a, b, to⟩, p1, p2⟩ := q
    exact ⟨l, ⟨m, f, k _ (by simp) _ z, hm⟩, k _ (by simp) _ ti, ⟨a, b, k _ (by simp) _ to⟩, p1.keep fun o e => k _ (by simp) o e, p2.keep fun o e => k _ (by simp) o e⟩
  item := by
    intro X hP hw hK hc i pins s σ H E I hf st hg
    subst hP hw hK
    obtain ⟨hlt, xs, ys, a1, a2, hn⟩ := hg
    have live : ∀ b ∈ [N + 4, N + 2, N + 3, N, N + 1], b < s.heap.objs.size := fun b hb => by
      obtain ⟨o, e, _⟩ := st.obj b hb
      exact Heap.lt_size e
    obtain ⟨hle, ⟨m, f, hz, hm⟩, hTI, ⟨b1, b2, hTO⟩, q1, q2⟩ := st
    obtain ⟨P1, S1, D1, s1, r1, g1⟩ := Kd.draws (A := X.A.in1) I k1 a1 q1 (ad_new (j := 0) h1) (I.ok.hd hc)
    obtain ⟨P2, S2, D2, s2, r2, g2⟩ := Kd.draws (A := X.A.in1) I k2 a2 q2 (ad_new (j := 1) h2) (I.ok.hd hc)
    refine pyNext_zipG_item (zip_sep2 h1 h2) D1 D2 hz hm hTI hTO s1 s2 (by omega) (by omega) fun u1 u2 h' tk m' f' pu1 pu2 hz' hm' hTO' st1' st2' hTup hsz hk => ?_
    refine ⟨_, rfl, wpAny_pure ?_⟩
    have hTI' : IsTupOf2 h' (N + 2) (.ref N) (.ref (N + 1)) := hk _ _ (zip_sep2 h1 h2).TIz (zip_sep2 h1 h2).TITO (zip_sep2 h1 h2).TIi1 (zip_sep2 h1 h2).TIi2 hTI
    have hT : s.heap.objs.size ≤ s.heap.objs.size := Nat.le_refl _
    obtain ⟨x, hx, rx⟩ := r1 _ _ pu1
    obtain ⟨y, hy, ry⟩ := r2 _ _ pu2
    have new : ObjOk X.prog X.w (upd H s.heap.objs.size (.tup [x, y])) h' s.heap.objs.size (.tup [x, y]) := ⟨by show 2 ≤ sizeLine; decide, [u1, u2], .cons rx (.cons ry .nil), ⟨_, hTup, rfl, _, rfl⟩⟩
    have I1 := I.turnedNew (t' := tk) (ch := [N + 4, N + 2, N + 3, N, N + 1]) (fun b o hb e => hk b o (fun z => hb (by simp [z])) (fun z => hb (by simp [z])) (fun z => hb (by simp [z])) (fun z => hb (by simp [z])) e) hf hT new
    refine ⟨.ref s.heap.objs.size, _, I1, rfl, ⟨_, x, y, rfl, I.hok.fresh hT, rfl, fun l hl => ?_, fun l hl => ?_⟩, ⟨hlt, ⟨m', f', hz', hm'⟩, hTI', hTO', g1 _ _ st1', g2 _ _ st2'⟩, fun b hb => ?_⟩
    · rw [Kd.At.inj I hl a1]; exact hx
    · rw [Kd.At.inj I hl a2]; exact hy
    · rw [upd_ne (Nat.ne_of_lt (live b hb))]
      exact (hf b hb).1
  done := by
    intro X hP hw hK hc i pins s σ H E I hf st hg
    subst hP hw hK
    obtain ⟨hge, xs, ys, a1, a2, hn⟩ := hg
    obtain ⟨hle, ⟨m, f, hz, hm⟩, hTI, ⟨b1, b2, hTO⟩, q1, q2⟩ := st
    have hi : i = min xs.length ys.length := by omega
    obtain ⟨P1, S1, D1, s1, r1, g1⟩ := Kd.draws (A := X.A.in1) I k1 a1 q1 (ad_new (j := 0) h1) (I.ok.hd hc)
    obtain ⟨P2, S2, D2, s2, r2, g2⟩ := Kd.draws (A := X.A.in1) I k2 a2 q2 (ad_new (j := 1) h2) (I.ok.hd hc)
    refine pyNext_zipG_end (I.ok.hd hc) (zip_sep2 h1 h2) D1 D2 hz hm hTI hTO s1 s2 (by omega) (by omega) (by omega) fun h' tk hk => ⟨rfl, ?_⟩
    exact I.turnedL (t' := tk) (ch := [N + 4, N + 2, N + 3, N, N + 1]) (fun b o hb e => hk b o (fun z => hb (by simp [z])) (fun z => hb (by simp [z])) (fun z => hb (by simp [z])) (fun z => hb (by simp [z])) e) hf
  self := fun A i s Q E st h => by
    obtain ⟨_, ⟨m, f, hz, hm⟩, _⟩ := st
    have hT : s.TypeIs (.ref (N + 4)) "zip" := ⟨_, hz, rfl⟩
    refine wpAny_pyIter_slot hT F.slot_zip_iter (wpAny_call_entry F.slot_zip_iter hT F.entry_zip_iter ?_ (F.args_zip_iter_1 _))
    show wpAny _ _ (ret (.ref (N + 4))) _ _ s
    exact wpAny_pure ⟨_, rfl, "zip", _, hT, F.slot_zip_next.lookup, h⟩
end
section
variable {X : Cx} {e e2 : Expr} {ta : TA} {p pos tpos : Pos} {nx : Str}
theorem pi_zqN (hg : Gl X "zip") (hm : X.mg "zip" = none) (ha : PA X [e, e2] ta) (hs : starEach [e, e2] X.env = (false, eval e X.env) :: starEach [e2] X.env := by rfl) (hpl : (backTo pos (starEach [e2] X.env)).any (·.1) = false := by rfl) :
    PI X (.Name nx tpos) (.Call (.Name "zip" p) [e, e2] [] pos) (iZq X.K ta) := by
  refine ⟨fun pins s σ H R I h => ?_⟩
  refine Call_ (ld_blt I hg hm PyProof.Rows.boot_zip (PyProof.Rows.callWith_type1 (thn (ha.run pos pins s σ H _ I h) fun us s1 ⟨vs, H1, I1, rr, k1, k2, xs, ys, ex, a1, a2, q⟩ => ?_) hs hpl))
  subst ex
  cases rr with
  | cons r rr =>
    cases rr with
    | cons r' rr =>
      cases rr
      obtain ⟨o1, B1, b1, t1, g1, l1⟩ := Kd.begins I1 k1 a1 r
      obtain ⟨o2, B2, b2, t2, g2, l2⟩ := Kd.begins I1 k2 a2 r'
      refine zip_begins2 b1 b2 t1 t2 fun h' hz hTI hTO hx hy hsz hk => wpAny_pyIter_zip hz ?_
      have I2 : Inv X pins σ H1 { s1 with heap := h' } := I1.kept (t' := s1.toks) hk
      refine ⟨s1.heap.objs.size + 4, [s1.heap.objs.size + 4, s1.heap.objs.size + 2, s1.heap.objs.size + 3, s1.heap.objs.size, s1.heap.objs.size + 1], _, _, H1, rfl, I2, turn_zqN k1 k2 (min xs.length ys.length) s1.heap.objs.size l1 l2, ⟨Nat.zero_le _, ⟨_, _, hz, .inl rfl⟩, hTI, ⟨_, _, hTO⟩, g1 _ _ hx, g2 _ _ hy⟩, fun b hb => ?_, q⟩
      have : b = s1.heap.objs.size + 4 ∨ b = s1.heap.objs.size + 2 ∨ b = s1.heap.objs.size + 3 ∨ b = s1.heap.objs.size ∨ b = s1.heap.objs.size + 1 := by simpa using hb
      have hle : s1.heap.objs.size ≤ b := by rcases this with z | z | z | z | z <;> rw [z] <;> simp
      exact I1.fpOk hle (I1.hok.fresh hle)
end
section
variable {X : Cx} {G : Cf} {W : WX} {e e2 : Expr} {mt : MA} {pos p tpos : Pos} {nx : Str}
theorem mi_zipN (hK : X.K = G.K) (ha : PA X [e, e2] (tA G W mt)) (hm : X.mg "zip" = none) (hg : Gl X "zip" := by rfl) (hs : starEach [e, e2] X.env = (false, eval e X.env) :: starEach [e2] X.env := by rfl) (hpl : (backTo pos (starEach [e2] X.env)).any (·.1) = false := by rfl) :
    PI X (.Name nx tpos) (.Call (.Name "zip" p) [e, e2] [] pos) (tI G W (iZip mt)) := PI.imp (pi_zqN hg hm ha hs hpl) fun σ H R ⟨et, env, h, hE, hH, hP⟩ => by
  rw [hK]
  refine ⟨et, env, h, hE, hH, (Pst.of_bind hP).imp fun et1 H1 h1 xs p e hr q vs hv => ?_⟩
  split at q
  · rename_i a b
    obtain ⟨v, w, rfl, ra, rb⟩ := list2 hv
    have dyn : ∀ l l', qOf h1 a = some l → qOf h1 b = some l' → Pst G et1 H1 (.ok (Src.dy (zipQ a b (min l.length l'.length))) h1) (fun et' H' _ src => ∀ J, JRel G et' H' src J → R J H') (fun c d H' => W c d σ H') → ∃ k1 k2 xs ys, [v, w] = [Kd.v k1, Kd.v k2] ∧ k1.At G.K H1 xs ∧ k2.At G.K H1 ys ∧ R (Itq G.K k1 k2 (min xs.length ys.length)) H1 := fun l l' ea eb q => by
      obtain ⟨v1, xs, d1, a1⟩ := q_kd hr ea ra
      obtain ⟨v2, ys, d2, a2⟩ := q_kd hr eb rb
      have n1 := d1.len
      have n2 := d2.len
      refine ⟨kdOf a v, kdOf b w, xs, ys, by rw [← v1, ← v2], a1, a2, q.here hr _ fun et2 H2 h2 p2 e2 R2 ok i => ?_⟩
      have ok' : (zipQ a b (min l.length l'.length) h2).isSome = true := ok
      obtain ⟨zs, ez⟩ := Option.isSome_iff_exists.mp ok'
      show (match (zipQ a b (min l.length l'.length) h2).bind fun xs => xs[i]? with | some d => _ | none => _)
      rw [ez]
      unfold zipQ at ez
      cases qa : qOf h2 a with
      | none => rw [qa] at ez; cases ez
      | some m =>
        cases qb : qOf h2 b with
        | none => rw [qa, qb] at ez; cases ez
        | some m' =>
          rw [qa, qb] at ez
          dsimp only at ez
          split at ez
          · rename_i hn
            cases ez
            obtain ⟨_, xs2, f1, b1⟩ := q_kd R2 qa (ra.mono p2 e2)
            obtain ⟨_, ys2, f2, b2⟩ := q_kd R2 qb (rb.mono p2 e2)
            have n3 := f1.len
            have n4 := f2.len
            show (match (List.zipWith (fun x y => D.tup [x, y]) m m')[i]? with | some d => _ | none => _)
            rw [List.getElem?_zipWith]
            cases e3 : m[i]? with
            | none =>
              have := List.getElem?_eq_none_iff.mp e3
              exact ⟨by omega, xs2, ys2, b1, b2, by omega⟩
            | some d =>
              cases e4 : m'[i]? with
              | none =>
                have := List.getElem?_eq_none_iff.mp e4
                exact ⟨by omega, xs2, ys2, b1, b2, by omega⟩
              | some d' =>
                have m1 := (List.getElem?_eq_some_iff.mp e3).1
                have m2 := (List.getElem?_eq_some_iff.mp e4).1
                refine ⟨⟨by omega, xs2, ys2, b1, b2, by omega⟩, fun z H' ⟨T, x, y, hz, hT, hH', hx, hy⟩ => ?_⟩
                subst hz hH'
                obtain ⟨v1, w1, r1⟩ := f1.get e3
                obtain ⟨v2, w2, r2⟩ := f2.get e4
                have x1 := hx _ b1
                have x2 := hy _ b2
                rw [w1] at x1
                rw [w2] at x2
                cases x1
                cases x2
                exact ⟨Ext.new hT, R2.new hT, den_pair (h := h2) hT r1 r2⟩
          · cases ez
    have alt : Pst G et1 H1 (match qOf h1 a, qOf h1 b with
      | some l, some l' => NR.R.ok (Src.dy (zipQ a b (min l.length l'.length))) h1
      | _, _ => .no) (fun et' H' _ src => ∀ J, JRel G et' H' src J → R J H') (fun c d H' => W c d σ H') → ∃ k1 k2 xs ys, [v, w] = [Kd.v k1, Kd.v k2] ∧ k1.At G.K H1 xs ∧ k2.At G.K H1 ys ∧ R (Itq G.K k1 k2 (min xs.length ys.length)) H1 := fun q => by
      cases qa : qOf h1 a with
      | none => rw [qa] at q; exact q.elim
      | some l =>
        cases qb : qOf h1 b with
        | none => rw [qa, qb] at q; exact q.elim
        | some l' => rw [qa, qb] at q; exact dyn l l' qa qb q
    cases ea : stOf a with
    | none => rw [ea] at q; exact alt q
    | some l =>
      cases eb : stOf b with
      | none => rw [ea, eb] at q; exact alt q
      | some l' =>
        rw [ea, eb] at q
        obtain ⟨k1, xs, rfl, d1, st1⟩ := stOf_kd ea ra
        obtain ⟨k2, ys, rfl, d2, st2⟩ := stOf_kd eb rb
        refine ⟨k1, k2, xs, ys, rfl, st1 _ (Ext.refl _), st2 _ (Ext.refl _), q.here hr _ (jrel_st fun et2 H2 h2 p2 e2 R2 i => ?_)⟩
        have n1 := d1.len
        have n2 := d2.len
        rw [List.getElem?_zipWith]
        cases e3 : l[i]? with
        | none =>
          have := List.getElem?_eq_none_iff.mp e3
          exact ⟨by omega, xs, ys, st1 _ e2, st2 _ e2, rfl⟩
        | some d =>
          cases e4 : l'[i]? with
          | none =>
            have := List.getElem?_eq_none_iff.mp e4
            exact ⟨by omega, xs, ys, st1 _ e2, st2 _ e2, rfl⟩
          | some d' =>
            have m1 := (List.getElem?_eq_some_iff.mp e3).1
            have m2 := (List.getElem?_eq_some_iff.mp e4).1
            refine ⟨⟨by omega, xs, ys, st1 _ e2, st2 _ e2, rfl⟩, fun z H' ⟨T, x, y, hz, hT, hH', hx, hy⟩ => ?_⟩
            subst hz hH'
            obtain ⟨v1, w1, r1⟩ := d1.get e3
            obtain ⟨v2, w2, r2⟩ := d2.get e4
            have x1 := hx _ (st1 _ e2)
            have x2 := hy _ (st2 _ e2)
            rw [w1] at x1
            rw [w2] at x2
            cases x1
            cases x2
            exact ⟨Ext.new hT, R2.new hT, den_pair (h := h2) hT (r1.mono p2 e2) (r2.mono p2 e2)⟩
  · exact q.elim
end
end NR

set_option Elab.async false
set_option linter.all false
set_option maxRecDepth 100000
set_option maxHeartbeats 4000000
namespace NR
open PySem PySem.Spec PyProof.Rows L2
/-! ### list(range(a, b)) -/
def mLstR (ma mb : ME) : ME := fun env h => (ma env h).bind fun x h1 => (mb env h1).bind fun y h2 => match x, y with
  | .int a, .int b => if -1000000 ≤ a ∧ a ≤ 1000000 ∧ -1000000 ≤ b ∧ b ≤ 1000000 then .ok (.ref h2.length) (h2 ++ [.lst (intsFrom a (b - a).toNat)]) else .no
  | _, _ => .no
section
variable {X : Cx} {G : Cf} {W : WX} {a b : Expr} {ma mb : ME} {p p2 pos pos2 : Pos}
theorem rg_den {G : Cf} {et : List Addr} {H : Hp} (i : Int) : ∀ (n : Nat) (s : Nat), DenL G et H ((List.range' s n).map fun k => D.int (i + (k : Nat))) ((List.range' s n).map fun k => V.int (i + (k : Nat)))
  | 0, s => by simp
  | n + 1, s => by
    rw [List.range'_succ, List.map_cons, List.map_cons]
    exact denL_cons.mpr ⟨_, _, rfl, den_int.mpr rfl, rg_den i n (s + 1)⟩
theorem me_lstR (hc : X.calm = true) (hm : X.mg "list" = none) (hm2 : X.mg "range" = none) (ha : PE X a (tE G W ma)) (hb : PE X b (tE G W mb)) (hg : Gl X "list" := by rfl) (hg2 : Gl X "range" := by rfl)
    (na : starEach [a, b] X.env = (false, eval a X.env) :: starEach [b] X.env := by rfl) (nb : starEach [b] X.env = (false, eval b X.env) :: starEach [] X.env := by rfl) (hp : (backTo pos2 (starEach [b] X.env)).any (·.1) = false := by rfl)
    (nl : starEach [.Call (.Name "range" p2) [a, b] [] pos2] X.env = (false, eval (.Call (.Name "range" p2) [a, b] [] pos2) X.env) :: starEach [] X.env := by rfl) :
    PE X (.Call (.Name "list" p) [.Call (.Name "range" p2) [a, b] [] pos2] [] pos) (tE G W (mLstR ma mb)) :=
  PE.imp (pe_listRg hc hg hm (prg_2 hg2 hm2 ha hb na nb hp) nl) fun σ H Q ⟨et, env, h, hE, hH, hP⟩ => by
    refine ⟨et, env, h, hE, hH, (Pst.of_bind hP).imp fun et1 H1 h1 x q1 e1 hr q v hv => ?_⟩
    refine ⟨et1, env, h1, hE.mono q1 e1, hr, (Pst.of_bind q).imp fun et2 H2 h2 y q2 e2 hr2 q' w hw => ?_⟩
    have hv2 := hv.mono q2 e2
    split at q'
    · rename_i i j
      split at q'
      · rename_i c
        refine ⟨i, j, den_int.mp hv2, den_int.mp hw, ⟨by omega, by omega, by omega, by omega, by omega⟩, ?_⟩
        refine q'.newL hr2 ?_
        have := rg_den (G := G) (et := et2) (H := H2) i (j - i).toNat 0
        unfold intsFrom rgV
        rw [List.range_eq_range']
        exact this
      · exact q'.elim
    · exact q'.elim
/-- list(range(n)) -/
theorem me_lstR1 (hc : X.calm = true) (hm : X.mg "list" = none) (hm2 : X.mg "range" = none) (hb : PE X b (tE G W mb)) (hg : Gl X "list" := by rfl) (hg2 : Gl X "range" := by rfl)
    (nb : starEach [b] X.env = (false, eval b X.env) :: starEach [] X.env := by rfl)
    (nl : starEach [.Call (.Name "range" p2) [b] [] pos2] X.env = (false, eval (.Call (.Name "range" p2) [b] [] pos2) X.env) :: starEach [] X.env := by rfl) :
    PE X (.Call (.Name "list" p) [.Call (.Name "range" p2) [b] [] pos2] [] pos) (tE G W (mLstR (mC (.int 0)) mb)) :=
  PE.imp (pe_listRg hc hg hm (prg_1 hg2 hm2 hb nb) nl) fun σ H Q ⟨et, env, h, hE, hH, hP⟩ => by
    have hP : Pst G et H ((mb env h).bind fun y h2 => if -1000000 ≤ (0 : Int) ∧ (0 : Int) ≤ 1000000 ∧ -1000000 ≤ (match y with | .int b => b | _ => 9000000) ∧ (match y with | .int b => b | _ => 9000000) ≤ 1000000 then R.ok (D.ref h2.length) (h2 ++ [Cell.lst (intsFrom 0 ((match y with | .int b => b | _ => 9000000) - 0).toNat)]) else .no) (fun et' H' _ d => ∀ v, Den G et' H' d v → Q v H') (fun c d H' => W c d σ H') := by
      have e : mLstR (mC (.int 0)) mb env h = ((mb env h).bind fun y h2 => if -1000000 ≤ (0 : Int) ∧ (0 : Int) ≤ 1000000 ∧ -1000000 ≤ (match y with | .int b => b | _ => 9000000) ∧ (match y with | .int b => b | _ => 9000000) ≤ 1000000 then R.ok (D.ref h2.length) (h2 ++ [Cell.lst (intsFrom 0 ((match y with | .int b => b | _ => 9000000) - 0).toNat)]) else .no) := by
        unfold mLstR
        show ((mb env h).bind _) = _
        congr 1
        funext y h2
        cases y <;> simp
      rw [← e]
      exact hP
    refine ⟨et, env, h, hE, hH, (Pst.of_bind hP).imp fun et2 H2 h2 y q2 e2 hr2 q' w hw => ?_⟩
    cases y with
    | int j =>
      dsimp only at q'
      split at q'
      · rename_i c
        refine ⟨j, den_int.mp hw, ⟨by omega, by omega, by omega, by omega, by omega⟩, ?_⟩
        refine q'.newL hr2 ?_
        have := rg_den (G := G) (et := et2) (H := H2) 0 (j - 0).toNat 0
        unfold intsFrom rgV
        rw [List.range_eq_range']
        exact this
      · exact q'.elim
    | _ =>
      dsimp only at q'
      rw [if_neg (by omega)] at q'
      exact q'.elim
end
@[simp] theorem ap_mLstR {ma mb : ME} {env : EV} {h : IH} : mLstR ma mb env h = (ma env h).bind fun x h1 => (mb env h1).bind fun y h2 => match x, y with
  | .int a, .int b => if -1000000 ≤ a ∧ a ≤ 1000000 ∧ -1000000 ≤ b ∧ b ≤ 1000000 then .ok (.ref h2.length) (h2 ++ [.lst (intsFrom a (b - a).toNat)]) else .no
  | _, _ => .no := rfl
end NR

set_option Elab.async false
set_option linter.all false
set_option maxRecDepth 100000
set_option maxHeartbeats 4000000
namespace NR
open PySem PySem.Spec PyProof.Rows L2
def topS (i : Nat) : Stmt := PySem.Challenge.pw_nearreach_k29_least_tables.main.body.getD i (.Pass ⟨0, 0, 0, 0⟩)
/-! numbered -/
noncomputable def b_numbered_1 : MS := msCons (msIf (mTb (mOp (dDIn true) (mVar 3) (mVar 1))) (msSetD (mVar 1) (mVar 3) (mB bLenV (mCons (mVar 1) (mNil)))) (msNil))
    (msExpr (mMeth "list" fAppend (mVar 2) (mCons (mOp dDGet (mVar 1) (mVar 3)) (mNil))))
noncomputable def m_numbered : MF := fnM 4 (msCons (msSet 1 (mDictV 0))
    (msCons (msSet 2 (mLst (mNil)))
    (msCons (msFor (iSeq (mVar 0)) (gSet 3) b_numbered_1)
    (msFz 2 (msRet (mVar 2))))))
theorem sc_numbered : FnScope ["keys", "numbers", "told", "key"] ["keys"] (defScope (topS 1)) := ⟨rfl, rfl, rfl, by decide +kernel, rfl, by decide +kernel, by decide +kernel⟩
theorem okf_numbered {P : Program} {w : World} {K : PySem.W.Frag} {mg : Str → Option Value} {base : Heap} {cl : Str → Addr} {f : Addr} {fd : FuncData} (F : Fun K "numbered" "numbered" (topS 1) f fd) (z_len : mg "len" = none) : FnOk P w K mg base (L2.CX P w) 1 f fd ["keys"] (FSp ⟨K, cl⟩ 1 m_numbered) :=
  fnPM F sc_numbered rfl fun cdv A outer s H E hr tk hp => mss_cons (ms_set 1 sc_numbered.nd (me_dictV 0))
    (mss_cons (ms_set 2 sc_numbered.nd (me_lst (ma_nil)))
    (mss_cons (ms_for rfl hp (mi_seq rfl (me_var 0)) (mg_name 3 sc_numbered.nd) (mss_cons (ms_if (mt_cmp (op_dNotIn hr.units) (dDIn_ok true) (me_var 3) (me_var 1)) (mss_one (ms_setD hr.units (me_callB call_lenV bLenV_ok z_len (by decide +kernel) (ma_cons (me_var 1) (ma_nil))) (me_var 1) (me_var 3))) (mss_nil))
    (mss_one (ms_expr (me_meth rfl PySem.F.plainAttrs_list PySem.F.slot_list_append PySem.F.type_list_append mt_append fAppend_ok (me_var 2) (ma_cons (me_dget hr.units (me_var 1) (me_var 3)) (ma_nil)))))))
    (mss_one (ms_fz 2 (ms_ret (me_var 2))))))
theorem ok_numbered {P : Program} {w : World} {K : PySem.W.Frag} {mg : Str → Option Value} {base : Heap} {cl : Str → Addr} (d : DefAt K mg "numbered" (topS 1) ["keys"]) (z_len : mg "len" = none) : FnG P w K mg base ⟨K, cl⟩ "numbered" 1 1 m_numbered := d.fn fun f fd F => okf_numbered F z_len
/-! joined -/
noncomputable def b_joined_1 : MS := msIf (mTb (mOp (dEq false) (mVar 6) (mB bLen (mCons (mVar 4) (mNil))))) (msExpr (mMeth "list" fAppend (mVar 4) (mCons (mVar 5) (mNil)))) (msNil)
noncomputable def e_joined_2 : ME := mOp dIx (mVar 3) (mVar 8)
noncomputable def b_joined_3 : MS := msExpr (mMeth "list" fAppend (mVar 7) (mCons (mB bTupleX (mCons (mFz (mLc (iSeq (mOp dIx (mVar 1) (mVar 5))) (gSet 8) mYes e_joined_2 [8])) (mNil))) (mNil)))
noncomputable def e_joined_4 : ME := mOp dIx (mVar 2) (mVar 5)
noncomputable def m_joined : MF := fnM 9 (msCons (msSet 4 (mLst (mNil)))
    (msCons (msFor (iEnum (mCons (mVar 3) (mNil))) (gSets [5, 6]) b_joined_1)
    (msCons (msSet 7 (mLst (mNil)))
    (msCons (msFz 4 (msFor (iSeq (mVar 4)) (gSet 5) b_joined_3))
    (msRet (mTup (mCons (mVar 0) (mCons (mB bTupleX (mCons (mVar 7) (mNil))) (mCons (mB bTupleX (mCons (mFz (mLc (iSeq (mVar 4)) (gSet 5) mYes e_joined_4 [5])) (mNil))) (mNil))))))))))
theorem sc_joined : FnScope ["tongue", "goes", "kinds", "marks", "firsts", "room", "mark", "rows", "to"] ["tongue", "goes", "kinds", "marks"] (defScope (topS 4)) := ⟨rfl, rfl, rfl, by decide +kernel, rfl, by decide +kernel, by decide +kernel⟩
theorem okf_joined {P : Program} {w : World} {K : PySem.W.Frag} {mg : Str → Option Value} {base : Heap} {cl : Str → Addr} {f : Addr} {fd : FuncData} (F : Fun K "joined" "joined" (topS 4) f fd) (z_enumerate : mg "enumerate" = none) (z_len : mg "len" = none) (z_tuple : mg "tuple" = none) : FnOk P w K mg base (L2.CX P w) 1 f fd ["tongue", "goes", "kinds", "marks"] (FSp ⟨K, cl⟩ 4 m_joined) :=
  fnPM F sc_joined rfl fun cdv A outer s H E hr tk hp => mss_cons (ms_set 4 sc_joined.nd (me_lst (ma_nil)))
    (mss_cons (ms_for rfl hp (mi_enum rfl (ma_cons (me_var 3) (ma_nil)) z_enumerate) (mg_tup rfl rfl (.cons (pg_name (i := 5) sc_joined.nd rfl (by first | exact Or.inl rfl | exact Or.inr rfl)) (.cons (pg_name (i := 6) sc_joined.nd rfl (by first | exact Or.inl rfl | exact Or.inr rfl)) (.nil) rfl) rfl)) (mss_one (ms_if (mt_cmp (op_eqP hr.units) (dEq_ok rfl) (me_var 6) (me_callB call_lenA bLen_ok z_len (by decide +kernel) (ma_cons (me_var 4) (ma_nil)))) (mss_one (ms_expr (me_meth rfl PySem.F.plainAttrs_list PySem.F.slot_list_append PySem.F.type_list_append mt_append fAppend_ok (me_var 4) (ma_cons (me_var 5) (ma_nil))))) (mss_nil))))
    (mss_cons (ms_set 7 sc_joined.nd (me_lst (ma_nil)))
    (mss_cons (ms_fz 4 (ms_for rfl hp (mi_seq rfl (me_var 4)) (mg_name 5 sc_joined.nd) (mss_one (ms_expr (me_meth rfl PySem.F.plainAttrs_list PySem.F.slot_list_append PySem.F.type_list_append mt_append fAppend_ok (me_var 7) (ma_cons (me_callT (call_tupleX rfl) bTupleX_ok z_tuple (by decide +kernel) (ma_cons (me_fz (me_lc (own := [("to", 8)]) rfl sc_joined.nd (mi_seq rfl (me_ix rfl (me_var 1) (me_var 5))) (blkOk_by (N := ["tongue", "goes", "kinds", "marks", "firsts", "room", "mark", "rows", "to"]) (sc := defScope (topS 4)) (by decide +kernel)) (fun _ _ _ _ _ => mg_name 8 sc_joined.nd) (fun _ _ _ _ _ => mts_nil) (fun _ _ _ _ _ => me_ix rfl (me_var 3) (me_var 8)))) (ma_nil))) (ma_nil)))))))
    (mss_one (ms_ret (me_tup (ma_cons (me_var 0) (ma_cons (me_callT (call_tupleX rfl) bTupleX_ok z_tuple (by decide +kernel) (ma_cons (me_var 7) (ma_nil))) (ma_cons (me_callT (call_tupleX rfl) bTupleX_ok z_tuple (by decide +kernel) (ma_cons (me_fz (me_lc (own := [("room", 5)]) rfl sc_joined.nd (mi_seq rfl (me_var 4)) (blkOk_by (N := ["tongue", "goes", "kinds", "marks", "firsts", "room", "mark", "rows", "to"]) (sc := defScope (topS 4)) (by decide +kernel)) (fun _ _ _ _ _ => mg_name 5 sc_joined.nd) (fun _ _ _ _ _ => mts_nil) (fun _ _ _ _ _ => me_ix rfl (me_var 2) (me_var 5)))) (ma_nil))) (ma_nil))))))))))
theorem ok_joined {P : Program} {w : World} {K : PySem.W.Frag} {mg : Str → Option Value} {base : Heap} {cl : Str → Addr} (d : DefAt K mg "joined" (topS 4) ["tongue", "goes", "kinds", "marks"]) (z_enumerate : mg "enumerate" = none) (z_len : mg "len" = none) (z_tuple : mg "tuple" = none) : FnG P w K mg base ⟨K, cl⟩ "joined" 1 4 m_joined := d.fn fun f fd F => okf_joined F z_enumerate z_len z_tuple
/-! in_order -/
noncomputable def b_in_order_1 : MS := msIf (mTb (mOp (dDIn true) (mVar 4) (mVar 2))) (msCons (msSetD (mVar 2) (mVar 4) (mC (.bl true)))
    (msExpr (mMeth "list" fAppend (mVar 1) (mCons (mVar 4) (mNil))))) (msNil)
noncomputable def t_in_order_2 : MT := mTb (mOp dLt (mVar 3) (mB bLen (mCons (mVar 1) (mNil))))
noncomputable def b_in_order_3 : MS := msCons (msFor (iSeq (mOp dIx (mVar 0) (mOp dIx (mVar 1) (mVar 3)))) (gSet 4) b_in_order_1)
    (msAug 3 dIAdd (mC (.int 1)))
noncomputable def m_in_order : MF := fnM 5 (msCons (msSet 1 (mLst (mCons (mC (.int 0)) (mNil))))
    (msCons (msSet 2 (mDict [(mC (.int 0), mC (.bl true))]))
    (msCons (msSet 3 (mC (.int 0)))
    (msCons (msWhile t_in_order_2 b_in_order_3)
    (msFz 1 (msRet (mVar 1)))))))
theorem sc_in_order : FnScope ["goes", "rooms", "found", "at", "room"] ["goes"] (defScope (topS 6)) := ⟨rfl, rfl, rfl, by decide +kernel, rfl, by decide +kernel, by decide +kernel⟩
theorem okf_in_order {P : Program} {w : World} {K : PySem.W.Frag} {mg : Str → Option Value} {base : Heap} {cl : Str → Addr} {f : Addr} {fd : FuncData} (F : Fun K "in_order" "in_order" (topS 6) f fd) (z_len : mg "len" = none) : FnOk P w K mg base (L2.CX P w) 1 f fd ["goes"] (FSp ⟨K, cl⟩ 1 m_in_order) :=
  fnPM F sc_in_order rfl fun cdv A outer s H E hr tk hp => mss_cons (ms_set 1 sc_in_order.nd (me_lst (ma_cons (me_int) (ma_nil))))
    (mss_cons (ms_set 2 sc_in_order.nd (me_dict (prs_cons (me_int) (me_bl) (prs_nil))))
    (mss_cons (ms_set 3 sc_in_order.nd (me_int))
    (mss_cons (ms_while hp (mt_cmp op_lt opS_C (me_var 3) (me_callB call_lenA bLen_ok z_len (by decide +kernel) (ma_cons (me_var 1) (ma_nil)))) (mss_cons (ms_for rfl hp (mi_seq rfl (me_ix rfl (me_var 0) (me_ix rfl (me_var 1) (me_var 3)))) (mg_name 4 sc_in_order.nd) (mss_one (ms_if (mt_cmp (op_dNotIn hr.units) (dDIn_ok true) (me_var 4) (me_var 2)) (mss_cons (ms_setD hr.units (me_bl) (me_var 2) (me_var 4))
    (mss_one (ms_expr (me_meth rfl PySem.F.plainAttrs_list PySem.F.slot_list_append PySem.F.type_list_append mt_append fAppend_ok (me_var 1) (ma_cons (me_var 4) (ma_nil)))))) (mss_nil))))
    (mss_one (ms_aug 3 sc_in_order.nd iop_addA iadd_ok (me_int)))))
    (mss_one (ms_fz 1 (ms_ret (me_var 1)))))))
theorem ok_in_order {P : Program} {w : World} {K : PySem.W.Frag} {mg : Str → Option Value} {base : Heap} {cl : Str → Addr} (d : DefAt K mg "in_order" (topS 6) ["goes"]) (z_len : mg "len" = none) : FnG P w K mg base ⟨K, cl⟩ "in_order" 1 1 m_in_order := d.fn fun f fd F => okf_in_order F z_len
/-! _law_hand -/
noncomputable def m__law_hand : MF := fnM 1 (msRet (mLst (mCons (mFz (mB bListX (mCons (mFz (mSlice (mVar 0) (moNone) (moSome (mC (.int 63))))) (mNil)))) (mCons (mC (.int 0)) (mCons (mC (.int 0)) (mCons (mC (.int 7)) (mCons (mC (.int 0)) (mNil))))))))
theorem sc__law_hand : FnScope ["_law_script"] ["_law_script"] (defScope (topS 11)) := ⟨rfl, rfl, rfl, by decide +kernel, rfl, by decide +kernel, by decide +kernel⟩
theorem okf__law_hand {P : Program} {w : World} {K : PySem.W.Frag} {mg : Str → Option Value} {base : Heap} {cl : Str → Addr} {f : Addr} {fd : FuncData} (F : Fun K "_law_hand" "_law_hand" (topS 11) f fd) (z_list : mg "list" = none) : FnOk P w K mg base (L2.CX P w) 1 f fd ["_law_script"] (FSp ⟨K, cl⟩ 1 m__law_hand) :=
  fnPM F sc__law_hand rfl fun cdv A outer s H E hr tk hp => mss_one (ms_ret (me_lst (ma_cons (me_fz (me_callT (call_listX rfl) bListX_ok z_list (by decide +kernel) (ma_cons (me_fz (me_slice rfl (me_var 0) (moN) (moS (me_int)))) (ma_nil)))) (ma_cons (me_int) (ma_cons (me_int) (ma_cons (me_int) (ma_cons (me_int) (ma_nil))))))))
theorem ok__law_hand {P : Program} {w : World} {K : PySem.W.Frag} {mg : Str → Option Value} {base : Heap} {cl : Str → Addr} (d : DefAt K mg "_law_hand" (topS 11) ["_law_script"]) (z_list : mg "list" = none) : FnG P w K mg base ⟨K, cl⟩ "_law_hand" 1 1 m__law_hand := d.fn fun f fd F => okf__law_hand F z_list
/-! _law_take -/
noncomputable def m__law_take : MF := fnM 4 (msCons (msIf (mTb (mOp dLt (mVar 1) (mC (.int 2)))) (msRet (mC (.int 0))) (msNil))
    (msCons (msIf (mAnd (mTb (mOp (dEq false) (mOp dIx (mVar 0) (mC (.int 2))) (mC (.int 0)))) (mTb (mOp dLt (mOp dIx (mVar 0) (mC (.int 1))) (mB bLen (mCons (mOp dIx (mVar 0) (mC (.int 0))) (mNil)))))) (msCons (msSet 2 (mOp dIx (mOp dIx (mVar 0) (mC (.int 0))) (mOp dIx (mVar 0) (mC (.int 1)))))
    (msCons (msAugI dIAdd (mVar 0) (mC (.int 1)) (mC (.int 1)))
    (msCons (msSetI (mVar 0) (mC (.int 3)) (mOp dMod (mOp dAdd (mOp dMul (mOp dIx (mVar 0) (mC (.int 3))) (mC (.int 48271))) (mVar 2)) (mC (.int 2147483647))))
    (msIf (mTb (mOp dGe (mB bAbs (mCons (mVar 2) (mNil))) (mOp dPow (mC (.int 10)) (mC (.int 18))))) (msSetI (mVar 0) (mC (.int 2)) (mB bAbs (mCons (mVar 2) (mNil)))) (msNil))))) (msNil))
    (msCons (msIf (mTb (mOp dGt (mOp dIx (mVar 0) (mC (.int 2))) (mC (.int 0)))) (msCons (msSet 3 (mOp dMod (mOp dIx (mVar 0) (mC (.int 2))) (mVar 1)))
    (msCons (msSetI (mVar 0) (mC (.int 2)) (mOp dDiv (mOp dIx (mVar 0) (mC (.int 2))) (mVar 1)))
    (msRet (mVar 3)))) (msNil))
    (msCons (msAugI dIAdd (mVar 0) (mC (.int 4)) (mC (.int 1)))
    (msRet (mOp dMod (mOp dDiv (mOp dMod (mOp dPow (mOp dAdd (mOp dIx (mVar 0) (mC (.int 3))) (mOp dMul (mC (.int 7368787)) (mOp dIx (mVar 0) (mC (.int 4))))) (mC (.int 5))) (mC (.int 2147483647))) (mC (.int 1009))) (mVar 1)))))))
theorem sc__law_take : FnScope ["_law_hand_here", "_law_many", "_law_cell", "_law_told"] ["_law_hand_here", "_law_many"] (defScope (topS 12)) := ⟨rfl, rfl, rfl, by decide +kernel, rfl, by decide +kernel, by decide +kernel⟩
theorem okf__law_take {P : Program} {w : World} {K : PySem.W.Frag} {mg : Str → Option Value} {base : Heap} {cl : Str → Addr} {f : Addr} {fd : FuncData} (F : Fun K "_law_take" "_law_take" (topS 12) f fd) (z_len : mg "len" = none) (z_abs : mg "abs" = none) : FnOk P w K mg base (L2.CX P w) 1 f fd ["_law_hand_here", "_law_many"] (FSp ⟨K, cl⟩ 2 m__law_take) :=
  fnPM F sc__law_take rfl fun cdv A outer s H E hr tk hp => mss_cons (ms_if (mt_cmp op_lt opS_C (me_var 1) (me_int)) (mss_one (ms_ret (me_int))) (mss_nil))
    (mss_cons (ms_if (mt_w (mw_and (mt_cmp (op_eqP hr.units) (dEq_ok rfl) (me_ix rfl (me_var 0) (me_int)) (me_int)) (mw_and1 (mt_cmp op_lt opS_C (me_ix rfl (me_var 0) (me_int)) (me_callB call_lenA bLen_ok z_len (by decide +kernel) (ma_cons (me_ix rfl (me_var 0) (me_int)) (ma_nil))))))) (mss_cons (ms_set 2 sc__law_take.nd (me_ix rfl (me_ix rfl (me_var 0) (me_int)) (me_ix rfl (me_var 0) (me_int))))
    (mss_cons (ms_augI rfl iop_addA iadd_ok (me_var 0) (me_int) (me_int))
    (mss_cons (ms_setI (me_mod (me_add rfl (me_mul rfl (me_ix rfl (me_var 0) (me_int)) (me_int)) (me_var 2)) (me_int)) (me_var 0) (me_int))
    (mss_one (ms_if (mt_cmp op_ge opS_C (me_callB call_abs bAbs_ok z_abs (by decide +kernel) (ma_cons (me_var 2) (ma_nil))) (me_pow (me_int) (me_int))) (mss_one (ms_setI (me_callB call_abs bAbs_ok z_abs (by decide +kernel) (ma_cons (me_var 2) (ma_nil))) (me_var 0) (me_int))) (mss_nil)))))) (mss_nil))
    (mss_cons (ms_if (mt_cmp op_gt opS_C (me_ix rfl (me_var 0) (me_int)) (me_int)) (mss_cons (ms_set 3 sc__law_take.nd (me_mod (me_ix rfl (me_var 0) (me_int)) (me_var 1)))
    (mss_cons (ms_setI (me_div (me_ix rfl (me_var 0) (me_int)) (me_var 1)) (me_var 0) (me_int))
    (mss_one (ms_ret (me_var 3))))) (mss_nil))
    (mss_cons (ms_augI rfl iop_addA iadd_ok (me_var 0) (me_int) (me_int))
    (mss_one (ms_ret (me_mod (me_div (me_mod (me_pow (me_add rfl (me_ix rfl (me_var 0) (me_int)) (me_mul rfl (me_int) (me_ix rfl (me_var 0) (me_int)))) (me_int)) (me_int)) (me_int)) (me_var 1)))))))
theorem ok__law_take {P : Program} {w : World} {K : PySem.W.Frag} {mg : Str → Option Value} {base : Heap} {cl : Str → Addr} (d : DefAt K mg "_law_take" (topS 12) ["_law_hand_here", "_law_many"]) (z_len : mg "len" = none) (z_abs : mg "abs" = none) : FnG P w K mg base ⟨K, cl⟩ "_law_take" 1 2 m__law_take := d.fn fun f fd F => okf__law_take F z_len z_abs
/-! _law_signs -/
noncomputable def m__law_signs : MF := fnM 1 (msCons (msSet 0 (mC (.str [32, 33, 34, 35, 36, 38, 39, 40, 41, 42, 43, 44, 45, 46, 47, 48, 49, 50, 51, 52, 53, 54, 55, 56, 57, 58, 59, 60, 61, 62, 63, 64, 65, 66, 67, 68, 69, 70, 71, 72, 73, 74, 75, 76, 77, 78, 79, 80, 81, 82, 83, 84, 85, 86, 87, 88, 89, 90, 91, 92, 93, 94, 95, 96])))
    (msRet (mOp dAdd (mVar 0) (mC (.str [97, 98, 99, 100, 101, 102, 103, 104, 105, 106, 107, 108, 109, 110, 111, 112, 113, 114, 115, 116, 117, 118, 119, 120, 121, 122, 123, 124, 125, 126, 10])))))
theorem sc__law_signs : FnScope ["_law_some"] [] (defScope (topS 13)) := ⟨rfl, rfl, rfl, by decide +kernel, rfl, by decide +kernel, by decide +kernel⟩
theorem okf__law_signs {P : Program} {w : World} {K : PySem.W.Frag} {mg : Str → Option Value} {base : Heap} {cl : Str → Addr} {f : Addr} {fd : FuncData} (F : Fun K "_law_signs" "_law_signs" (topS 13) f fd) : FnOk P w K mg base (L2.CX P w) 1 f fd [] (FSp ⟨K, cl⟩ 0 m__law_signs) :=
  fnPM F sc__law_signs rfl fun cdv A outer s H E hr tk hp => mss_cons (ms_set 0 sc__law_signs.nd (me_str [32, 33, 34, 35, 36, 38, 39, 40, 41, 42, 43, 44, 45, 46, 47, 48, 49, 50, 51, 52, 53, 54, 55, 56, 57, 58, 59, 60, 61, 62, 63, 64, 65, 66, 67, 68, 69, 70, 71, 72, 73, 74, 75, 76, 77, 78, 79, 80, 81, 82, 83, 84, 85, 86, 87, 88, 89, 90, 91, 92, 93, 94, 95, 96]))
    (mss_one (ms_ret (me_add rfl (me_var 0) (me_str [97, 98, 99, 100, 101, 102, 103, 104, 105, 106, 107, 108, 109, 110, 111, 112, 113, 114, 115, 116, 117, 118, 119, 120, 121, 122, 123, 124, 125, 126, 10]))))
theorem ok__law_signs {P : Program} {w : World} {K : PySem.W.Frag} {mg : Str → Option Value} {base : Heap} {cl : Str → Addr} (d : DefAt K mg "_law_signs" (topS 13) []) : FnG P w K mg base ⟨K, cl⟩ "_law_signs" 1 0 m__law_signs := d.fn fun f fd F => okf__law_signs F
/-! _law_number -/
noncomputable def m__law_number : MF := fnM 3 (msRet (mAndV (mIs "int" (mVar 0)) (mAndV (mNotV (mIs "bool" (mVar 0))) (mChain dLe dLe (mVar 1) (mVar 0) (mVar 2)))))
theorem sc__law_number : FnScope ["_law_thing", "_law_low", "_law_high"] ["_law_thing", "_law_low", "_law_high"] (defScope (topS 20)) := ⟨rfl, rfl, rfl, by decide +kernel, rfl, by decide +kernel, by decide +kernel⟩
theorem okf__law_number {P : Program} {w : World} {K : PySem.W.Frag} {mg : Str → Option Value} {base : Heap} {cl : Str → Addr} {f : Addr} {fd : FuncData} (F : Fun K "_law_number" "_law_number" (topS 20) f fd) (z_isinstance : mg "isinstance" = none) (z_int : mg "int" = none) (z_bool : mg "bool" = none) : FnOk P w K mg base (L2.CX P w) 1 f fd ["_law_thing", "_law_low", "_law_high"] (FSp ⟨K, cl⟩ 3 m__law_number) :=
  fnPM F sc__law_number rfl fun cdv A outer s H E hr tk hp => mss_one (ms_ret (me_and (me_is rfl (me_var 0) z_isinstance z_int) (me_and (me_not (me_is rfl (me_var 0) z_isinstance z_bool)) (me_one (me_chain op_le opS_C op_le opS_C (me_var 1) (me_var 0) (me_var 2))))))
theorem ok__law_number {P : Program} {w : World} {K : PySem.W.Frag} {mg : Str → Option Value} {base : Heap} {cl : Str → Addr} (d : DefAt K mg "_law_number" (topS 20) ["_law_thing", "_law_low", "_law_high"]) (z_isinstance : mg "isinstance" = none) (z_int : mg "int" = none) (z_bool : mg "bool" = none) : FnG P w K mg base ⟨K, cl⟩ "_law_number" 1 3 m__law_number := d.fn fun f fd F => okf__law_number F z_isinstance z_int z_bool
/-! _law_in_order -/
noncomputable def b__law_in_order_1 : MS := msIf (mTb (mOp (dIn true) (mVar 3) (mVar 1))) (msExpr (mMeth "list" fAppend (mVar 1) (mCons (mVar 3) (mNil)))) (msNil)
noncomputable def t__law_in_order_2 : MT := mTb (mOp dLt (mVar 2) (mB bLen (mCons (mVar 1) (mNil))))
noncomputable def b__law_in_order_3 : MS := msCons (msFor (iSeq (mOp dIx (mVar 0) (mOp dIx (mVar 1) (mVar 2)))) (gSet 3) b__law_in_order_1)
    (msAug 2 dIAdd (mC (.int 1)))
noncomputable def m__law_in_order : MF := fnM 4 (msCons (msSet 1 (mLst (mCons (mC (.int 0)) (mNil))))
    (msCons (msSet 2 (mC (.int 0)))
    (msCons (msWhile t__law_in_order_2 b__law_in_order_3)
    (msRet (mOp (dEq false) (mVar 1) (mFz (mLstR (mC (.int 0)) (mB bLen (mCons (mVar 0) (mNil))))))))))
theorem sc__law_in_order : FnScope ["_law_goes_here", "_law_met", "_law_at", "_law_to"] ["_law_goes_here"] (defScope (topS 23)) := ⟨rfl, rfl, rfl, by decide +kernel, rfl, by decide +kernel, by decide +kernel⟩
theorem okf__law_in_order {P : Program} {w : World} {K : PySem.W.Frag} {mg : Str → Option Value} {base : Heap} {cl : Str → Addr} {f : Addr} {fd : FuncData} (F : Fun K "_law_in_order" "_law_in_order" (topS 23) f fd) (z_len : mg "len" = none) (z_list : mg "list" = none) (z_range : mg "range" = none) : FnOk P w K mg base (L2.CX P w) 1 f fd ["_law_goes_here"] (FSp ⟨K, cl⟩ 1 m__law_in_order) :=
  fnPM F sc__law_in_order rfl fun cdv A outer s H E hr tk hp => mss_cons (ms_set 1 sc__law_in_order.nd (me_lst (ma_cons (me_int) (ma_nil))))
    (mss_cons (ms_set 2 sc__law_in_order.nd (me_int))
    (mss_cons (ms_while hp (mt_cmp op_lt opS_C (me_var 2) (me_callB call_lenA bLen_ok z_len (by decide +kernel) (ma_cons (me_var 1) (ma_nil)))) (mss_cons (ms_for rfl hp (mi_seq rfl (me_ix rfl (me_var 0) (me_ix rfl (me_var 1) (me_var 2)))) (mg_name 3 sc__law_in_order.nd) (mss_one (ms_if (mt_cmp (op_notInA hr.units) (dIn_ok rfl true) (me_var 3) (me_var 1)) (mss_one (ms_expr (me_meth rfl PySem.F.plainAttrs_list PySem.F.slot_list_append PySem.F.type_list_append mt_append fAppend_ok (me_var 1) (ma_cons (me_var 3) (ma_nil))))) (mss_nil))))
    (mss_one (ms_aug 2 sc__law_in_order.nd iop_addA iadd_ok (me_int)))))
    (mss_one (ms_ret (me_cmp (op_eqP hr.units) (dEq_ok rfl) (me_var 1) (me_fz (me_lstR1 rfl z_list z_range (me_callB call_lenA bLen_ok z_len (by decide +kernel) (ma_cons (me_var 0) (ma_nil))))))))))
theorem ok__law_in_order {P : Program} {w : World} {K : PySem.W.Frag} {mg : Str → Option Value} {base : Heap} {cl : Str → Addr} (d : DefAt K mg "_law_in_order" (topS 23) ["_law_goes_here"]) (z_len : mg "len" = none) (z_list : mg "list" = none) (z_range : mg "range" = none) : FnG P w K mg base ⟨K, cl⟩ "_law_in_order" 1 1 m__law_in_order := d.fn fun f fd F => okf__law_in_order F z_len z_list z_range
/-! _law_same_kinds -/
noncomputable def b__law_same_kinds_1 : MS := msIf (mTb (mOp (dDIn true) (mVar 7) (mVar 3))) (msCons (msSetD (mVar 3) (mVar 7) (mC (.bl true)))
    (msExpr (mMeth "list" fAppend (mVar 2) (mCons (mVar 7) (mNil))))) (msNil)
noncomputable def t__law_same_kinds_2 : MT := mTb (mOp dLt (mVar 4) (mB bLen (mCons (mVar 2) (mNil))))
noncomputable def b__law_same_kinds_3 : MS := msCons (msSetT (gSets [5, 6]) (mOp dIx (mVar 2) (mVar 4)))
    (msCons (msIf (mTb (mOp (dEq true) (mOp dIx (mOp dIx (mVar 0) (mC (.int 2))) (mVar 5)) (mOp dIx (mOp dIx (mVar 1) (mC (.int 2))) (mVar 6)))) (msRet (mC (.bl false))) (msNil))
    (msCons (msFor (iZip (mCons (mOp dIx (mOp dIx (mVar 0) (mC (.int 1))) (mVar 5)) (mCons (mOp dIx (mOp dIx (mVar 1) (mC (.int 1))) (mVar 6)) (mNil)))) (gSet 7) b__law_same_kinds_1)
    (msAug 4 dIAdd (mC (.int 1)))))
noncomputable def m__law_same_kinds : MF := fnM 8 (msCons (msSet 2 (mLst (mCons (mTup (mCons (mC (.int 0)) (mCons (mC (.int 0)) (mNil)))) (mNil))))
    (msCons (msSet 3 (mDictP (mTup (mCons (mC (.int 0)) (mCons (mC (.int 0)) (mNil)))) (mC (.bl true))))
    (msCons (msSet 4 (mC (.int 0)))
    (msCons (msWhile t__law_same_kinds_2 b__law_same_kinds_3)
    (msRet (mC (.bl true)))))))
theorem sc__law_same_kinds : FnScope ["_law_table", "_law_other", "_law_twos", "_law_met", "_law_at", "_law_one", "_law_two", "_law_pair"] ["_law_table", "_law_other"] (defScope (topS 24)) := ⟨rfl, rfl, rfl, by decide +kernel, rfl, by decide +kernel, by decide +kernel⟩
theorem okf__law_same_kinds {P : Program} {w : World} {K : PySem.W.Frag} {mg : Str → Option Value} {base : Heap} {cl : Str → Addr} {f : Addr} {fd : FuncData} (F : Fun K "_law_same_kinds" "_law_same_kinds" (topS 24) f fd) (z_len : mg "len" = none) (z_zip : mg "zip" = none) : FnOk P w K mg base (L2.CX P w) 1 f fd ["_law_table", "_law_other"] (FSp ⟨K, cl⟩ 2 m__law_same_kinds) :=
  fnPM F sc__law_same_kinds rfl fun cdv A outer s H E hr tk hp => mss_cons (ms_set 2 sc__law_same_kinds.nd (me_lst (ma_cons (me_tup (ma_cons (me_int) (ma_cons (me_int) (ma_nil)))) (ma_nil))))
    (mss_cons (ms_set 3 sc__law_same_kinds.nd (me_dictP hr.units (me_tup (ma_cons (me_int) (ma_cons (me_int) (ma_nil)))) (me_bl)))
    (mss_cons (ms_set 4 sc__law_same_kinds.nd (me_int))
    (mss_cons (ms_while hp (mt_cmp op_lt opS_C (me_var 4) (me_callB call_lenA bLen_ok z_len (by decide +kernel) (ma_cons (me_var 2) (ma_nil)))) (mss_cons (ms_setT (me_ix rfl (me_var 2) (me_var 4)) (mg_tup rfl rfl (.cons (pg_name (i := 5) sc__law_same_kinds.nd rfl (by first | exact Or.inl rfl | exact Or.inr rfl)) (.cons (pg_name (i := 6) sc__law_same_kinds.nd rfl (by first | exact Or.inl rfl | exact Or.inr rfl)) (.nil) rfl) rfl)))
    (mss_cons (ms_if (mt_cmp (op_neP hr.units) (dNe_ok rfl) (me_ix rfl (me_ix rfl (me_var 0) (me_int)) (me_var 5)) (me_ix rfl (me_ix rfl (me_var 1) (me_int)) (me_var 6))) (mss_one (ms_ret (me_bl))) (mss_nil))
    (mss_cons (ms_for rfl hp (mi_zipN rfl (ma_cons (me_ix rfl (me_ix rfl (me_var 0) (me_int)) (me_var 5)) (ma_cons (me_ix rfl (me_ix rfl (me_var 1) (me_int)) (me_var 6)) (ma_nil))) z_zip) (mg_name 7 sc__law_same_kinds.nd) (mss_one (ms_if (mt_cmp (op_dNotIn hr.units) (dDIn_ok true) (me_var 7) (me_var 3)) (mss_cons (ms_setD hr.units (me_bl) (me_var 3) (me_var 7))
    (mss_one (ms_expr (me_meth rfl PySem.F.plainAttrs_list PySem.F.slot_list_append PySem.F.type_list_append mt_append fAppend_ok (me_var 2) (ma_cons (me_var 7) (ma_nil)))))) (mss_nil))))
    (mss_one (ms_aug 4 sc__law_same_kinds.nd iop_addA iadd_ok (me_int)))))))
    (mss_one (ms_ret (me_bl))))))
theorem ok__law_same_kinds {P : Program} {w : World} {K : PySem.W.Frag} {mg : Str → Option Value} {base : Heap} {cl : Str → Addr} (d : DefAt K mg "_law_same_kinds" (topS 24) ["_law_table", "_law_other"]) (z_len : mg "len" = none) (z_zip : mg "zip" = none) : FnG P w K mg base ⟨K, cl⟩ "_law_same_kinds" 1 2 m__law_same_kinds := d.fn fun f fd F => okf__law_same_kinds F z_len z_zip
/-! _law_all_unlike -/
noncomputable def e__law_all_unlike_1 : ME := mOp dIx (mVar 2) (mVar 9)
noncomputable def b__law_all_unlike_2 : MS := msCons (msSet 8 (mB bTupleX (mCons (mFz (mOp dAdd (mFz (mLst (mCons (mOp dIx (mVar 2) (mVar 6)) (mNil)))) (mFz (mLc (iSeq (mVar 7)) (gSet 9) mYes e__law_all_unlike_1 [9])))) (mNil))))
    (msCons (msIf (mTb (mOp (dDIn true) (mVar 8) (mVar 4))) (msSetD (mVar 4) (mVar 8) (mB bLenT (mCons (mVar 4) (mNil)))) (msNil))
    (msExpr (mMeth "list" fAppend (mVar 5) (mCons (mOp dDGet (mVar 4) (mVar 8)) (mNil)))))
noncomputable def b__law_all_unlike_3 : MS := msCons (msSet 4 (mDictT))
    (msCons (msSet 5 (mLst (mNil)))
    (msCons (msFor (iEnum (mCons (mVar 0) (mNil))) (gSets [6, 7]) b__law_all_unlike_2)
    (msCons (msSet 2 (mVar 5))
    (msIf (mTb (mOp (dEq false) (mB bLenT (mCons (mVar 4) (mNil))) (mB bLen (mCons (mVar 0) (mNil))))) (msRet (mC (.bl true))) (msNil)))))
noncomputable def m__law_all_unlike : MF := fnM 10 (msCons (msSet 2 (mFz (mB bListX (mCons (mVar 1) (mNil)))))
    (msCons (msFor (iRange1 (mCons (mB bLen (mCons (mVar 0) (mNil))) (mNil))) (gSet 3) b__law_all_unlike_3)
    (msRet (mC (.bl false)))))
theorem sc__law_all_unlike : FnScope ["_law_goes_here", "_law_kinds_here", "_law_marks", "_law_turn", "_law_numbers", "_law_fresh", "_law_room", "_law_row", "_law_key", "_law_to"] ["_law_goes_here", "_law_kinds_here"] (defScope (topS 25)) := ⟨rfl, rfl, rfl, by decide +kernel, rfl, by decide +kernel, by decide +kernel⟩
theorem okf__law_all_unlike {P : Program} {w : World} {K : PySem.W.Frag} {mg : Str → Option Value} {base : Heap} {cl : Str → Addr} {f : Addr} {fd : FuncData} (F : Fun K "_law_all_unlike" "_law_all_unlike" (topS 25) f fd) (z_list : mg "list" = none) (z_len : mg "len" = none) (z_range : mg "range" = none) (z_enumerate : mg "enumerate" = none) (z_tuple : mg "tuple" = none) : FnOk P w K mg base (L2.CX P w) 1 f fd ["_law_goes_here", "_law_kinds_here"] (FSp ⟨K, cl⟩ 2 m__law_all_unlike) :=
  fnPM F sc__law_all_unlike rfl fun cdv A outer s H E hr tk hp => mss_cons (ms_set 2 sc__law_all_unlike.nd (me_fz (me_callT (call_listX rfl) bListX_ok z_list (by decide +kernel) (ma_cons (me_var 1) (ma_nil)))))
    (mss_cons (ms_for rfl hp (mi_range1 (ma_cons (me_callB call_lenA bLen_ok z_len (by decide +kernel) (ma_cons (me_var 0) (ma_nil))) (ma_nil)) z_range) (mg_name 3 sc__law_all_unlike.nd) (mss_cons (ms_set 4 sc__law_all_unlike.nd (me_dict0T))
    (mss_cons (ms_set 5 sc__law_all_unlike.nd (me_lst (ma_nil)))
    (mss_cons (ms_for rfl hp (mi_enum rfl (ma_cons (me_var 0) (ma_nil)) z_enumerate) (mg_tup rfl rfl (.cons (pg_name (i := 6) sc__law_all_unlike.nd rfl (by first | exact Or.inl rfl | exact Or.inr rfl)) (.cons (pg_name (i := 7) sc__law_all_unlike.nd rfl (by first | exact Or.inl rfl | exact Or.inr rfl)) (.nil) rfl) rfl)) (mss_cons (ms_set 8 sc__law_all_unlike.nd (me_callT (call_tupleX rfl) bTupleX_ok z_tuple (by decide +kernel) (ma_cons (me_fz (me_add rfl (me_fz (me_lst (ma_cons (me_ix rfl (me_var 2) (me_var 6)) (ma_nil)))) (me_fz (me_lc (own := [("_law_to", 9)]) rfl sc__law_all_unlike.nd (mi_seq rfl (me_var 7)) (blkOk_by (N := ["_law_goes_here", "_law_kinds_here", "_law_marks", "_law_turn", "_law_numbers", "_law_fresh", "_law_room", "_law_row", "_law_key", "_law_to"]) (sc := defScope (topS 25)) (by decide +kernel)) (fun _ _ _ _ _ => mg_name 9 sc__law_all_unlike.nd) (fun _ _ _ _ _ => mts_nil) (fun _ _ _ _ _ => me_ix rfl (me_var 2) (me_var 9)))))) (ma_nil))))
    (mss_cons (ms_if (mt_cmp (op_dNotIn hr.units) (dDIn_ok true) (me_var 8) (me_var 4)) (mss_one (ms_setD hr.units (me_callB call_len_dT bLenT_ok z_len (by decide +kernel) (ma_cons (me_var 4) (ma_nil))) (me_var 4) (me_var 8))) (mss_nil))
    (mss_one (ms_expr (me_meth rfl PySem.F.plainAttrs_list PySem.F.slot_list_append PySem.F.type_list_append mt_append fAppend_ok (me_var 5) (ma_cons (me_dget hr.units (me_var 4) (me_var 8)) (ma_nil))))))))
    (mss_cons (ms_set 2 sc__law_all_unlike.nd (me_var 5))
    (mss_one (ms_if (mt_cmp (op_eqP hr.units) (dEq_ok rfl) (me_callB call_len_dT bLenT_ok z_len (by decide +kernel) (ma_cons (me_var 4) (ma_nil))) (me_callB call_lenA bLen_ok z_len (by decide +kernel) (ma_cons (me_var 0) (ma_nil)))) (mss_one (ms_ret (me_bl))) (mss_nil))))))))
    (mss_one (ms_ret (me_bl))))
theorem ok__law_all_unlike {P : Program} {w : World} {K : PySem.W.Frag} {mg : Str → Option Value} {base : Heap} {cl : Str → Addr} (d : DefAt K mg "_law_all_unlike" (topS 25) ["_law_goes_here", "_law_kinds_here"]) (z_list : mg "list" = none) (z_len : mg "len" = none) (z_range : mg "range" = none) (z_enumerate : mg "enumerate" = none) (z_tuple : mg "tuple" = none) : FnG P w K mg base ⟨K, cl⟩ "_law_all_unlike" 1 2 m__law_all_unlike := d.fn fun f fd F => okf__law_all_unlike F z_list z_len z_range z_enumerate z_tuple
/-! finer -/
noncomputable def e_finer_1 : ME := mOp dIx (mVar 1) (mVar 5)
noncomputable def b_finer_2 : MS := msExpr (mMeth "list" fAppend (mVar 2) (mCons (mB bTupleX (mCons (mFz (mOp dAdd (mFz (mLst (mCons (mOp dIx (mVar 1) (mVar 3)) (mNil)))) (mFz (mLc (iSeq (mVar 4)) (gSet 5) mYes e_finer_1 [5])))) (mNil))) (mNil)))
noncomputable def m_finer : MF := fnM 6 (msCons (msSet 2 (mLst (mNil)))
    (msCons (msFor (iEnum (mCons (mVar 0) (mNil))) (gSets [3, 4]) b_finer_2)
    (msRet (mCall 1 (m_numbered) (mCons (mVar 2) (mNil))))))
theorem sc_finer : FnScope ["goes", "marks", "keys", "room", "row", "to"] ["goes", "marks"] (defScope (topS 2)) := ⟨rfl, rfl, rfl, by decide +kernel, rfl, by decide +kernel, by decide +kernel⟩
theorem okf_finer {P : Program} {w : World} {K : PySem.W.Frag} {mg : Str → Option Value} {base : Heap} {cl : Str → Addr} {f : Addr} {fd : FuncData} (F : Fun K "finer" "finer" (topS 2) f fd) (z_enumerate : mg "enumerate" = none) (z_tuple : mg "tuple" = none) (F_numbered : FnG P w K mg base ⟨K, cl⟩ "numbered" 1 1 m_numbered) : FnOk P w K mg base (L2.CX P w) 2 f fd ["goes", "marks"] (FSp ⟨K, cl⟩ 2 m_finer) :=
  fnPM F sc_finer rfl fun cdv A outer s H E hr tk hp => mss_cons (ms_set 2 sc_finer.nd (me_lst (ma_nil)))
    (mss_cons (ms_for rfl hp (mi_enum rfl (ma_cons (me_var 0) (ma_nil)) z_enumerate) (mg_tup rfl rfl (.cons (pg_name (i := 3) sc_finer.nd rfl (by first | exact Or.inl rfl | exact Or.inr rfl)) (.cons (pg_name (i := 4) sc_finer.nd rfl (by first | exact Or.inl rfl | exact Or.inr rfl)) (.nil) rfl) rfl)) (mss_one (ms_expr (me_meth rfl PySem.F.plainAttrs_list PySem.F.slot_list_append PySem.F.type_list_append mt_append fAppend_ok (me_var 2) (ma_cons (me_callT (call_tupleX rfl) bTupleX_ok z_tuple (by decide +kernel) (ma_cons (me_fz (me_add rfl (me_fz (me_lst (ma_cons (me_ix rfl (me_var 1) (me_var 3)) (ma_nil)))) (me_fz (me_lc (own := [("to", 5)]) rfl sc_finer.nd (mi_seq rfl (me_var 4)) (blkOk_by (N := ["goes", "marks", "keys", "room", "row", "to"]) (sc := defScope (topS 2)) (by decide +kernel)) (fun _ _ _ _ _ => mg_name 5 sc_finer.nd) (fun _ _ _ _ _ => mts_nil) (fun _ _ _ _ _ => me_ix rfl (me_var 1) (me_var 5)))))) (ma_nil))) (ma_nil))))))
    (mss_one (ms_ret (me_callG F_numbered hr (by decide) tk (ma_cons (me_var 2) (ma_nil))))))
theorem ok_finer {P : Program} {w : World} {K : PySem.W.Frag} {mg : Str → Option Value} {base : Heap} {cl : Str → Addr} (d : DefAt K mg "finer" (topS 2) ["goes", "marks"]) (z_enumerate : mg "enumerate" = none) (z_tuple : mg "tuple" = none) (F_numbered : FnG P w K mg base ⟨K, cl⟩ "numbered" 1 1 m_numbered) : FnG P w K mg base ⟨K, cl⟩ "finer" 2 2 m_finer := d.fn fun f fd F => okf_finer F z_enumerate z_tuple F_numbered
/-! put_in_order -/
noncomputable def e_put_in_order_1 : ME := mC (.int 0)
noncomputable def b_put_in_order_2 : MS := msSetI (mVar 2) (mVar 4) (mVar 3)
noncomputable def e_put_in_order_3 : ME := mOp dIx (mVar 2) (mVar 6)
noncomputable def b_put_in_order_4 : MS := msExpr (mMeth "list" fAppend (mVar 5) (mCons (mFz (mLc (iSeq (mOp dIx (mOp dIx (mVar 0) (mC (.int 1))) (mVar 4))) (gSet 6) mYes e_put_in_order_3 [6])) (mNil)))
noncomputable def e_put_in_order_5 : ME := mOp dIx (mOp dIx (mVar 0) (mC (.int 2))) (mVar 4)
noncomputable def m_put_in_order : MF := fnM 7 (msCons (msSet 1 (mCall 1 (m_in_order) (mCons (mOp dIx (mVar 0) (mC (.int 1))) (mNil))))
    (msCons (msSet 2 (mLc (iSeq (mVar 1)) (gSet 4) mYes e_put_in_order_1 [4]))
    (msCons (msFor (iEnum (mCons (mVar 1) (mNil))) (gSets [3, 4]) b_put_in_order_2)
    (msCons (msSet 5 (mLst (mNil)))
    (msCons (msFz 2 (msFor (iSeq (mVar 1)) (gSet 4) b_put_in_order_4))
    (msFz 5 (msRet (mTup (mCons (mVar 5) (mCons (mFz (mLc (iSeq (mVar 1)) (gSet 4) mYes e_put_in_order_5 [4])) (mNil)))))))))))
theorem sc_put_in_order : FnScope ["table", "rooms", "places", "place", "room", "goes", "to"] ["table"] (defScope (topS 8)) := ⟨rfl, rfl, rfl, by decide +kernel, rfl, by decide +kernel, by decide +kernel⟩
theorem okf_put_in_order {P : Program} {w : World} {K : PySem.W.Frag} {mg : Str → Option Value} {base : Heap} {cl : Str → Addr} {f : Addr} {fd : FuncData} (F : Fun K "put_in_order" "put_in_order" (topS 8) f fd) (z_enumerate : mg "enumerate" = none) (F_in_order : FnG P w K mg base ⟨K, cl⟩ "in_order" 1 1 m_in_order) : FnOk P w K mg base (L2.CX P w) 2 f fd ["table"] (FSp ⟨K, cl⟩ 1 m_put_in_order) :=
  fnPM F sc_put_in_order rfl fun cdv A outer s H E hr tk hp => mss_cons (ms_set 1 sc_put_in_order.nd (me_callG F_in_order hr (by decide) tk (ma_cons (me_ix rfl (me_var 0) (me_int)) (ma_nil))))
    (mss_cons (ms_set 2 sc_put_in_order.nd (me_lc (own := [("room", 4)]) rfl sc_put_in_order.nd (mi_seq rfl (me_var 1)) (blkOk_by (N := ["table", "rooms", "places", "place", "room", "goes", "to"]) (sc := defScope (topS 8)) (by decide +kernel)) (fun _ _ _ _ _ => mg_name 4 sc_put_in_order.nd) (fun _ _ _ _ _ => mts_nil) (fun _ _ _ _ _ => me_int)))
    (mss_cons (ms_for rfl hp (mi_enum rfl (ma_cons (me_var 1) (ma_nil)) z_enumerate) (mg_tup rfl rfl (.cons (pg_name (i := 3) sc_put_in_order.nd rfl (by first | exact Or.inl rfl | exact Or.inr rfl)) (.cons (pg_name (i := 4) sc_put_in_order.nd rfl (by first | exact Or.inl rfl | exact Or.inr rfl)) (.nil) rfl) rfl)) (mss_one (ms_setI (me_var 3) (me_var 2) (me_var 4))))
    (mss_cons (ms_set 5 sc_put_in_order.nd (me_lst (ma_nil)))
    (mss_cons (ms_fz 2 (ms_for rfl hp (mi_seq rfl (me_var 1)) (mg_name 4 sc_put_in_order.nd) (mss_one (ms_expr (me_meth rfl PySem.F.plainAttrs_list PySem.F.slot_list_append PySem.F.type_list_append mt_append fAppend_ok (me_var 5) (ma_cons (me_fz (me_lc (own := [("to", 6)]) rfl sc_put_in_order.nd (mi_seq rfl (me_ix rfl (me_ix rfl (me_var 0) (me_int)) (me_var 4))) (blkOk_by (N := ["table", "rooms", "places", "place", "room", "goes", "to"]) (sc := defScope (topS 8)) (by decide +kernel)) (fun _ _ _ _ _ => mg_name 6 sc_put_in_order.nd) (fun _ _ _ _ _ => mts_nil) (fun _ _ _ _ _ => me_ix rfl (me_var 2) (me_var 6)))) (ma_nil)))))))
    (mss_one (ms_fz 5 (ms_ret (me_tup (ma_cons (me_var 5) (ma_cons (me_fz (me_lc (own := [("room", 4)]) rfl sc_put_in_order.nd (mi_seq rfl (me_var 1)) (blkOk_by (N := ["table", "rooms", "places", "place", "room", "goes", "to"]) (sc := defScope (topS 8)) (by decide +kernel)) (fun _ _ _ _ _ => mg_name 4 sc_put_in_order.nd) (fun _ _ _ _ _ => mts_nil) (fun _ _ _ _ _ => me_ix rfl (me_ix rfl (me_var 0) (me_int)) (me_var 4)))) (ma_nil)))))))))))
theorem ok_put_in_order {P : Program} {w : World} {K : PySem.W.Frag} {mg : Str → Option Value} {base : Heap} {cl : Str → Addr} (d : DefAt K mg "put_in_order" (topS 8) ["table"]) (z_enumerate : mg "enumerate" = none) (F_in_order : FnG P w K mg base ⟨K, cl⟩ "in_order" 1 1 m_in_order) : FnG P w K mg base ⟨K, cl⟩ "put_in_order" 2 1 m_put_in_order := d.fn fun f fd F => okf_put_in_order F z_enumerate F_in_order
/-! _law_tongue -/
noncomputable def b__law_tongue_1 : MS := msCons (msSet 4 (mCall 2 (m__law_take) (mCons (mVar 0) (mCons (mB bLen (mCons (mVar 1) (mNil))) (mNil)))))
    (msCons (msSet 2 (mFz (mOp dAdd (mVar 2) (mOp dIx (mVar 1) (mVar 4)))))
    (msSet 1 (mFz (mOp dAdd (mFz (mSlice (mVar 1) (moNone) (moSome (mVar 4)))) (mFz (mSlice (mVar 1) (moSome (mOp dAdd (mVar 4) (mC (.int 1)))) (moNone)))))))
noncomputable def m__law_tongue : MF := fnM 5 (msCons (msSet 1 (mCall 0 (m__law_signs) mNil))
    (msCons (msSet 2 (mC (.str [])))
    (msCons (msFor (iRange1 (mCons (mOp dAdd (mC (.int 1)) (mCall 2 (m__law_take) (mCons (mVar 0) (mCons (mC (.int 6)) (mNil))))) (mNil))) (gSet 3) b__law_tongue_1)
    (msRet (mVar 2)))))
theorem sc__law_tongue : FnScope ["_law_hand_here", "_law_rest", "_law_tongue_here", "_law_turn", "_law_at"] ["_law_hand_here"] (defScope (topS 14)) := ⟨rfl, rfl, rfl, by decide +kernel, rfl, by decide +kernel, by decide +kernel⟩
theorem okf__law_tongue {P : Program} {w : World} {K : PySem.W.Frag} {mg : Str → Option Value} {base : Heap} {cl : Str → Addr} {f : Addr} {fd : FuncData} (F : Fun K "_law_tongue" "_law_tongue" (topS 14) f fd) (z_range : mg "range" = none) (z_len : mg "len" = none) (F__law_signs : FnG P w K mg base ⟨K, cl⟩ "_law_signs" 1 0 m__law_signs) (F__law_take : FnG P w K mg base ⟨K, cl⟩ "_law_take" 1 2 m__law_take) : FnOk P w K mg base (L2.CX P w) 2 f fd ["_law_hand_here"] (FSp ⟨K, cl⟩ 1 m__law_tongue) :=
  fnPM F sc__law_tongue rfl fun cdv A outer s H E hr tk hp => mss_cons (ms_set 1 sc__law_tongue.nd (me_callG0 F__law_signs hr (by decide) tk))
    (mss_cons (ms_set 2 sc__law_tongue.nd (me_str []))
    (mss_cons (ms_for rfl hp (mi_range1 (ma_cons (me_add rfl (me_int) (me_callG F__law_take hr (by decide) tk (ma_cons (me_var 0) (ma_cons (me_int) (ma_nil))))) (ma_nil)) z_range) (mg_name 3 sc__law_tongue.nd) (mss_cons (ms_set 4 sc__law_tongue.nd (me_callG F__law_take hr (by decide) tk (ma_cons (me_var 0) (ma_cons (me_callB call_lenA bLen_ok z_len (by decide +kernel) (ma_cons (me_var 1) (ma_nil))) (ma_nil)))))
    (mss_cons (ms_set 2 sc__law_tongue.nd (me_fz (me_add rfl (me_var 2) (me_ix rfl (me_var 1) (me_var 4)))))
    (mss_one (ms_set 1 sc__law_tongue.nd (me_fz (me_add rfl (me_fz (me_slice rfl (me_var 1) (moN) (moS (me_var 4)))) (me_fz (me_slice rfl (me_var 1) (moS (me_add rfl (me_var 4) (me_int))) (moN))))))))))
    (mss_one (ms_ret (me_var 2)))))
theorem ok__law_tongue {P : Program} {w : World} {K : PySem.W.Frag} {mg : Str → Option Value} {base : Heap} {cl : Str → Addr} (d : DefAt K mg "_law_tongue" (topS 14) ["_law_hand_here"]) (z_range : mg "range" = none) (z_len : mg "len" = none) (F__law_signs : FnG P w K mg base ⟨K, cl⟩ "_law_signs" 1 0 m__law_signs) (F__law_take : FnG P w K mg base ⟨K, cl⟩ "_law_take" 1 2 m__law_take) : FnG P w K mg base ⟨K, cl⟩ "_law_tongue" 2 1 m__law_tongue := d.fn fun f fd F => okf__law_tongue F z_range z_len F__law_signs F__law_take
/-! _law_goes -/
noncomputable def e__law_goes_1 : ME := mTup (mCons (mC (.int 0)) (mCons (mVar 9) (mNil)))
noncomputable def e__law_goes_2 : ME := mTup (mCons (mVar 6) (mCons (mVar 10) (mNil)))
noncomputable def b__law_goes_3 : MS := msCons (msSet 7 (mOp dSub (mOp dSub (mB bLen (mCons (mVar 4) (mNil))) (mC (.int 1))) (mCall 2 (m__law_take) (mCons (mVar 0) (mCons (mVar 1) (mNil))))))
    (msCons (msIf (mTb (mOp (dEq false) (mVar 3) (mC (.int 0)))) (msSet 7 (mCall 2 (m__law_take) (mCons (mVar 0) (mCons (mB bLen (mCons (mVar 4) (mNil))) (mNil))))) (msNil))
    (msCons (msSetT (gSets [8, 9]) (mMeth "list" fPopAt (mVar 4) (mCons (mVar 7) (mNil))))
    (msCons (msSetI (mOp dIx (mVar 5) (mVar 8)) (mVar 9) (mVar 6))
    (msCons (msExpr (mMeth "list" fAppend (mVar 5) (mCons (mOp dMul (mLst (mCons (mC (.int 0)) (mNil))) (mVar 1)) (mNil))))
    (msExpr (mMeth "list" fExtend (mVar 4) (mCons (mFz (mLc (iRange1 (mCons (mVar 1) (mNil))) (gSet 10) mYes e__law_goes_2 [10])) (mNil))))))))
noncomputable def b__law_goes_4 : MS := msSetI (mOp dIx (mVar 5) (mVar 8)) (mVar 9) (mCall 2 (m__law_take) (mCons (mVar 0) (mCons (mVar 2) (mNil))))
noncomputable def m__law_goes : MF := fnM 11 (msCons (msSet 3 (mCall 2 (m__law_take) (mCons (mVar 0) (mCons (mC (.int 2)) (mNil)))))
    (msCons (msSet 4 (mLc (iRange1 (mCons (mVar 1) (mNil))) (gSet 9) mYes e__law_goes_1 [9]))
    (msCons (msSet 5 (mLst (mCons (mOp dMul (mLst (mCons (mC (.int 0)) (mNil))) (mVar 1)) (mNil))))
    (msCons (msFor (iRange2 (mCons (mC (.int 1)) (mCons (mVar 2) (mNil)))) (gSet 6) b__law_goes_3)
    (msCons (msFz 4 (msFor (iSeq (mVar 4)) (gSets [8, 9]) b__law_goes_4))
    (msRet (mVar 5)))))))
theorem sc__law_goes : FnScope ["_law_hand_here", "_law_size", "_law_rooms", "_law_manner", "_law_free", "_law_goes_here", "_law_room", "_law_pick", "_law_one", "_law_at", "_law_k"] ["_law_hand_here", "_law_size", "_law_rooms"] (defScope (topS 15)) := ⟨rfl, rfl, rfl, by decide +kernel, rfl, by decide +kernel, by decide +kernel⟩
theorem okf__law_goes {P : Program} {w : World} {K : PySem.W.Frag} {mg : Str → Option Value} {base : Heap} {cl : Str → Addr} {f : Addr} {fd : FuncData} (F : Fun K "_law_goes" "_law_goes" (topS 15) f fd) (z_range : mg "range" = none) (z_len : mg "len" = none) (F__law_take : FnG P w K mg base ⟨K, cl⟩ "_law_take" 1 2 m__law_take) : FnOk P w K mg base (L2.CX P w) 2 f fd ["_law_hand_here", "_law_size", "_law_rooms"] (FSp ⟨K, cl⟩ 3 m__law_goes) :=
  fnPM F sc__law_goes rfl fun cdv A outer s H E hr tk hp => mss_cons (ms_set 3 sc__law_goes.nd (me_callG F__law_take hr (by decide) tk (ma_cons (me_var 0) (ma_cons (me_int) (ma_nil)))))
    (mss_cons (ms_setLc 4 (own := [("_law_at", 9)]) rfl sc__law_goes.nd (mi_range1 (ma_cons (me_var 1) (ma_nil)) z_range) (blkOk_by (N := ["_law_hand_here", "_law_size", "_law_rooms", "_law_manner", "_law_free", "_law_goes_here", "_law_room", "_law_pick", "_law_one", "_law_at", "_law_k"]) (sc := defScope (topS 15)) (by decide +kernel)) (fun _ _ _ _ _ => mg_name 9 sc__law_goes.nd) (fun _ _ _ _ _ => mts_nil) (fun _ _ _ _ _ => me_tup (ma_cons (me_int) (ma_cons (me_var 9) (ma_nil)))) (sw_true rfl rfl rfl (by decide +kernel)))
    (mss_cons (ms_set 5 sc__law_goes.nd (me_lst (ma_cons (me_mul rfl (me_lst (ma_cons (me_int) (ma_nil))) (me_var 1)) (ma_nil))))
    (mss_cons (ms_for rfl hp (mi_range2 (ma_cons (me_int) (ma_cons (me_var 2) (ma_nil))) z_range) (mg_name 6 sc__law_goes.nd) (mss_cons (ms_set 7 sc__law_goes.nd (me_sub (me_sub (me_callB call_lenA bLen_ok z_len (by decide +kernel) (ma_cons (me_var 4) (ma_nil))) (me_int)) (me_callG F__law_take hr (by decide) tk (ma_cons (me_var 0) (ma_cons (me_var 1) (ma_nil))))))
    (mss_cons (ms_if (mt_cmp (op_eqP hr.units) (dEq_ok rfl) (me_var 3) (me_int)) (mss_one (ms_set 7 sc__law_goes.nd (me_callG F__law_take hr (by decide) tk (ma_cons (me_var 0) (ma_cons (me_callB call_lenA bLen_ok z_len (by decide +kernel) (ma_cons (me_var 4) (ma_nil))) (ma_nil)))))) (mss_nil))
    (mss_cons (ms_setT (me_meth rfl PySem.F.plainAttrs_list PySem.F.slot_list_pop PySem.F.type_list_pop mt_popAt fPopAt_ok (me_var 4) (ma_cons (me_var 7) (ma_nil))) (mg_tup rfl rfl (.cons (pg_name (i := 8) sc__law_goes.nd rfl (by first | exact Or.inl rfl | exact Or.inr rfl)) (.cons (pg_name (i := 9) sc__law_goes.nd rfl (by first | exact Or.inl rfl | exact Or.inr rfl)) (.nil) rfl) rfl)))
    (mss_cons (ms_setI (me_var 6) (me_ix rfl (me_var 5) (me_var 8)) (me_var 9))
    (mss_cons (ms_expr (me_meth rfl PySem.F.plainAttrs_list PySem.F.slot_list_append PySem.F.type_list_append mt_append fAppend_ok (me_var 5) (ma_cons (me_mul rfl (me_lst (ma_cons (me_int) (ma_nil))) (me_var 1)) (ma_nil))))
    (mss_one (ms_expr (me_meth rfl PySem.F.plainAttrs_list PySem.F.slot_list_extend PySem.F.type_list_extend mt_extendR fExtend_ok (me_var 4) (ma_cons (me_fz (me_lc (own := [("_law_k", 10)]) rfl sc__law_goes.nd (mi_range1 (ma_cons (me_var 1) (ma_nil)) z_range) (blkOk_by (N := ["_law_hand_here", "_law_size", "_law_rooms", "_law_manner", "_law_free", "_law_goes_here", "_law_room", "_law_pick", "_law_one", "_law_at", "_law_k"]) (sc := defScope (topS 15)) (by decide +kernel)) (fun _ _ _ _ _ => mg_name 10 sc__law_goes.nd) (fun _ _ _ _ _ => mts_nil) (fun _ _ _ _ _ => me_tup (ma_cons (me_var 6) (ma_cons (me_var 10) (ma_nil)))))) (ma_nil)))))))))))
    (mss_cons (ms_fz 4 (ms_for rfl hp (mi_seq rfl (me_var 4)) (mg_tup rfl rfl (.cons (pg_name (i := 8) sc__law_goes.nd rfl (by first | exact Or.inl rfl | exact Or.inr rfl)) (.cons (pg_name (i := 9) sc__law_goes.nd rfl (by first | exact Or.inl rfl | exact Or.inr rfl)) (.nil) rfl) rfl)) (mss_one (ms_setI (me_callG F__law_take hr (by decide) tk (ma_cons (me_var 0) (ma_cons (me_var 2) (ma_nil)))) (me_ix rfl (me_var 5) (me_var 8)) (me_var 9)))))
    (mss_one (ms_ret (me_var 5)))))))
theorem ok__law_goes {P : Program} {w : World} {K : PySem.W.Frag} {mg : Str → Option Value} {base : Heap} {cl : Str → Addr} (d : DefAt K mg "_law_goes" (topS 15) ["_law_hand_here", "_law_size", "_law_rooms"]) (z_range : mg "range" = none) (z_len : mg "len" = none) (F__law_take : FnG P w K mg base ⟨K, cl⟩ "_law_take" 1 2 m__law_take) : FnG P w K mg base ⟨K, cl⟩ "_law_goes" 2 3 m__law_goes := d.fn fun f fd F => okf__law_goes F z_range z_len F__law_take
/-! _law_kinds -/
noncomputable def b__law_kinds_1 : MS := msCons (msSet 5 (mOp dSub (mCall 2 (m__law_take) (mCons (mVar 0) (mCons (mC (.int 7)) (mNil)))) (mC (.int 1))))
    (msCons (msIf (mTb (mOp (dEq false) (mVar 2) (mC (.int 1)))) (msSet 5 (mOp dDiv (mVar 5) (mC (.int 5)))) (msNil))
    (msCons (msIf (mAnd (mTb (mOp (dEq false) (mVar 2) (mC (.int 2)))) (mTb (mOp dGt (mCall 2 (m__law_take) (mCons (mVar 0) (mCons (mC (.int 3)) (mNil)))) (mC (.int 0))))) (msSet 5 (mNeg (mC (.int 1)))) (msNil))
    (msExpr (mMeth "list" fAppend (mVar 3) (mCons (mVar 5) (mNil))))))
noncomputable def m__law_kinds : MF := fnM 6 (msCons (msSet 2 (mCall 2 (m__law_take) (mCons (mVar 0) (mCons (mC (.int 3)) (mNil)))))
    (msCons (msSet 3 (mLst (mCons (mNeg (mC (.int 1))) (mNil))))
    (msCons (msFor (iRange2 (mCons (mC (.int 1)) (mCons (mVar 1) (mNil)))) (gSet 4) b__law_kinds_1)
    (msFz 3 (msRet (mVar 3))))))
theorem sc__law_kinds : FnScope ["_law_hand_here", "_law_rooms", "_law_manner", "_law_kinds_here", "_law_room", "_law_kind"] ["_law_hand_here", "_law_rooms"] (defScope (topS 16)) := ⟨rfl, rfl, rfl, by decide +kernel, rfl, by decide +kernel, by decide +kernel⟩
theorem okf__law_kinds {P : Program} {w : World} {K : PySem.W.Frag} {mg : Str → Option Value} {base : Heap} {cl : Str → Addr} {f : Addr} {fd : FuncData} (F : Fun K "_law_kinds" "_law_kinds" (topS 16) f fd) (z_range : mg "range" = none) (F__law_take : FnG P w K mg base ⟨K, cl⟩ "_law_take" 1 2 m__law_take) : FnOk P w K mg base (L2.CX P w) 2 f fd ["_law_hand_here", "_law_rooms"] (FSp ⟨K, cl⟩ 2 m__law_kinds) :=
  fnPM F sc__law_kinds rfl fun cdv A outer s H E hr tk hp => mss_cons (ms_set 2 sc__law_kinds.nd (me_callG F__law_take hr (by decide) tk (ma_cons (me_var 0) (ma_cons (me_int) (ma_nil)))))
    (mss_cons (ms_set 3 sc__law_kinds.nd (me_lst (ma_cons (me_neg (me_int)) (ma_nil))))
    (mss_cons (ms_for rfl hp (mi_range2 (ma_cons (me_int) (ma_cons (me_var 1) (ma_nil))) z_range) (mg_name 4 sc__law_kinds.nd) (mss_cons (ms_set 5 sc__law_kinds.nd (me_sub (me_callG F__law_take hr (by decide) tk (ma_cons (me_var 0) (ma_cons (me_int) (ma_nil)))) (me_int)))
    (mss_cons (ms_if (mt_cmp (op_eqP hr.units) (dEq_ok rfl) (me_var 2) (me_int)) (mss_one (ms_set 5 sc__law_kinds.nd (me_div (me_var 5) (me_int)))) (mss_nil))
    (mss_cons (ms_if (mt_w (mw_and (mt_cmp (op_eqP hr.units) (dEq_ok rfl) (me_var 2) (me_int)) (mw_and1 (mt_cmp op_gt opS_C (me_callG F__law_take hr (by decide) tk (ma_cons (me_var 0) (ma_cons (me_int) (ma_nil)))) (me_int))))) (mss_one (ms_set 5 sc__law_kinds.nd (me_neg (me_int)))) (mss_nil))
    (mss_one (ms_expr (me_meth rfl PySem.F.plainAttrs_list PySem.F.slot_list_append PySem.F.type_list_append mt_append fAppend_ok (me_var 3) (ma_cons (me_var 5) (ma_nil)))))))))
    (mss_one (ms_fz 3 (ms_ret (me_var 3))))))
theorem ok__law_kinds {P : Program} {w : World} {K : PySem.W.Frag} {mg : Str → Option Value} {base : Heap} {cl : Str → Addr} (d : DefAt K mg "_law_kinds" (topS 16) ["_law_hand_here", "_law_rooms"]) (z_range : mg "range" = none) (F__law_take : FnG P w K mg base ⟨K, cl⟩ "_law_take" 1 2 m__law_take) : FnG P w K mg base ⟨K, cl⟩ "_law_kinds" 2 2 m__law_kinds := d.fn fun f fd F => okf__law_kinds F z_range F__law_take
/-! _law_shuffled -/
noncomputable def t__law_shuffled_1 : MT := mTb (mOp dGt (mB bLen (mCons (mVar 3) (mNil))) (mC (.int 0)))
noncomputable def b__law_shuffled_2 : MS := msExpr (mMeth "list" fAppend (mVar 4) (mCons (mMeth "list" fPopAt (mVar 3) (mCons (mCall 2 (m__law_take) (mCons (mVar 0) (mCons (mB bLen (mCons (mVar 3) (mNil))) (mNil)))) (mNil))) (mNil)))
noncomputable def e__law_shuffled_3 : ME := mTup (mNil)
noncomputable def e__law_shuffled_4 : ME := mNeg (mC (.int 1))
noncomputable def e__law_shuffled_5 : ME := mOp dIx (mVar 4) (mVar 9)
noncomputable def b__law_shuffled_6 : MS := msCons (msSetI (mVar 5) (mOp dIx (mVar 4) (mVar 7)) (mB bTupleX (mCons (mFz (mLc (iSeq (mVar 8)) (gSet 9) mYes e__law_shuffled_5 [9])) (mNil))))
    (msSetI (mVar 6) (mOp dIx (mVar 4) (mVar 7)) (mOp dIx (mVar 2) (mVar 7)))
noncomputable def m__law_shuffled : MF := fnM 10 (msCons (msSet 3 (mLstR (mC (.int 1)) (mB bLen (mCons (mVar 1) (mNil)))))
    (msCons (msSet 4 (mLst (mCons (mC (.int 0)) (mNil))))
    (msCons (msWhile t__law_shuffled_1 b__law_shuffled_2)
    (msCons (msSet 5 (mLc (iSeq (mVar 1)) (gSet 7) mYes e__law_shuffled_3 [7]))
    (msCons (msSet 6 (mLc (iSeq (mVar 1)) (gSet 7) mYes e__law_shuffled_4 [7]))
    (msCons (msFz 4 (msFor (iEnum (mCons (mVar 1) (mNil))) (gSets [7, 8]) b__law_shuffled_6))
    (msRet (mTup (mCons (mB bTupleX (mCons (mVar 5) (mNil))) (mCons (mB bTupleX (mCons (mVar 6) (mNil))) (mNil)))))))))))
theorem sc__law_shuffled : FnScope ["_law_hand_here", "_law_goes_here", "_law_kinds_here", "_law_rest", "_law_places", "_law_rows", "_law_told", "_law_room", "_law_row", "_law_to"] ["_law_hand_here", "_law_goes_here", "_law_kinds_here"] (defScope (topS 17)) := ⟨rfl, rfl, rfl, by decide +kernel, rfl, by decide +kernel, by decide +kernel⟩
theorem okf__law_shuffled {P : Program} {w : World} {K : PySem.W.Frag} {mg : Str → Option Value} {base : Heap} {cl : Str → Addr} {f : Addr} {fd : FuncData} (F : Fun K "_law_shuffled" "_law_shuffled" (topS 17) f fd) (z_len : mg "len" = none) (z_list : mg "list" = none) (z_range : mg "range" = none) (z_enumerate : mg "enumerate" = none) (z_tuple : mg "tuple" = none) (F__law_take : FnG P w K mg base ⟨K, cl⟩ "_law_take" 1 2 m__law_take) : FnOk P w K mg base (L2.CX P w) 2 f fd ["_law_hand_here", "_law_goes_here", "_law_kinds_here"] (FSp ⟨K, cl⟩ 3 m__law_shuffled) :=
  fnPM F sc__law_shuffled rfl fun cdv A outer s H E hr tk hp => mss_cons (ms_set 3 sc__law_shuffled.nd (me_lstR rfl z_list z_range (me_int) (me_callB call_lenA bLen_ok z_len (by decide +kernel) (ma_cons (me_var 1) (ma_nil)))))
    (mss_cons (ms_set 4 sc__law_shuffled.nd (me_lst (ma_cons (me_int) (ma_nil))))
    (mss_cons (ms_while hp (mt_cmp op_gt opS_C (me_callB call_lenA bLen_ok z_len (by decide +kernel) (ma_cons (me_var 3) (ma_nil))) (me_int)) (mss_one (ms_expr (me_meth rfl PySem.F.plainAttrs_list PySem.F.slot_list_append PySem.F.type_list_append mt_append fAppend_ok (me_var 4) (ma_cons (me_meth rfl PySem.F.plainAttrs_list PySem.F.slot_list_pop PySem.F.type_list_pop mt_popAt fPopAt_ok (me_var 3) (ma_cons (me_callG F__law_take hr (by decide) tk (ma_cons (me_var 0) (ma_cons (me_callB call_lenA bLen_ok z_len (by decide +kernel) (ma_cons (me_var 3) (ma_nil))) (ma_nil)))) (ma_nil))) (ma_nil))))))
    (mss_cons (ms_setLc 5 (own := [("_law_room", 7)]) rfl sc__law_shuffled.nd (mi_seq rfl (me_var 1)) (blkOk_by (N := ["_law_hand_here", "_law_goes_here", "_law_kinds_here", "_law_rest", "_law_places", "_law_rows", "_law_told", "_law_room", "_law_row", "_law_to"]) (sc := defScope (topS 17)) (by decide +kernel)) (fun _ _ _ _ _ => mg_name 7 sc__law_shuffled.nd) (fun _ _ _ _ _ => mts_nil) (fun _ _ _ _ _ => me_tup (ma_nil)) (sw_true rfl rfl rfl (by decide +kernel)))
    (mss_cons (ms_setLc 6 (own := [("_law_room", 7)]) rfl sc__law_shuffled.nd (mi_seq rfl (me_var 1)) (blkOk_by (N := ["_law_hand_here", "_law_goes_here", "_law_kinds_here", "_law_rest", "_law_places", "_law_rows", "_law_told", "_law_room", "_law_row", "_law_to"]) (sc := defScope (topS 17)) (by decide +kernel)) (fun _ _ _ _ _ => mg_name 7 sc__law_shuffled.nd) (fun _ _ _ _ _ => mts_nil) (fun _ _ _ _ _ => me_neg (me_int)) (sw_true rfl rfl rfl (by decide +kernel)))
    (mss_cons (ms_fz 4 (ms_for rfl hp (mi_enum rfl (ma_cons (me_var 1) (ma_nil)) z_enumerate) (mg_tup rfl rfl (.cons (pg_name (i := 7) sc__law_shuffled.nd rfl (by first | exact Or.inl rfl | exact Or.inr rfl)) (.cons (pg_name (i := 8) sc__law_shuffled.nd rfl (by first | exact Or.inl rfl | exact Or.inr rfl)) (.nil) rfl) rfl)) (mss_cons (ms_setI (me_callT (call_tupleX rfl) bTupleX_ok z_tuple (by decide +kernel) (ma_cons (me_fz (me_lc (own := [("_law_to", 9)]) rfl sc__law_shuffled.nd (mi_seq rfl (me_var 8)) (blkOk_by (N := ["_law_hand_here", "_law_goes_here", "_law_kinds_here", "_law_rest", "_law_places", "_law_rows", "_law_told", "_law_room", "_law_row", "_law_to"]) (sc := defScope (topS 17)) (by decide +kernel)) (fun _ _ _ _ _ => mg_name 9 sc__law_shuffled.nd) (fun _ _ _ _ _ => mts_nil) (fun _ _ _ _ _ => me_ix rfl (me_var 4) (me_var 9)))) (ma_nil))) (me_var 5) (me_ix rfl (me_var 4) (me_var 7)))
    (mss_one (ms_setI (me_ix rfl (me_var 2) (me_var 7)) (me_var 6) (me_ix rfl (me_var 4) (me_var 7)))))))
    (mss_one (ms_ret (me_tup (ma_cons (me_callT (call_tupleX rfl) bTupleX_ok z_tuple (by decide +kernel) (ma_cons (me_var 5) (ma_nil))) (ma_cons (me_callT (call_tupleX rfl) bTupleX_ok z_tuple (by decide +kernel) (ma_cons (me_var 6) (ma_nil))) (ma_nil)))))))))))
theorem ok__law_shuffled {P : Program} {w : World} {K : PySem.W.Frag} {mg : Str → Option Value} {base : Heap} {cl : Str → Addr} (d : DefAt K mg "_law_shuffled" (topS 17) ["_law_hand_here", "_law_goes_here", "_law_kinds_here"]) (z_len : mg "len" = none) (z_list : mg "list" = none) (z_range : mg "range" = none) (z_enumerate : mg "enumerate" = none) (z_tuple : mg "tuple" = none) (F__law_take : FnG P w K mg base ⟨K, cl⟩ "_law_take" 1 2 m__law_take) : FnG P w K mg base ⟨K, cl⟩ "_law_shuffled" 2 3 m__law_shuffled := d.fn fun f fd F => okf__law_shuffled F z_len z_list z_range z_enumerate z_tuple F__law_take
/-! _law_split -/
noncomputable def t__law_split_1 : MT := mTb (mOp (dEq false) (mVar 9) (mVar 6))
noncomputable def e__law_split_2 : ME := mVar 8
noncomputable def b__law_split_3 : MS := msCons (msSet 7 (mFz (mLc (iEnum (mCons (mVar 3) (mNil))) (gSets [8, 9]) t__law_split_1 e__law_split_2 [8, 9])))
    (msIf (mOr (mTb (mOp (dEq false) (mB bLen (mCons (mVar 7) (mNil))) (mC (.int 0)))) (mAnd (mTb (mOp dLe (mOp dAdd (mB bLen (mCons (mVar 3) (mNil))) (mB bLen (mCons (mVar 1) (mNil)))) (mC (.int 32)))) (mTb (mOp (dEq false) (mCall 2 (m__law_take) (mCons (mVar 0) (mCons (mC (.int 4)) (mNil)))) (mC (.int 0)))))) (msCons (msExpr (mMeth "list" fAppend (mVar 5) (mCons (mB bLen (mCons (mVar 3) (mNil))) (mNil))))
    (msExpr (mMeth "list" fAppend (mVar 3) (mCons (mVar 6) (mNil))))) (msExpr (mMeth "list" fAppend (mVar 5) (mCons (mOp dIx (mVar 7) (mCall 2 (m__law_take) (mCons (mVar 0) (mCons (mB bLen (mCons (mVar 7) (mNil))) (mNil))))) (mNil)))))
noncomputable def t__law_split_4 : MT := mTb (mOp dLt (mB bLen (mCons (mVar 4) (mNil))) (mB bLen (mCons (mVar 3) (mNil))))
noncomputable def b__law_split_5 : MS := msCons (msSet 5 (mLst (mNil)))
    (msCons (msFor (iSeq (mOp dIx (mVar 1) (mOp dIx (mVar 3) (mB bLen (mCons (mVar 4) (mNil)))))) (gSet 6) b__law_split_3)
    (msFz 5 (msExpr (mMeth "list" fAppend (mVar 4) (mCons (mVar 5) (mNil))))))
noncomputable def e__law_split_6 : ME := mOp dIx (mVar 2) (mVar 9)
noncomputable def m__law_split : MF := fnM 10 (msCons (msSet 3 (mLst (mCons (mC (.int 0)) (mNil))))
    (msCons (msSet 4 (mLst (mNil)))
    (msCons (msWhile t__law_split_4 b__law_split_5)
    (msFz 4 (msRet (mTup (mCons (mVar 4) (mCons (mFz (mLc (iSeq (mVar 3)) (gSet 9) mYes e__law_split_6 [9])) (mNil)))))))))
theorem sc__law_split : FnScope ["_law_hand_here", "_law_goes_here", "_law_kinds_here", "_law_bases", "_law_rows", "_law_row", "_law_to", "_law_some", "_law_room", "_law_one"] ["_law_hand_here", "_law_goes_here", "_law_kinds_here"] (defScope (topS 18)) := ⟨rfl, rfl, rfl, by decide +kernel, rfl, by decide +kernel, by decide +kernel⟩
theorem okf__law_split {P : Program} {w : World} {K : PySem.W.Frag} {mg : Str → Option Value} {base : Heap} {cl : Str → Addr} {f : Addr} {fd : FuncData} (F : Fun K "_law_split" "_law_split" (topS 18) f fd) (z_len : mg "len" = none) (z_enumerate : mg "enumerate" = none) (F__law_take : FnG P w K mg base ⟨K, cl⟩ "_law_take" 1 2 m__law_take) : FnOk P w K mg base (L2.CX P w) 2 f fd ["_law_hand_here", "_law_goes_here", "_law_kinds_here"] (FSp ⟨K, cl⟩ 3 m__law_split) :=
  fnPM F sc__law_split rfl fun cdv A outer s H E hr tk hp => mss_cons (ms_set 3 sc__law_split.nd (me_lst (ma_cons (me_int) (ma_nil))))
    (mss_cons (ms_set 4 sc__law_split.nd (me_lst (ma_nil)))
    (mss_cons (ms_while hp (mt_cmp op_lt opS_C (me_callB call_lenA bLen_ok z_len (by decide +kernel) (ma_cons (me_var 4) (ma_nil))) (me_callB call_lenA bLen_ok z_len (by decide +kernel) (ma_cons (me_var 3) (ma_nil)))) (mss_cons (ms_set 5 sc__law_split.nd (me_lst (ma_nil)))
    (mss_cons (ms_for rfl hp (mi_seq rfl (me_ix rfl (me_var 1) (me_ix rfl (me_var 3) (me_callB call_lenA bLen_ok z_len (by decide +kernel) (ma_cons (me_var 4) (ma_nil)))))) (mg_name 6 sc__law_split.nd) (mss_cons (ms_setF (ms_setLc 7 (own := [("_law_room", 8), ("_law_one", 9)]) rfl sc__law_split.nd (mi_enum rfl (ma_cons (me_var 3) (ma_nil)) z_enumerate) (blkOk_by (N := ["_law_hand_here", "_law_goes_here", "_law_kinds_here", "_law_bases", "_law_rows", "_law_row", "_law_to", "_law_some", "_law_room", "_law_one"]) (sc := defScope (topS 18)) (by decide +kernel)) (fun _ _ _ _ _ => mg_tup rfl rfl (.cons (pg_name (i := 8) sc__law_split.nd rfl (by first | exact Or.inl rfl | exact Or.inr rfl)) (.cons (pg_name (i := 9) sc__law_split.nd rfl (by first | exact Or.inl rfl | exact Or.inr rfl)) (.nil) rfl) rfl)) (fun _ _ _ _ _ => mts_one (mt_cmp (op_eqP hr.units) (dEq_ok rfl) (me_var 9) (me_var 6))) (fun _ _ _ _ _ => me_var 8) (sw_true rfl rfl rfl (by decide +kernel))))
    (mss_one (ms_if (mt_w (mw_or (mt_cmp (op_eqP hr.units) (dEq_ok rfl) (me_callB call_lenA bLen_ok z_len (by decide +kernel) (ma_cons (me_var 7) (ma_nil))) (me_int)) (mw_or1 (mt_w (mw_and (mt_cmp op_le opS_C (me_add rfl (me_callB call_lenA bLen_ok z_len (by decide +kernel) (ma_cons (me_var 3) (ma_nil))) (me_callB call_lenA bLen_ok z_len (by decide +kernel) (ma_cons (me_var 1) (ma_nil)))) (me_int)) (mw_and1 (mt_cmp (op_eqP hr.units) (dEq_ok rfl) (me_callG F__law_take hr (by decide) tk (ma_cons (me_var 0) (ma_cons (me_int) (ma_nil)))) (me_int)))))))) (mss_cons (ms_expr (me_meth rfl PySem.F.plainAttrs_list PySem.F.slot_list_append PySem.F.type_list_append mt_append fAppend_ok (me_var 5) (ma_cons (me_callB call_lenA bLen_ok z_len (by decide +kernel) (ma_cons (me_var 3) (ma_nil))) (ma_nil))))
    (mss_one (ms_expr (me_meth rfl PySem.F.plainAttrs_list PySem.F.slot_list_append PySem.F.type_list_append mt_append fAppend_ok (me_var 3) (ma_cons (me_var 6) (ma_nil)))))) (mss_one (ms_expr (me_meth rfl PySem.F.plainAttrs_list PySem.F.slot_list_append PySem.F.type_list_append mt_append fAppend_ok (me_var 5) (ma_cons (me_ix rfl (me_var 7) (me_callG F__law_take hr (by decide) tk (ma_cons (me_var 0) (ma_cons (me_callB call_lenA bLen_ok z_len (by decide +kernel) (ma_cons (me_var 7) (ma_nil))) (ma_nil))))) (ma_nil)))))))))
    (mss_one (ms_fz 5 (ms_expr (me_meth rfl PySem.F.plainAttrs_list PySem.F.slot_list_append PySem.F.type_list_append mt_append fAppend_ok (me_var 4) (ma_cons (me_var 5) (ma_nil)))))))))
    (mss_one (ms_fz 4 (ms_ret (me_tup (ma_cons (me_var 4) (ma_cons (me_fz (me_lc (own := [("_law_one", 9)]) rfl sc__law_split.nd (mi_seq rfl (me_var 3)) (blkOk_by (N := ["_law_hand_here", "_law_goes_here", "_law_kinds_here", "_law_bases", "_law_rows", "_law_row", "_law_to", "_law_some", "_law_room", "_law_one"]) (sc := defScope (topS 18)) (by decide +kernel)) (fun _ _ _ _ _ => mg_name 9 sc__law_split.nd) (fun _ _ _ _ _ => mts_nil) (fun _ _ _ _ _ => me_ix rfl (me_var 2) (me_var 9)))) (ma_nil)))))))))
theorem ok__law_split {P : Program} {w : World} {K : PySem.W.Frag} {mg : Str → Option Value} {base : Heap} {cl : Str → Addr} (d : DefAt K mg "_law_split" (topS 18) ["_law_hand_here", "_law_goes_here", "_law_kinds_here"]) (z_len : mg "len" = none) (z_enumerate : mg "enumerate" = none) (F__law_take : FnG P w K mg base ⟨K, cl⟩ "_law_take" 1 2 m__law_take) : FnG P w K mg base ⟨K, cl⟩ "_law_split" 2 3 m__law_split := d.fn fun f fd F => okf__law_split F z_len z_enumerate F__law_take
/-! _law_is_row -/
noncomputable def e__law_is_row_1 : ME := mCall 3 (m__law_number) (mCons (mVar 4) (mCons (mVar 2) (mCons (mVar 3) (mNil))))
noncomputable def m__law_is_row : MF := fnM 5 (msCons (msIf (mOr (mNot (mTr (mIs "tuple" (mVar 0)))) (mTb (mOp (dEq true) (mB bLen (mCons (mVar 0) (mNil))) (mVar 1)))) (msRet (mC (.bl false))) (msNil))
    (msRet (mB bAll (mCons (mFz (mLc (iSeq (mVar 0)) (gSet 4) mYes e__law_is_row_1 [4])) (mNil)))))
theorem sc__law_is_row : FnScope ["_law_thing", "_law_size", "_law_low", "_law_high", "_law_one"] ["_law_thing", "_law_size", "_law_low", "_law_high"] (defScope (topS 21)) := ⟨rfl, rfl, rfl, by decide +kernel, rfl, by decide +kernel, by decide +kernel⟩
theorem okf__law_is_row {P : Program} {w : World} {K : PySem.W.Frag} {mg : Str → Option Value} {base : Heap} {cl : Str → Addr} {f : Addr} {fd : FuncData} (F : Fun K "_law_is_row" "_law_is_row" (topS 21) f fd) (z_isinstance : mg "isinstance" = none) (z_tuple : mg "tuple" = none) (z_len : mg "len" = none) (z_all : mg "all" = none) (F__law_number : FnG P w K mg base ⟨K, cl⟩ "_law_number" 1 3 m__law_number) : FnOk P w K mg base (L2.CX P w) 2 f fd ["_law_thing", "_law_size", "_law_low", "_law_high"] (FSp ⟨K, cl⟩ 4 m__law_is_row) :=
  fnPM F sc__law_is_row rfl fun cdv A outer s H E hr tk hp => mss_cons (ms_if (mt_w (mw_or (mt_not (mt_val rfl (me_is rfl (me_var 0) z_isinstance z_tuple))) (mw_or1 (mt_cmp (op_neP hr.units) (dNe_ok rfl) (me_callB call_lenA bLen_ok z_len (by decide +kernel) (ma_cons (me_var 0) (ma_nil))) (me_var 1))))) (mss_one (ms_ret (me_bl))) (mss_nil))
    (mss_one (ms_ret (me_callB (cr_all rfl) bAll_ok z_all (by decide +kernel) (ma_cons (me_fz (me_lc (own := [("_law_one", 4)]) rfl sc__law_is_row.nd (mi_seq rfl (me_var 0)) (blkOk_by (N := ["_law_thing", "_law_size", "_law_low", "_law_high", "_law_one"]) (sc := defScope (topS 21)) (by decide +kernel)) (fun _ _ _ _ _ => mg_name 4 sc__law_is_row.nd) (fun _ _ _ _ _ => mts_nil) (fun _ _ _ _ _ => me_callG F__law_number hr (by decide) takes0 (ma_cons (me_var 4) (ma_cons (me_var 2) (ma_cons (me_var 3) (ma_nil))))))) (ma_nil)))))
theorem ok__law_is_row {P : Program} {w : World} {K : PySem.W.Frag} {mg : Str → Option Value} {base : Heap} {cl : Str → Addr} (d : DefAt K mg "_law_is_row" (topS 21) ["_law_thing", "_law_size", "_law_low", "_law_high"]) (z_isinstance : mg "isinstance" = none) (z_tuple : mg "tuple" = none) (z_len : mg "len" = none) (z_all : mg "all" = none) (F__law_number : FnG P w K mg base ⟨K, cl⟩ "_law_number" 1 3 m__law_number) : FnG P w K mg base ⟨K, cl⟩ "_law_is_row" 2 4 m__law_is_row := d.fn fun f fd F => okf__law_is_row F z_isinstance z_tuple z_len z_all F__law_number
/-! classes_of -/
noncomputable def t_classes_of_1 : MT := mTb (mChain dLt dLe (mVar 4) (mOp dAdd (mB bMax1T (mCons (mVar 3) (mNil))) (mC (.int 1))) (mVar 2))
noncomputable def b_classes_of_2 : MS := msCons (msSet 4 (mOp dAdd (mB bMax1T (mCons (mVar 3) (mNil))) (mC (.int 1))))
    (msSet 3 (mCall 2 (m_finer) (mCons (mVar 0) (mCons (mVar 3) (mNil)))))
noncomputable def m_classes_of : MF := fnM 5 (msCons (msSet 3 (mCall 1 (m_numbered) (mCons (mVar 1) (mNil))))
    (msCons (msSet 4 (mC (.int 0)))
    (msCons (msWhile t_classes_of_1 b_classes_of_2)
    (msCons (msIf (mTb (mOp dGt (mOp dAdd (mB bMax1T (mCons (mVar 3) (mNil))) (mC (.int 1))) (mVar 2))) (msRet (mC .non)) (msNil))
    (msRet (mVar 3))))))
theorem sc_classes_of : FnScope ["goes", "kinds", "most", "marks", "many"] ["goes", "kinds", "most"] (defScope (topS 3)) := ⟨rfl, rfl, rfl, by decide +kernel, rfl, by decide +kernel, by decide +kernel⟩
theorem okf_classes_of {P : Program} {w : World} {K : PySem.W.Frag} {mg : Str → Option Value} {base : Heap} {cl : Str → Addr} {f : Addr} {fd : FuncData} (F : Fun K "classes_of" "classes_of" (topS 3) f fd) (z_max : mg "max" = none) (F_numbered : FnG P w K mg base ⟨K, cl⟩ "numbered" 1 1 m_numbered) (F_finer : FnG P w K mg base ⟨K, cl⟩ "finer" 2 2 m_finer) : FnOk P w K mg base (L2.CX P w) 3 f fd ["goes", "kinds", "most"] (FSp ⟨K, cl⟩ 3 m_classes_of) :=
  fnPM F sc_classes_of rfl fun cdv A outer s H E hr tk hp => mss_cons (ms_set 3 sc_classes_of.nd (me_callG F_numbered hr (by decide) tk (ma_cons (me_var 1) (ma_nil))))
    (mss_cons (ms_set 4 sc_classes_of.nd (me_int))
    (mss_cons (ms_while hp (mt_chain op_lt opS_C op_le opS_C (me_var 4) (me_add rfl (me_callB (cr_maxT rfl) bMax1T_ok z_max (by decide +kernel) (ma_cons (me_var 3) (ma_nil))) (me_int)) (me_var 2)) (mss_cons (ms_set 4 sc_classes_of.nd (me_add rfl (me_callB (cr_maxT rfl) bMax1T_ok z_max (by decide +kernel) (ma_cons (me_var 3) (ma_nil))) (me_int)))
    (mss_one (ms_set 3 sc_classes_of.nd (me_callG F_finer hr (by decide) tk (ma_cons (me_var 0) (ma_cons (me_var 3) (ma_nil))))))))
    (mss_cons (ms_if (mt_cmp op_gt opS_C (me_add rfl (me_callB (cr_maxT rfl) bMax1T_ok z_max (by decide +kernel) (ma_cons (me_var 3) (ma_nil))) (me_int)) (me_var 2)) (mss_one (ms_ret (me_non))) (mss_nil))
    (mss_one (ms_ret (me_var 3))))))
theorem ok_classes_of {P : Program} {w : World} {K : PySem.W.Frag} {mg : Str → Option Value} {base : Heap} {cl : Str → Addr} (d : DefAt K mg "classes_of" (topS 3) ["goes", "kinds", "most"]) (z_max : mg "max" = none) (F_numbered : FnG P w K mg base ⟨K, cl⟩ "numbered" 1 1 m_numbered) (F_finer : FnG P w K mg base ⟨K, cl⟩ "finer" 2 2 m_finer) : FnG P w K mg base ⟨K, cl⟩ "classes_of" 3 3 m_classes_of := d.fn fun f fd F => okf_classes_of F z_max F_numbered F_finer
/-! _law_copied -/
noncomputable def m__law_copied : MF := fnM 7 (msCons (msSet 1 (mCall 1 (m__law_tongue) (mCons (mVar 0) (mNil))))
    (msCons (msSet 2 (mOp dAdd (mC (.int 1)) (mCall 2 (m__law_take) (mCons (mVar 0) (mCons (mC (.int 5)) (mNil))))))
    (msCons (msIf (mTb (mOp (dEq false) (mCall 2 (m__law_take) (mCons (mVar 0) (mCons (mC (.int 6)) (mNil)))) (mC (.int 0)))) (msSet 2 (mOp dAdd (mC (.int 1)) (mCall 2 (m__law_take) (mCons (mVar 0) (mCons (mC (.int 32)) (mNil)))))) (msNil))
    (msCons (msSetT (gSets [3, 4]) (mCall 3 (m__law_split) (mCons (mVar 0) (mCons (mDz (mCall 3 (m__law_goes) (mCons (mVar 0) (mCons (mB bLen (mCons (mVar 1) (mNil))) (mCons (mVar 2) (mNil)))))) (mCons (mCall 2 (m__law_kinds) (mCons (mVar 0) (mCons (mVar 2) (mNil)))) (mNil))))))
    (msCons (msSetT (gSets [5, 6]) (mCall 3 (m__law_shuffled) (mCons (mVar 0) (mCons (mVar 3) (mCons (mVar 4) (mNil))))))
    (msRet (mTup (mCons (mVar 1) (mCons (mVar 5) (mCons (mVar 6) (mNil)))))))))))
theorem sc__law_copied : FnScope ["_law_hand_here", "_law_tongue_here", "_law_rooms", "_law_rows", "_law_some", "_law_goes_here", "_law_kinds_here"] ["_law_hand_here"] (defScope (topS 19)) := ⟨rfl, rfl, rfl, by decide +kernel, rfl, by decide +kernel, by decide +kernel⟩
theorem okf__law_copied {P : Program} {w : World} {K : PySem.W.Frag} {mg : Str → Option Value} {base : Heap} {cl : Str → Addr} {f : Addr} {fd : FuncData} (F : Fun K "_law_copied" "_law_copied" (topS 19) f fd) (z_len : mg "len" = none) (F__law_tongue : FnG P w K mg base ⟨K, cl⟩ "_law_tongue" 2 1 m__law_tongue) (F__law_take : FnG P w K mg base ⟨K, cl⟩ "_law_take" 1 2 m__law_take) (F__law_split : FnG P w K mg base ⟨K, cl⟩ "_law_split" 2 3 m__law_split) (F__law_goes : FnG P w K mg base ⟨K, cl⟩ "_law_goes" 2 3 m__law_goes) (F__law_kinds : FnG P w K mg base ⟨K, cl⟩ "_law_kinds" 2 2 m__law_kinds) (F__law_shuffled : FnG P w K mg base ⟨K, cl⟩ "_law_shuffled" 2 3 m__law_shuffled) : FnOk P w K mg base (L2.CX P w) 3 f fd ["_law_hand_here"] (FSp ⟨K, cl⟩ 1 m__law_copied) :=
  fnPM F sc__law_copied rfl fun cdv A outer s H E hr tk hp => mss_cons (ms_set 1 sc__law_copied.nd (me_callG F__law_tongue hr (by decide) tk (ma_cons (me_var 0) (ma_nil))))
    (mss_cons (ms_set 2 sc__law_copied.nd (me_add rfl (me_int) (me_callG F__law_take hr (by decide) tk (ma_cons (me_var 0) (ma_cons (me_int) (ma_nil))))))
    (mss_cons (ms_if (mt_cmp (op_eqP hr.units) (dEq_ok rfl) (me_callG F__law_take hr (by decide) tk (ma_cons (me_var 0) (ma_cons (me_int) (ma_nil)))) (me_int)) (mss_one (ms_set 2 sc__law_copied.nd (me_add rfl (me_int) (me_callG F__law_take hr (by decide) tk (ma_cons (me_var 0) (ma_cons (me_int) (ma_nil))))))) (mss_nil))
    (mss_cons (ms_setT (me_callG F__law_split hr (by decide) tk (ma_cons (me_var 0) (ma_cons (me_dz (me_callG F__law_goes hr (by decide) tk (ma_cons (me_var 0) (ma_cons (me_callB call_lenA bLen_ok z_len (by decide +kernel) (ma_cons (me_var 1) (ma_nil))) (ma_cons (me_var 2) (ma_nil)))))) (ma_cons (me_callG F__law_kinds hr (by decide) tk (ma_cons (me_var 0) (ma_cons (me_var 2) (ma_nil)))) (ma_nil))))) (mg_tup rfl rfl (.cons (pg_name (i := 3) sc__law_copied.nd rfl (by first | exact Or.inl rfl | exact Or.inr rfl)) (.cons (pg_name (i := 4) sc__law_copied.nd rfl (by first | exact Or.inl rfl | exact Or.inr rfl)) (.nil) rfl) rfl)))
    (mss_cons (ms_setT (me_callG F__law_shuffled hr (by decide) tk (ma_cons (me_var 0) (ma_cons (me_var 3) (ma_cons (me_var 4) (ma_nil))))) (mg_tup rfl rfl (.cons (pg_name (i := 5) sc__law_copied.nd rfl (by first | exact Or.inl rfl | exact Or.inr rfl)) (.cons (pg_name (i := 6) sc__law_copied.nd rfl (by first | exact Or.inl rfl | exact Or.inr rfl)) (.nil) rfl) rfl)))
    (mss_one (ms_ret (me_tup (ma_cons (me_var 1) (ma_cons (me_var 5) (ma_cons (me_var 6) (ma_nil)))))))))))
theorem ok__law_copied {P : Program} {w : World} {K : PySem.W.Frag} {mg : Str → Option Value} {base : Heap} {cl : Str → Addr} (d : DefAt K mg "_law_copied" (topS 19) ["_law_hand_here"]) (z_len : mg "len" = none) (F__law_tongue : FnG P w K mg base ⟨K, cl⟩ "_law_tongue" 2 1 m__law_tongue) (F__law_take : FnG P w K mg base ⟨K, cl⟩ "_law_take" 1 2 m__law_take) (F__law_split : FnG P w K mg base ⟨K, cl⟩ "_law_split" 2 3 m__law_split) (F__law_goes : FnG P w K mg base ⟨K, cl⟩ "_law_goes" 2 3 m__law_goes) (F__law_kinds : FnG P w K mg base ⟨K, cl⟩ "_law_kinds" 2 2 m__law_kinds) (F__law_shuffled : FnG P w K mg base ⟨K, cl⟩ "_law_shuffled" 2 3 m__law_shuffled) : FnG P w K mg base ⟨K, cl⟩ "_law_copied" 3 1 m__law_copied := d.fn fun f fd F => okf__law_copied F z_len F__law_tongue F__law_take F__law_split F__law_goes F__law_kinds F__law_shuffled
/-! _law_is_table -/
noncomputable def e__law_is_table_1 : ME := mCall 4 (m__law_is_row) (mCons (mVar 3) (mCons (mB bLen (mCons (mVar 1) (mNil))) (mCons (mC (.int 0)) (mCons (mOp dSub (mB bLen (mCons (mVar 2) (mNil))) (mC (.int 1))) (mNil)))))
noncomputable def m__law_is_table : MF := fnM 4 (msCons (msIf (mOr (mNot (mTr (mIs "tuple" (mVar 0)))) (mOr (mTb (mOp (dEq true) (mB bLen (mCons (mVar 0) (mNil))) (mC (.int 3)))) (mOr (mNot (mTr (mIs "str" (mOp dIx (mVar 0) (mC (.int 0)))))) (mTb (mOp (dEq true) (mOp dIx (mVar 0) (mC (.int 0))) (mVar 1)))))) (msRet (mC (.bl false))) (msNil))
    (msCons (msSet 2 (mOp dIx (mVar 0) (mC (.int 1))))
    (msCons (msIf (mOr (mNot (mTr (mIs "tuple" (mVar 2)))) (mOr (mNot (mTb (mChain dLe dLe (mC (.int 1)) (mB bLen (mCons (mVar 2) (mNil))) (mC (.int 32))))) (mNot (mTr (mCall 4 (m__law_is_row) (mCons (mOp dIx (mVar 0) (mC (.int 2))) (mCons (mB bLen (mCons (mVar 2) (mNil))) (mCons (mNeg (mC (.int 1))) (mCons (mC (.int 5)) (mNil)))))))))) (msRet (mC (.bl false))) (msNil))
    (msRet (mB bAll (mCons (mFz (mLc (iSeq (mVar 2)) (gSet 3) mYes e__law_is_table_1 [3])) (mNil)))))))
theorem sc__law_is_table : FnScope ["_law_thing", "_law_tongue_here", "_law_goes_here", "_law_row"] ["_law_thing", "_law_tongue_here"] (defScope (topS 22)) := ⟨rfl, rfl, rfl, by decide +kernel, rfl, by decide +kernel, by decide +kernel⟩
theorem okf__law_is_table {P : Program} {w : World} {K : PySem.W.Frag} {mg : Str → Option Value} {base : Heap} {cl : Str → Addr} {f : Addr} {fd : FuncData} (F : Fun K "_law_is_table" "_law_is_table" (topS 22) f fd) (z_isinstance : mg "isinstance" = none) (z_tuple : mg "tuple" = none) (z_len : mg "len" = none) (z_str : mg "str" = none) (z_all : mg "all" = none) (F__law_is_row : FnG P w K mg base ⟨K, cl⟩ "_law_is_row" 2 4 m__law_is_row) : FnOk P w K mg base (L2.CX P w) 3 f fd ["_law_thing", "_law_tongue_here"] (FSp ⟨K, cl⟩ 2 m__law_is_table) :=
  fnPM F sc__law_is_table rfl fun cdv A outer s H E hr tk hp => mss_cons (ms_if (mt_w (mw_or (mt_not (mt_val rfl (me_is rfl (me_var 0) z_isinstance z_tuple))) (mw_or (mt_cmp (op_neP hr.units) (dNe_ok rfl) (me_callB call_lenA bLen_ok z_len (by decide +kernel) (ma_cons (me_var 0) (ma_nil))) (me_int)) (mw_or (mt_not (mt_val rfl (me_is rfl (me_ix rfl (me_var 0) (me_int)) z_isinstance z_str))) (mw_or1 (mt_cmp (op_neP hr.units) (dNe_ok rfl) (me_ix rfl (me_var 0) (me_int)) (me_var 1))))))) (mss_one (ms_ret (me_bl))) (mss_nil))
    (mss_cons (ms_set 2 sc__law_is_table.nd (me_ix rfl (me_var 0) (me_int)))
    (mss_cons (ms_if (mt_w (mw_or (mt_not (mt_val rfl (me_is rfl (me_var 2) z_isinstance z_tuple))) (mw_or (mt_not (mt_chain op_le opS_C op_le opS_C (me_int) (me_callB call_lenA bLen_ok z_len (by decide +kernel) (ma_cons (me_var 2) (ma_nil))) (me_int))) (mw_or1 (mt_not (mt_val rfl (me_callG F__law_is_row hr (by decide) tk (ma_cons (me_ix rfl (me_var 0) (me_int)) (ma_cons (me_callB call_lenA bLen_ok z_len (by decide +kernel) (ma_cons (me_var 2) (ma_nil))) (ma_cons (me_neg (me_int)) (ma_cons (me_int) (ma_nil)))))))))))) (mss_one (ms_ret (me_bl))) (mss_nil))
    (mss_one (ms_ret (me_callB (cr_all rfl) bAll_ok z_all (by decide +kernel) (ma_cons (me_fz (me_lc (own := [("_law_row", 3)]) rfl sc__law_is_table.nd (mi_seq rfl (me_var 2)) (blkOk_by (N := ["_law_thing", "_law_tongue_here", "_law_goes_here", "_law_row"]) (sc := defScope (topS 22)) (by decide +kernel)) (fun _ _ _ _ _ => mg_name 3 sc__law_is_table.nd) (fun _ _ _ _ _ => mts_nil) (fun _ _ _ _ _ => me_callG F__law_is_row hr (by decide) takes0 (ma_cons (me_var 3) (ma_cons (me_callB call_lenA bLen_ok z_len (by decide +kernel) (ma_cons (me_var 1) (ma_nil))) (ma_cons (me_int) (ma_cons (me_sub (me_callB call_lenA bLen_ok z_len (by decide +kernel) (ma_cons (me_var 2) (ma_nil))) (me_int)) (ma_nil)))))))) (ma_nil)))))))
theorem ok__law_is_table {P : Program} {w : World} {K : PySem.W.Frag} {mg : Str → Option Value} {base : Heap} {cl : Str → Addr} (d : DefAt K mg "_law_is_table" (topS 22) ["_law_thing", "_law_tongue_here"]) (z_isinstance : mg "isinstance" = none) (z_tuple : mg "tuple" = none) (z_len : mg "len" = none) (z_str : mg "str" = none) (z_all : mg "all" = none) (F__law_is_row : FnG P w K mg base ⟨K, cl⟩ "_law_is_row" 2 4 m__law_is_row) : FnG P w K mg base ⟨K, cl⟩ "_law_is_table" 3 2 m__law_is_table := d.fn fun f fd F => okf__law_is_table F z_isinstance z_tuple z_len z_str z_all F__law_is_row
/-! least_of -/
noncomputable def m_least_of : MF := fnM 3 (msCons (msSetT (gSets [1, 2]) (mCall 1 (m_put_in_order) (mCons (mVar 0) (mNil))))
    (msRet (mCall 4 (m_joined) (mCons (mOp dIx (mVar 0) (mC (.int 0))) (mCons (mVar 1) (mCons (mVar 2) (mCons (mCall 3 (m_classes_of) (mCons (mVar 1) (mCons (mVar 2) (mCons (mB bLen (mCons (mVar 1) (mNil))) (mNil))))) (mNil))))))))
theorem sc_least_of : FnScope ["table", "goes", "kinds"] ["table"] (defScope (topS 9)) := ⟨rfl, rfl, rfl, by decide +kernel, rfl, by decide +kernel, by decide +kernel⟩
theorem okf_least_of {P : Program} {w : World} {K : PySem.W.Frag} {mg : Str → Option Value} {base : Heap} {cl : Str → Addr} {f : Addr} {fd : FuncData} (F : Fun K "least_of" "least_of" (topS 9) f fd) (z_len : mg "len" = none) (F_put_in_order : FnG P w K mg base ⟨K, cl⟩ "put_in_order" 2 1 m_put_in_order) (F_joined : FnG P w K mg base ⟨K, cl⟩ "joined" 1 4 m_joined) (F_classes_of : FnG P w K mg base ⟨K, cl⟩ "classes_of" 3 3 m_classes_of) : FnOk P w K mg base (L2.CX P w) 4 f fd ["table"] (FSp ⟨K, cl⟩ 1 m_least_of) :=
  fnPM F sc_least_of rfl fun cdv A outer s H E hr tk hp => mss_cons (ms_setT (me_callG F_put_in_order hr (by decide) tk (ma_cons (me_var 0) (ma_nil))) (mg_tup rfl rfl (.cons (pg_name (i := 1) sc_least_of.nd rfl (by first | exact Or.inl rfl | exact Or.inr rfl)) (.cons (pg_name (i := 2) sc_least_of.nd rfl (by first | exact Or.inl rfl | exact Or.inr rfl)) (.nil) rfl) rfl)))
    (mss_one (ms_ret (me_callG F_joined hr (by decide) tk (ma_cons (me_ix rfl (me_var 0) (me_int)) (ma_cons (me_var 1) (ma_cons (me_var 2) (ma_cons (me_callG F_classes_of hr (by decide) tk (ma_cons (me_var 1) (ma_cons (me_var 2) (ma_cons (me_callB call_lenA bLen_ok z_len (by decide +kernel) (ma_cons (me_var 1) (ma_nil))) (ma_nil))))) (ma_nil))))))))
theorem ok_least_of {P : Program} {w : World} {K : PySem.W.Frag} {mg : Str → Option Value} {base : Heap} {cl : Str → Addr} (d : DefAt K mg "least_of" (topS 9) ["table"]) (z_len : mg "len" = none) (F_put_in_order : FnG P w K mg base ⟨K, cl⟩ "put_in_order" 2 1 m_put_in_order) (F_joined : FnG P w K mg base ⟨K, cl⟩ "joined" 1 4 m_joined) (F_classes_of : FnG P w K mg base ⟨K, cl⟩ "classes_of" 3 3 m_classes_of) : FnG P w K mg base ⟨K, cl⟩ "least_of" 4 1 m_least_of := d.fn fun f fd F => okf_least_of F z_len F_put_in_order F_joined F_classes_of
/-! _law_right -/
noncomputable def m__law_right : MF := fnM 2 (msCons (msSet 1 (mCall 1 (m_least_of) (mCons (mVar 0) (mNil))))
    (msCons (msIf (mOr (mNot (mTr (mCall 2 (m__law_is_table) (mCons (mVar 1) (mCons (mOp dIx (mVar 0) (mC (.int 0))) (mNil)))))) (mNot (mTr (mCall 2 (m__law_same_kinds) (mCons (mVar 0) (mCons (mVar 1) (mNil))))))) (msRet (mC (.bl false))) (msNil))
    (msCons (msIf (mOr (mNot (mTr (mCall 1 (m__law_in_order) (mCons (mOp dIx (mVar 1) (mC (.int 1))) (mNil))))) (mNot (mTr (mCall 2 (m__law_all_unlike) (mCons (mOp dIx (mVar 1) (mC (.int 1))) (mCons (mOp dIx (mVar 1) (mC (.int 2))) (mNil))))))) (msRet (mC (.bl false))) (msNil))
    (msRet (mOp (dEq false) (mCall 1 (m_least_of) (mCons (mVar 1) (mNil))) (mVar 1))))))
theorem sc__law_right : FnScope ["_law_table", "_law_found"] ["_law_table"] (defScope (topS 26)) := ⟨rfl, rfl, rfl, by decide +kernel, rfl, by decide +kernel, by decide +kernel⟩
theorem okf__law_right {P : Program} {w : World} {K : PySem.W.Frag} {mg : Str → Option Value} {base : Heap} {cl : Str → Addr} {f : Addr} {fd : FuncData} (F : Fun K "_law_right" "_law_right" (topS 26) f fd) (F_least_of : FnG P w K mg base ⟨K, cl⟩ "least_of" 4 1 m_least_of) (F__law_is_table : FnG P w K mg base ⟨K, cl⟩ "_law_is_table" 3 2 m__law_is_table) (F__law_same_kinds : FnG P w K mg base ⟨K, cl⟩ "_law_same_kinds" 1 2 m__law_same_kinds) (F__law_in_order : FnG P w K mg base ⟨K, cl⟩ "_law_in_order" 1 1 m__law_in_order) (F__law_all_unlike : FnG P w K mg base ⟨K, cl⟩ "_law_all_unlike" 1 2 m__law_all_unlike) : FnOk P w K mg base (L2.CX P w) 5 f fd ["_law_table"] (FSp ⟨K, cl⟩ 1 m__law_right) :=
  fnPM F sc__law_right rfl fun cdv A outer s H E hr tk hp => mss_cons (ms_set 1 sc__law_right.nd (me_callG F_least_of hr (by decide) tk (ma_cons (me_var 0) (ma_nil))))
    (mss_cons (ms_if (mt_w (mw_or (mt_not (mt_val rfl (me_callG F__law_is_table hr (by decide) tk (ma_cons (me_var 1) (ma_cons (me_ix rfl (me_var 0) (me_int)) (ma_nil)))))) (mw_or1 (mt_not (mt_val rfl (me_callG F__law_same_kinds hr (by decide) tk (ma_cons (me_var 0) (ma_cons (me_var 1) (ma_nil))))))))) (mss_one (ms_ret (me_bl))) (mss_nil))
    (mss_cons (ms_if (mt_w (mw_or (mt_not (mt_val rfl (me_callG F__law_in_order hr (by decide) tk (ma_cons (me_ix rfl (me_var 1) (me_int)) (ma_nil))))) (mw_or1 (mt_not (mt_val rfl (me_callG F__law_all_unlike hr (by decide) tk (ma_cons (me_ix rfl (me_var 1) (me_int)) (ma_cons (me_ix rfl (me_var 1) (me_int)) (ma_nil))))))))) (mss_one (ms_ret (me_bl))) (mss_nil))
    (mss_one (ms_ret (me_cmp (op_eqP hr.units) (dEq_ok rfl) (me_callG F_least_of hr (by decide) tk (ma_cons (me_var 1) (ma_nil))) (me_var 1))))))
theorem ok__law_right {P : Program} {w : World} {K : PySem.W.Frag} {mg : Str → Option Value} {base : Heap} {cl : Str → Addr} (d : DefAt K mg "_law_right" (topS 26) ["_law_table"]) (F_least_of : FnG P w K mg base ⟨K, cl⟩ "least_of" 4 1 m_least_of) (F__law_is_table : FnG P w K mg base ⟨K, cl⟩ "_law_is_table" 3 2 m__law_is_table) (F__law_same_kinds : FnG P w K mg base ⟨K, cl⟩ "_law_same_kinds" 1 2 m__law_same_kinds) (F__law_in_order : FnG P w K mg base ⟨K, cl⟩ "_law_in_order" 1 1 m__law_in_order) (F__law_all_unlike : FnG P w K mg base ⟨K, cl⟩ "_law_all_unlike" 1 2 m__law_all_unlike) : FnG P w K mg base ⟨K, cl⟩ "_law_right" 5 1 m__law_right := d.fn fun f fd F => okf__law_right F F_least_of F__law_is_table F__law_same_kinds F__law_in_order F__law_all_unlike
/-! law -/
noncomputable def m_law : MF := fnM 4 (msCons (msSet 1 (mCall 1 (m__law_hand) (mCons (mVar 0) (mNil))))
    (msCons (msSet 2 (mCall 1 (m__law_copied) (mCons (mVar 1) (mNil))))
    (msCons (msSet 3 (mCall 1 (m__law_copied) (mCons (mVar 1) (mNil))))
    (msRet (mAndV (mCall 1 (m__law_right) (mCons (mVar 2) (mNil))) (mAndV (mCall 1 (m__law_right) (mCons (mVar 3) (mNil))) (mCall 1 (m__law_right) (mCons (mVar 2) (mNil)))))))))
theorem sc_law : FnScope ["_law_script", "_law_hand_here", "_law_one", "_law_other"] ["_law_script"] (defScope (topS 27)) := ⟨rfl, rfl, rfl, by decide +kernel, rfl, by decide +kernel, by decide +kernel⟩
theorem okf_law {P : Program} {w : World} {K : PySem.W.Frag} {mg : Str → Option Value} {base : Heap} {cl : Str → Addr} {f : Addr} {fd : FuncData} (F : Fun K "law" "law" (topS 27) f fd) (F__law_hand : FnG P w K mg base ⟨K, cl⟩ "_law_hand" 1 1 m__law_hand) (F__law_copied : FnG P w K mg base ⟨K, cl⟩ "_law_copied" 3 1 m__law_copied) (F__law_right : FnG P w K mg base ⟨K, cl⟩ "_law_right" 5 1 m__law_right) : FnOk P w K mg base (L2.CX P w) 6 f fd ["_law_script"] (FSp ⟨K, cl⟩ 1 m_law) :=
  fnPM F sc_law rfl fun cdv A outer s H E hr tk hp => mss_cons (ms_set 1 sc_law.nd (me_callG F__law_hand hr (by decide) tk (ma_cons (me_var 0) (ma_nil))))
    (mss_cons (ms_set 2 sc_law.nd (me_callG F__law_copied hr (by decide) tk (ma_cons (me_var 1) (ma_nil))))
    (mss_cons (ms_set 3 sc_law.nd (me_callG F__law_copied hr (by decide) tk (ma_cons (me_var 1) (ma_nil))))
    (mss_one (ms_ret (me_and (me_callG F__law_right hr (by decide) tk (ma_cons (me_var 2) (ma_nil))) (me_and (me_callG F__law_right hr (by decide) tk (ma_cons (me_var 3) (ma_nil))) (me_one (me_callG F__law_right hr (by decide) tk (ma_cons (me_var 2) (ma_nil))))))))))
/-! the end -/
theorem all_ok {P : Program} {w : World} {K : PySem.W.Frag} {mg : Str → Option Value} {base : Heap} (cl : Str → Addr) (z_abs : mg "abs" = none) (z_all : mg "all" = none) (z_bool : mg "bool" = none) (z_enumerate : mg "enumerate" = none) (z_int : mg "int" = none) (z_isinstance : mg "isinstance" = none) (z_len : mg "len" = none) (z_list : mg "list" = none) (z_max : mg "max" = none) (z_range : mg "range" = none) (z_str : mg "str" = none) (z_tuple : mg "tuple" = none) (z_zip : mg "zip" = none) (d_numbered : DefAt K mg "numbered" (topS 1) ["keys"]) (d_joined : DefAt K mg "joined" (topS 4) ["tongue", "goes", "kinds", "marks"]) (d_in_order : DefAt K mg "in_order" (topS 6) ["goes"]) (d__law_hand : DefAt K mg "_law_hand" (topS 11) ["_law_script"]) (d__law_take : DefAt K mg "_law_take" (topS 12) ["_law_hand_here", "_law_many"]) (d__law_signs : DefAt K mg "_law_signs" (topS 13) []) (d__law_number : DefAt K mg "_law_number" (topS 20) ["_law_thing", "_law_low", "_law_high"]) (d__law_in_order : DefAt K mg "_law_in_order" (topS 23) ["_law_goes_here"]) (d__law_same_kinds : DefAt K mg "_law_same_kinds" (topS 24) ["_law_table", "_law_other"]) (d__law_all_unlike : DefAt K mg "_law_all_unlike" (topS 25) ["_law_goes_here", "_law_kinds_here"]) (d_finer : DefAt K mg "finer" (topS 2) ["goes", "marks"]) (d_put_in_order : DefAt K mg "put_in_order" (topS 8) ["table"]) (d__law_tongue : DefAt K mg "_law_tongue" (topS 14) ["_law_hand_here"]) (d__law_goes : DefAt K mg "_law_goes" (topS 15) ["_law_hand_here", "_law_size", "_law_rooms"]) (d__law_kinds : DefAt K mg "_law_kinds" (topS 16) ["_law_hand_here", "_law_rooms"]) (d__law_shuffled : DefAt K mg "_law_shuffled" (topS 17) ["_law_hand_here", "_law_goes_here", "_law_kinds_here"]) (d__law_split : DefAt K mg "_law_split" (topS 18) ["_law_hand_here", "_law_goes_here", "_law_kinds_here"]) (d__law_is_row : DefAt K mg "_law_is_row" (topS 21) ["_law_thing", "_law_size", "_law_low", "_law_high"]) (d_classes_of : DefAt K mg "classes_of" (topS 3) ["goes", "kinds", "most"]) (d__law_copied : DefAt K mg "_law_copied" (topS 19) ["_law_hand_here"]) (d__law_is_table : DefAt K mg "_law_is_table" (topS 22) ["_law_thing", "_law_tongue_here"]) (d_least_of : DefAt K mg "least_of" (topS 9) ["table"]) (d__law_right : DefAt K mg "_law_right" (topS 26) ["_law_table"]) {f : Addr} {fd : FuncData} (F : Fun K "law" "law" (topS 27) f fd) : FnOk P w K mg base (L2.CX P w) 6 f fd ["_law_script"] (FSp ⟨K, cl⟩ 1 m_law) := by
  have F_numbered : FnG P w K mg base ⟨K, cl⟩ "numbered" 1 1 m_numbered := ok_numbered d_numbered z_len
  have F_joined : FnG P w K mg base ⟨K, cl⟩ "joined" 1 4 m_joined := ok_joined d_joined z_enumerate z_len z_tuple
  have F_in_order : FnG P w K mg base ⟨K, cl⟩ "in_order" 1 1 m_in_order := ok_in_order d_in_order z_len
  have F__law_hand : FnG P w K mg base ⟨K, cl⟩ "_law_hand" 1 1 m__law_hand := ok__law_hand d__law_hand z_list
  have F__law_take : FnG P w K mg base ⟨K, cl⟩ "_law_take" 1 2 m__law_take := ok__law_take d__law_take z_len z_abs
  have F__law_signs : FnG P w K mg base ⟨K, cl⟩ "_law_signs" 1 0 m__law_signs := ok__law_signs d__law_signs
  have F__law_number : FnG P w K mg base ⟨K, cl⟩ "_law_number" 1 3 m__law_number := ok__law_number d__law_number z_isinstance z_int z_bool
  have F__law_in_order : FnG P w K mg base ⟨K, cl⟩ "_law_in_order" 1 1 m__law_in_order := ok__law_in_order d__law_in_order z_len z_list z_range
  have F__law_same_kinds : FnG P w K mg base ⟨K, cl⟩ "_law_same_kinds" 1 2 m__law_same_kinds := ok__law_same_kinds d__law_same_kinds z_len z_zip
  have F__law_all_unlike : FnG P w K mg base ⟨K, cl⟩ "_law_all_unlike" 1 2 m__law_all_unlike := ok__law_all_unlike d__law_all_unlike z_list z_len z_range z_enumerate z_tuple
  have F_finer : FnG P w K mg base ⟨K, cl⟩ "finer" 2 2 m_finer := ok_finer d_finer z_enumerate z_tuple F_numbered
  have F_put_in_order : FnG P w K mg base ⟨K, cl⟩ "put_in_order" 2 1 m_put_in_order := ok_put_in_order d_put_in_order z_enumerate F_in_order
  have F__law_tongue : FnG P w K mg base ⟨K, cl⟩ "_law_tongue" 2 1 m__law_tongue := ok__law_tongue d__law_tongue z_range z_len F__law_signs F__law_take
  have F__law_goes : FnG P w K mg base ⟨K, cl⟩ "_law_goes" 2 3 m__law_goes := ok__law_goes d__law_goes z_range z_len F__law_take
  have F__law_kinds : FnG P w K mg base ⟨K, cl⟩ "_law_kinds" 2 2 m__law_kinds := ok__law_kinds d__law_kinds z_range F__law_take
  have F__law_shuffled : FnG P w K mg base ⟨K, cl⟩ "_law_shuffled" 2 3 m__law_shuffled := ok__law_shuffled d__law_shuffled z_len z_list z_range z_enumerate z_tuple F__law_take
  have F__law_split : FnG P w K mg base ⟨K, cl⟩ "_law_split" 2 3 m__law_split := ok__law_split d__law_split z_len z_enumerate F__law_take
  have F__law_is_row : FnG P w K mg base ⟨K, cl⟩ "_law_is_row" 2 4 m__law_is_row := ok__law_is_row d__law_is_row z_isinstance z_tuple z_len z_all F__law_number
  have F_classes_of : FnG P w K mg base ⟨K, cl⟩ "classes_of" 3 3 m_classes_of := ok_classes_of d_classes_of z_max F_numbered F_finer
  have F__law_copied : FnG P w K mg base ⟨K, cl⟩ "_law_copied" 3 1 m__law_copied := ok__law_copied d__law_copied z_len F__law_tongue F__law_take F__law_split F__law_goes F__law_kinds F__law_shuffled
  have F__law_is_table : FnG P w K mg base ⟨K, cl⟩ "_law_is_table" 3 2 m__law_is_table := ok__law_is_table d__law_is_table z_isinstance z_tuple z_len z_str z_all F__law_is_row
  have F_least_of : FnG P w K mg base ⟨K, cl⟩ "least_of" 4 1 m_least_of := ok_least_of d_least_of z_len F_put_in_order F_joined F_classes_of
  have F__law_right : FnG P w K mg base ⟨K, cl⟩ "_law_right" 5 1 m__law_right := ok__law_right d__law_right F_least_of F__law_is_table F__law_same_kinds F__law_in_order F__law_all_unlike
  exact okf_law F F__law_hand F__law_copied F__law_right
end NR

set_option Elab.async false
set_option linter.all false
set_option maxRecDepth 100000
set_option maxHeartbeats 4000000
namespace NR
open PySem PySem.Spec PyProof.Rows L2
/-! steps of a body, one by one -/
section
variable {s1 s2 : MS} {env env2 : EV} {h h2 h' : IH} {r : R D} {d : D} {it : MI} {gg : MG} {b : MS} {ds : List D} {q : RS}
theorem stN (e : s1 env h = .nx env2 h2) (k : (s2 env2 h2).fin = r) : (msCons s1 s2 env h).fin = r := by rw [ap_msCons, e, then_nx]; exact k
theorem stS (e : s1 env h = .nx env2 h2) (k : s2 env2 h2 = q) : msCons s1 s2 env h = q := by rw [ap_msCons, e, then_nx]; exact k
theorem stX (e : s1 env h = .nx env2 h2) (k : ∃ h', (s2 env2 h2).fin = .ok d h') : ∃ h', (msCons s1 s2 env h).fin = .ok d h' := by rw [ap_msCons, e, then_nx]; exact k
theorem stR (e : s1 env h = .rt d h') : (msCons s1 s2 env h).fin = .ok d h' := by rw [ap_msCons, e, then_rt]; rfl
theorem stRS (e : s1 env h = .rt d h') : msCons s1 s2 env h = .rt d h' := by rw [ap_msCons, e, then_rt]
theorem for_st (e : it env h = .ok (.st ds) h2) : msFor it gg b env h = forL gg b ds env h2 := by rw [ap_msFor, e, bindS_ok, forM_forL]
end
theorem fzD_penG {xs : List D} {z c c' : Cell} {g r : IH} (lo : ∀ k, D.loL k xs = true) (lc : ∀ k, Cell.lo k c' = true) : fzD (z :: c :: g) (z :: c' :: (g ++ r)) xs = .ok (.fl xs) (z :: c' :: g) := by
  unfold fzD newL
  rw [fzR_at (n := (z :: c' :: (g ++ r)).length) (xs := xs) (by simp) (by simp) (lo _) (by simp [lc])]
  simp
/-- drawing steps that leave cells behind the comprehension's list -/
theorem lcF_penG {env : EV} {m : ME} {it : MI} {gg : MG} {ws : List Nat} {ds : List D} {z cc c0 : Cell} {g : IH} {Pn : Nat → Cell → Prop} {b K : Nat} (lop : ∀ b c k, Pn b c → Cell.lo k c = true) (Po : Nat → D → Prop) (hi : it env (z :: cc :: g) = .ok (.st ds) (z :: c0 :: g)) (hl : ds.length ≤ 9000000)
    (hp : Pn (b + K * ds.length) c0) (lo : ∀ i y k, Po i y → D.lo k y = true)
    (step : ∀ i d, ds[i]? = some d → ∃ e1, gg d (wipeE env ws) = some e1 ∧ ∀ b c g, Pn (b + K) c → ∃ y c' r, m e1 (z :: c :: g) = .ok y (z :: c' :: (g ++ r)) ∧ Pn b c' ∧ Po i y) :
    ∃ ys c', mFz (mLc it gg mYes m ws) env (z :: cc :: g) = .ok (.fl ys) (z :: c' :: g) ∧ ys.length = ds.length ∧ (∀ i y, ys[i]? = some y → Po i y) ∧ Pn b c' := by
  have main : ∃ ys c' r, lcM (.st ds) gg mYes m (z :: c0 :: g).length ((Src.st ds).many (z :: c0 :: g) + 1) 0 (wipeE env ws) ((z :: c0 :: g) ++ [Cell.lst []]) = .ok (.ref (z :: c0 :: g).length) (z :: c' :: (g ++ Cell.lst ys :: r)) ∧ ys.length = ds.length ∧ (∀ i y, ys[i]? = some y → Po i y) ∧ Pn b c' := by
    refine lcM_inv (P := fun i h' => ∃ ys c' r, h' = z :: c' :: (g ++ Cell.lst ys :: r) ∧ ys.length = i ∧ (∀ j y, ys[j]? = some y → Po j y) ∧ Pn (b + K * (ds.length - i)) c') (Rs := fun o => ∃ ys c' r, o = .ok (.ref (z :: c0 :: g).length) (z :: c' :: (g ++ Cell.lst ys :: r)) ∧ ys.length = ds.length ∧ (∀ i y, ys[i]? = some y → Po i y) ∧ Pn b c') ?_ ?_ ?_
    · rintro i d h' hd ⟨ys, c', r, rfl, l1, p1, n1⟩
      have hi' := (List.getElem?_eq_some_iff.mp hd).1
      obtain ⟨e1, g1, st⟩ := step i d hd
      have e0 : ds.length - i = (ds.length - (i + 1)) + 1 := by omega
      rw [e0, Nat.mul_succ, ← Nat.add_assoc] at n1
      obtain ⟨y, c2, r2, e2, n2, p2⟩ := st _ c' (g ++ Cell.lst ys :: r) n1
      refine ⟨e1, g1, ?_⟩
      show ∃ y h3 acc, m e1 _ = .ok y h3 ∧ _
      refine ⟨y, _, ys, e2, by simp, by omega, ys ++ [y], c2, r ++ r2, by simp, by simp [l1], fun j z hz => ?_, n2⟩
      by_cases hj : j < ys.length
      · rw [List.getElem?_append_left hj] at hz
        exact p1 j z hz
      · have hj2 : j = ys.length := by
          have := (List.getElem?_eq_some_iff.mp hz).1
          simp at this
          omega
        subst hj2
        rw [List.getElem?_append_right (Nat.le_refl _), Nat.sub_self] at hz
        simp at hz
        subst hz
        rw [l1]
        exact p2
    · rintro h' ⟨ys, c', r, rfl, l1, p1, n1⟩
      rw [Nat.sub_self, Nat.mul_zero, Nat.add_zero] at n1
      exact ⟨ys, c', r, rfl, l1, p1, n1⟩
    · exact ⟨[], c0, [], by simp, rfl, by simp, by simpa using hp⟩
  obtain ⟨ys, c', r, e, l1, p1, n1⟩ := main
  refine ⟨ys, c', ?_, l1, p1, n1⟩
  rw [ap_mFz0, ap_mLc, hi]
  show fzR _ (lcM _ _ _ _ _ _ _ _ _) = _
  rw [e, fzR_at (xs := ys) (by simp) (by simp) (loL_of fun x hx => by
    obtain ⟨j, hj⟩ := List.mem_iff_getElem?.mp hx
    exact lo j x _ (p1 j x hj)) (by simp [lop b c' _ n1])]
  simp
theorem bMax1T_tup {h : IH} {ns : List Int} (l : 0 < ns.length) : bMax1T [.tup (ns.map D.int)] h = .ok (.int (imax ns)) h := by
  show (match (some (ns.map D.int)).bind (allM D.int?) with | some ns => if 0 < ns.length then R.ok (D.int (imax ns)) h else .no | none => .no) = _
  simp [l]
theorem bMax1T_fl {h : IH} {ns : List Int} (l : 0 < ns.length) : bMax1T [.fl (ns.map D.int)] h = .ok (.int (imax ns)) h := by
  show (match (some (ns.map D.int)).bind (allM D.int?) with | some ns => if 0 < ns.length then R.ok (D.int (imax ns)) h else .no | none => .no) = _
  simp [l]
theorem bMin1T_fl {h : IH} {ns : List Int} (l : 0 < ns.length) : bMin1T [.fl (ns.map D.int)] h = .ok (.int (imin ns)) h := by
  show (match (some (ns.map D.int)).bind (allM D.int?) with | some ns => if 0 < ns.length then R.ok (D.int (imin ns)) h else .no | none => .no) = _
  simp [l]
@[simp] theorem ap_mIsT {Ts : List String} {m : ME} {env : EV} {h : IH} : mIsT Ts m env h = (m env h).bind fun x h1 => match isTs h1 x Ts with | some b => .ok (.bl b) h1 | none => .no := rfl
@[simp] theorem ap_mChain3 {f g f3 : D → D → IH → R D} {a b c d : ME} {env : EV} {h : IH} : mChain3 f g f3 a b c d env h = (a env h).bind fun x h1 => (b env h1).bind fun y h2 => (f x y h2).bind fun z h3 => match z with
  | .bl true => (c env h3).bind fun w h4 => (g y w h4).bind fun u h5 => match u with
    | .bl true => (d env h5).bind fun t h6 => f3 w t h6
    | .bl false => .ok (.bl false) h5
    | _ => .no
  | .bl false => .ok (.bl false) h3
  | _ => .no := rfl
@[simp] theorem ap_iRevR1 {ta : MA} {env : EV} {h : IH} : iRevR1 ta env h = (ta env h).bind fun xs h1 => match xs with
  | [.int j] => if -10000000 ≤ j ∧ j ≤ 10000000 then .ok (.st (intsDown (j - 1) j.toNat)) h1 else .no
  | _ => .no := rfl
/-! what is locked within -/
/-- nothing within is to be locked -/
def Fz (m : Nat) (d : D) : Prop := ∀ (b k : Nat) (h : IH), m ≤ k → dzD b k h d = some (d, h)
theorem Fz.mono {m n : Nat} {d : D} (f : Fz m d) (l : m ≤ n) : Fz n d := fun b k h q => f b k h (by omega)
theorem fz1 {m : Nat} {d : D} (l : 1 ≤ m) (e : ∀ b k h, dzD b (k + 1) h d = some (d, h)) : Fz m d := fun b k h q => by
  cases k with
  | zero => omega
  | succ k => exact e b k h
theorem Fz_int {i : Int} : Fz 1 (.int i) := fz1 (by omega) fun _ _ _ => by simp [dzD]
theorem Fz_nD {i : Nat} : Fz 1 (nD i) := Fz_int
theorem Fz_str {i : List Nat} : Fz 1 (.str i) := fz1 (by omega) fun _ _ _ => by simp [dzD]
theorem Fz_bl {i : Bool} : Fz 1 (.bl i) := fz1 (by omega) fun _ _ _ => by simp [dzD]
theorem Fz_non : Fz 1 .non := fz1 (by omega) fun _ _ _ => by simp [dzD]
theorem Fz_fl {l : List D} : Fz 1 (.fl l) := fz1 (by omega) fun _ _ _ => by simp [dzD]
theorem dzL_fz {m : Nat} {b : Nat} : ∀ {l : List D} {k : Nat} {h : IH}, (∀ d ∈ l, Fz m d) → m + l.length + 1 ≤ k → dzL b k h l = some (l, h)
  | [], 0, h, _, q => by omega
  | [], k + 1, h, _, q => by unfold dzL; rfl
  | d :: l, 0, h, f, q => by omega
  | d :: l, k + 1, h, f, q => by
    unfold dzL
    rw [List.length_cons] at q
    rw [f d List.mem_cons_self b k h (by omega)]
    dsimp only
    rw [dzL_fz (fun x hx => f x (List.mem_cons_of_mem _ hx)) (by omega)]
theorem Fz_tup {m : Nat} {l : List D} (f : ∀ d ∈ l, Fz m d) : Fz (m + l.length + 2) (.tup l) := fun b k h q => by
  cases k with
  | zero => omega
  | succ k =>
    unfold dzD
    rw [dzL_fz f (by omega)]
/-- a new list -/
theorem dzD_new {m b k n : Nat} {h : IH} {xs : List D} (bn : b ≤ n) (e : h[n]? = some (.lst xs)) (f : ∀ d ∈ xs, Fz m d) (q : m + xs.length + 2 ≤ k) : dzD b k h (.ref n) = some (.fl xs, h.set n (.frz xs)) := by
  cases k with
  | zero => omega
  | succ k =>
    unfold dzD
    rw [if_pos bn, e]
    dsimp only
    rw [dzL_fz f (by omega)]
theorem dzR_of {h h' h2 : IH} {d d' : D} (e : dzD h.length 1000 h' d = some (d', h2)) (lo : D.lo h.length d' = true) (ok : okB h.length h h2) : dzR h (.ok d h') = .ok d' (h2.take h.length) := by
  unfold dzR
  dsimp only
  rw [e]
  dsimp only
  rw [if_pos ⟨lo, ok⟩]
/-- a tuple whose first item is a new list -/
theorem dz_tup1 {m : Nat} {h : IH} {xs l : List D} (f : ∀ d ∈ xs, Fz m d) (g : ∀ d ∈ l, Fz m d) (q : m + xs.length + l.length ≤ 900) (lo1 : D.loL h.length xs = true) (lo2 : D.loL h.length l = true) :
    dzR h (.ok (.tup (.ref h.length :: l)) (h ++ [.lst xs])) = .ok (.tup (.fl xs :: l)) h := by
  rw [dzR_of (d' := .tup (.fl xs :: l)) (h2 := h ++ [.frz xs]) ?_ (by simp [lo1, lo2]) okB_self]
  · simp
  · unfold dzD
    have e : dzL h.length 999 (h ++ [.lst xs]) (.ref h.length :: l) = some (.fl xs :: l, h ++ [.frz xs]) := by
      unfold dzL
      rw [dzD_new (k := 998) (Nat.le_refl _) get_app0 f (by omega), set_app0]
      dsimp only
      rw [dzL_fz (k := 998) g (by omega)]
      rfl
    rw [e]
theorem ap_mDz {m : ME} {env : EV} {h : IH} : mDz m env h = dzR h (m env h) := rfl
theorem dz_bind {A : Type} {h : IH} {r : R A} {k : A → IH → R D} : dzR h (r.bind k) = r.bind fun a h1 => dzR h (k a h1) := by cases r <;> rfl
@[simp] theorem ap_mDz_call {n : Nat} {fm : MF} {ta : MA} {env : EV} {h : IH} : mDz (mCall n fm ta) env h = (ta env h).bind fun ds h1 => dzR h (callC n fm ds h1) := by rw [ap_mDz, ap_mCall, dz_bind]
@[simp] theorem dz_ex {h h' : IH} {c : Str} {d : XF} : dzR h (.ex c d h') = .ex c d h' := rfl
@[simp] theorem dIs_tup_non {neg : Bool} {l : List D} {h : IH} : dIsN neg (.tup l) .non h = .ok (.bl neg) h := rfl
@[simp] theorem dIs_fl_non {neg : Bool} {l : List D} {h : IH} : dIsN neg (.fl l) .non h = .ok (.bl neg) h := rfl
@[simp] theorem dIs_str_non {neg : Bool} {l : List Nat} {h : IH} : dIsN neg (.str l) .non h = .ok (.bl neg) h := rfl
@[simp] theorem dIs_int_non {neg : Bool} {l : Int} {h : IH} : dIsN neg (.int l) .non h = .ok (.bl neg) h := rfl
@[simp] theorem dIs_bl_non {neg : Bool} {l : Bool} {h : IH} : dIsN neg (.bl l) .non h = .ok (.bl neg) h := rfl
@[simp] theorem dIs_ref_non {neg : Bool} {l : Nat} {h : IH} : dIsN neg (.ref l) .non h = .ok (.bl neg) h := rfl
theorem dIx_last {h : IH} {o : D} {xs : List D} {d : D} (hs : seqOf h o = some xs) (e : xs[xs.length - 1]? = some d) : dIx o (.int (-1)) h = .ok d h := by
  have hi := (List.getElem?_eq_some_iff.mp e).1
  show getD' _ _ _ = _
  unfold getD'
  cases o with
  | str s => simp [seqOf] at hs
  | _ =>
    dsimp only
    rw [hs]
    have : ixN xs.length (-1) = some (xs.length - 1) := by
      unfold ixN
      rw [if_neg (by omega), if_pos (by omega)]
      congr 1
      omega
    dsimp only [Option.bind]
    rw [this]
    dsimp only [Option.bind]
    rw [e]
/-! sources that are read of the heap -/
theorem forM_src {src : Src} {ds : List D} {g : MG} {b : MS} (P : IH → Prop) (hs : ∀ h, P h → src.ok h = true ∧ ∀ i, src.get h i = ds[i]?) (keep : ∀ e1 h, P h → ∀ e2 h2, (b e1 h = .nx e2 h2 ∨ b e1 h = .ct e2 h2) → P h2) :
    ∀ (m i : Nat) (env : EV) (h : IH), P h → ds.length < m + i → i ≤ ds.length → forM src g b m i env h = forL g b (ds.drop i) env h
  | 0, i, env, h, _, l, l2 => by omega
  | m + 1, i, env, h, hp, l, l2 => by
    obtain ⟨o, ge⟩ := hs h hp
    unfold forM
    rw [if_pos o, ge i]
    cases hd : ds[i]? with
    | none =>
      have := List.getElem?_eq_none_iff.mp hd
      rw [List.drop_eq_nil_of_le this]
      rfl
    | some d =>
      have hi := (List.getElem?_eq_some_iff.mp hd).1
      have ed : ds[i] = d := (List.getElem?_eq_some_iff.mp hd).2
      rw [List.drop_eq_getElem_cons hi, ed]
      dsimp only
      cases hg : g d env with
      | none => unfold forL; rw [hg]
      | some e1 =>
        dsimp only
        rw [forL_cons hg]
        have kp := keep e1 h hp
        cases hb : b e1 h with
        | nx e2 h2 => exact forM_src P hs keep m (i + 1) e2 h2 (kp e2 h2 (.inl hb)) (by omega) hi
        | ct e2 h2 => exact forM_src P hs keep m (i + 1) e2 h2 (kp e2 h2 (.inr hb)) (by omega) hi
        | bk e2 h2 => rfl
        | rt d2 h2 => rfl
        | ex c d2 e2 h2 => rfl
        | no => rfl
/-- a for whose turns leave the heap as it is -/
theorem for_src {it : MI} {gg : MG} {b : MS} {env : EV} {h h2 : IH} {src : Src} {ds : List D} (e : it env h = .ok src h2) (o : src.ok h2 = true) (ge : ∀ i, src.get h2 i = ds[i]?) (mn : src.many h2 = ds.length) (keep : ∀ e1 e2 h3, (b e1 h2 = .nx e2 h3 ∨ b e1 h2 = .ct e2 h3) → h3 = h2) : msFor it gg b env h = forL gg b ds env h2 := by
  rw [ap_msFor, e, bindS_ok, mn, forM_src (fun h => h = h2) (fun h x => by subst x; exact ⟨o, ge⟩) (fun e1 h x e2 h3 hb => by subst x; exact keep e1 e2 h3 hb) _ 0 env h2 rfl (by omega) (by omega), List.drop_zero]
/-- a zip of lists as they stand -/
theorem iZip_q {ta : MA} {env : EV} {h h2 : IH} {a b : D} {l l' : List D} (e : ta env h = .ok [a, b] h2) (ea : qOf h2 a = some l) (eb : qOf h2 b = some l') : ∃ src, iZip ta env h = .ok src h2 ∧ src.ok h2 = true ∧ (∀ i, src.get h2 i = (List.zipWith (fun x y : D => D.tup [x, y]) l l')[i]?) ∧ src.many h2 = (List.zipWith (fun x y : D => D.tup [x, y]) l l').length := by
  have ez : zipQ a b (min l.length l'.length) h2 = some (List.zipWith (fun x y : D => D.tup [x, y]) l l') := by
    unfold zipQ
    rw [ea, eb]
    dsimp only
    rw [if_pos rfl]
  unfold iZip
  rw [e, bind_ok]
  dsimp only
  have dy : ∃ src, (R.ok (Src.dy (zipQ a b (min l.length l'.length))) h2 : R Src) = .ok src h2 ∧ src.ok h2 = true ∧ (∀ i, src.get h2 i = (List.zipWith (fun x y : D => D.tup [x, y]) l l')[i]?) ∧ src.many h2 = (List.zipWith (fun x y : D => D.tup [x, y]) l l').length :=
    ⟨_, rfl, by show (zipQ a b (min l.length l'.length) h2).isSome = true; rw [ez]; rfl, fun i => by show (zipQ a b (min l.length l'.length) h2).bind _ = _; rw [ez]; rfl, by show ((zipQ a b (min l.length l'.length) h2).getD []).length = _; rw [ez]; rfl⟩
  cases sa : stOf a with
  | none => dsimp only; rw [ea, eb]; exact dy
  | some m =>
    cases sb : stOf b with
    | none => dsimp only; rw [ea, eb]; exact dy
    | some m' =>
      have e1 : m = l := by
        cases a <;> simp [stOf] at sa <;> simp [qOf, stOf] at ea <;> rw [← sa, ← ea]
      have e2 : m' = l' := by
        cases b <;> simp [stOf] at sb <;> simp [qOf, stOf] at eb <;> rw [← sb, ← eb]
      subst e1 e2
      exact ⟨_, rfl, rfl, fun i => rfl, rfl⟩
theorem qOf_ref {h : IH} {n : Nat} {xs : List D} (e : h[n]? = some (.lst xs)) : qOf h (.ref n) = some xs := lstOf_ref e
@[simp] theorem qOf_fl {h : IH} {xs : List D} : qOf h (.fl xs) = some xs := rfl
@[simp] theorem qOf_tup {h : IH} {xs : List D} : qOf h (.tup xs) = some xs := rfl
end NR

set_option Elab.async false
set_option linter.all false
set_option maxRecDepth 100000
set_option maxHeartbeats 4000000
namespace NR
open PySem PySem.Spec PyProof.Rows L2
/-! ### a hand's cell -/
def HC (cs : List Int) (a g s c : Int) : Cell := .lst [.fl (cs.map D.int), .int a, .int g, .int s, .int c]
/-- b draws can still be made -/
def Pn (b : Nat) (x : Cell) : Prop := ∃ (cs : List Int) (a g s c : Int), x = HC cs a g s c ∧ cs.length ≤ 63 ∧ 0 ≤ a ∧ 0 ≤ g ∧ 0 ≤ s ∧ s < 2147483647 ∧ 0 ≤ c ∧ c + b ≤ 1000000000000
theorem Pn.mono {b b' : Nat} {c : Cell} (h : Pn b c) (l : b' ≤ b) : Pn b' c := by
  obtain ⟨cs, a, g, s, c, h1, h2, h3, h4, h5, h6, h7, h8⟩ := h
  exact ⟨cs, a, g, s, c, h1, h2, h3, h4, h5, h6, h7, by omega⟩
theorem Pn.lo {b : Nat} {c : Cell} (h : Pn b c) (k : Nat) : Cell.lo k c = true := by
  obtain ⟨cs, a, g, s, c, rfl, _⟩ := h
  simp [HC]
theorem Pn_lo : ∀ (b : Nat) (c : Cell) (k : Nat), Pn b c → Cell.lo k c = true := fun _ _ k h => h.lo k
section
variable {z : Cell} {t : IH} {ns : List Int} {a g s c v : Int}
theorem hc0 : dIx (.ref 1) (.int 0) (z :: HC ns a g s c :: t) = .ok (.fl (ns.map D.int)) (z :: HC ns a g s c :: t) := dIx_ref (n := 1) (xs := [.fl (ns.map D.int), .int a, .int g, .int s, .int c]) rfl (by omega) rfl
theorem hc1 : dIx (.ref 1) (.int 1) (z :: HC ns a g s c :: t) = .ok (.int a) (z :: HC ns a g s c :: t) := dIx_ref (n := 1) (xs := [.fl (ns.map D.int), .int a, .int g, .int s, .int c]) rfl (by omega) rfl
theorem hc2 : dIx (.ref 1) (.int 2) (z :: HC ns a g s c :: t) = .ok (.int g) (z :: HC ns a g s c :: t) := dIx_ref (n := 1) (xs := [.fl (ns.map D.int), .int a, .int g, .int s, .int c]) rfl (by omega) rfl
theorem hc3 : dIx (.ref 1) (.int 3) (z :: HC ns a g s c :: t) = .ok (.int s) (z :: HC ns a g s c :: t) := dIx_ref (n := 1) (xs := [.fl (ns.map D.int), .int a, .int g, .int s, .int c]) rfl (by omega) rfl
theorem hc4 : dIx (.ref 1) (.int 4) (z :: HC ns a g s c :: t) = .ok (.int c) (z :: HC ns a g s c :: t) := dIx_ref (n := 1) (xs := [.fl (ns.map D.int), .int a, .int g, .int s, .int c]) rfl (by omega) rfl
theorem hg1 : getL (.ref 1) (.int 1) (z :: HC ns a g s c :: t) = some (.int a) := getL_ref (n := 1) (xs := [.fl (ns.map D.int), .int a, .int g, .int s, .int c]) rfl (by omega) rfl
theorem hg4 : getL (.ref 1) (.int 4) (z :: HC ns a g s c :: t) = some (.int c) := getL_ref (n := 1) (xs := [.fl (ns.map D.int), .int a, .int g, .int s, .int c]) rfl (by omega) rfl
theorem hp1 : putD (.ref 1) (.int 1) (.int v) (z :: HC ns a g s c :: t) = some (z :: HC ns v g s c :: t) := putD_ref (n := 1) (xs := [.fl (ns.map D.int), .int a, .int g, .int s, .int c]) rfl (by omega) (by simp)
theorem hp2 : putD (.ref 1) (.int 2) (.int v) (z :: HC ns a g s c :: t) = some (z :: HC ns a v s c :: t) := putD_ref (n := 1) (xs := [.fl (ns.map D.int), .int a, .int g, .int s, .int c]) rfl (by omega) (by simp)
theorem hp3 : putD (.ref 1) (.int 3) (.int v) (z :: HC ns a g s c :: t) = some (z :: HC ns a g v c :: t) := putD_ref (n := 1) (xs := [.fl (ns.map D.int), .int a, .int g, .int s, .int c]) rfl (by omega) (by simp)
theorem hp4 : putD (.ref 1) (.int 4) (.int v) (z :: HC ns a g s c :: t) = some (z :: HC ns a g s v :: t) := putD_ref (n := 1) (xs := [.fl (ns.map D.int), .int a, .int g, .int s, .int c]) rfl (by omega) (by simp)
end
theorem draw_call {b : Nat} {z x : Cell} {t : IH} {m : Int} (h : Pn (b + 1) x) (h1 : 1 ≤ m) (h2 : m ≤ 10000000) :
    ∃ (u : Nat) (x' : Cell), callC 2 m__law_take [.ref 1, .int m] (z :: x :: t) = .ok (.int (u : Nat)) (z :: x' :: t) ∧ (u : Int) < m ∧ Pn b x' := by
  obtain ⟨ns, a, g, s, c, rfl, nl, a0, g0, s0, s1, c0, c1⟩ := h
  suffices key : ∃ (u a' g' s' c' : Int), m__law_take [.ref 1, .int m] (z :: HC ns a g s c :: t) = .ok (.int u) (z :: HC ns a' g' s' c' :: t) ∧ 0 ≤ u ∧ u < m ∧ 0 ≤ a' ∧ 0 ≤ g' ∧ 0 ≤ s' ∧ s' < 2147483647 ∧ 0 ≤ c' ∧ c' ≤ c + 1 by
    obtain ⟨u, a', g', s', c', e, u0, u1, q1, q2, q3, q4, q5, q6⟩ := key
    exact ⟨u.toNat, _, callC_len rfl (by rw [e, Int.toNat_of_nonneg u0]) (by simp), by omega, ns, a', g', s', c', rfl, nl, q1, q2, q3, q4, q5, by omega⟩
  unfold m__law_take
  by_cases hm : m < 2
  · exact ⟨0, a, g, s, c, by simp [hm], by omega, by omega, a0, g0, s0, s1, c0, by omega⟩
  · have part : ∃ (v2 : Option D) (a' g1 s' : Int), msIf (mAnd (mTb (mOp (dEq false) (mOp dIx (mVar 0) (mC (.int 2))) (mC (.int 0)))) (mTb (mOp dLt (mOp dIx (mVar 0) (mC (.int 1))) (mB bLen (mCons (mOp dIx (mVar 0) (mC (.int 0))) (mNil)))))) (msCons (msSet 2 (mOp dIx (mOp dIx (mVar 0) (mC (.int 0))) (mOp dIx (mVar 0) (mC (.int 1)))))
        (msCons (msAugI dIAdd (mVar 0) (mC (.int 1)) (mC (.int 1)))
        (msCons (msSetI (mVar 0) (mC (.int 3)) (mOp dMod (mOp dAdd (mOp dMul (mOp dIx (mVar 0) (mC (.int 3))) (mC (.int 48271))) (mVar 2)) (mC (.int 2147483647))))
        (msIf (mTb (mOp dGe (mB bAbs (mCons (mVar 2) (mNil))) (mOp dPow (mC (.int 10)) (mC (.int 18))))) (msSetI (mVar 0) (mC (.int 2)) (mB bAbs (mCons (mVar 2) (mNil)))) (msNil))))) (msNil) [some (.ref 1), some (.int m), none, none] (z :: HC ns a g s c :: t) = .nx [some (.ref 1), some (.int m), v2, none] (z :: HC ns a' g1 s' c :: t) ∧ 0 ≤ a' ∧ 0 ≤ g1 ∧ 0 ≤ s' ∧ s' < 2147483647 := by
      by_cases b1 : g = 0 ∧ a < ns.length
      · obtain ⟨b1, b2⟩ := b1
        have hx : (ns.map D.int)[a.toNat]? = some (.int (ns[a.toNat]'(by omega))) := by
          rw [List.getElem?_map, List.getElem?_eq_getElem (by omega)]
          rfl
        generalize ns[a.toNat]'(by omega) = x at hx
        have ex : ∀ h : IH, dIx (.fl (ns.map D.int)) (.int a) h = .ok (.int x) h := fun h => dIx_seq (xs := ns.map D.int) rfl a0 hx
        subst b1
        by_cases b3 : 10 ^ 18 ≤ (if x < 0 then -x else x)
        · refine ⟨some (.int x), a + 1, if x < 0 then -x else x, (s * 48271 + x) % 2147483647, ?_, by omega, by omega, by omega, by omega⟩
          simp [hc0, hc1, hc2, ex, b2, hg1, hp1, hc3, hp3, hp2, cMul, cMod, cPow]
          simp at b3
          intro q
          exact absurd q (by omega)
        · refine ⟨some (.int x), a + 1, 0, (s * 48271 + x) % 2147483647, ?_, by omega, by omega, by omega, by omega⟩
          simp [hc0, hc1, hc2, ex, b2, hg1, hp1, hc3, hp3, hp2, cMul, cMod, cPow]
          simp at b3
          intro q
          exact absurd q (by omega)
      · refine ⟨none, a, g, s, ?_, a0, g0, s0, s1⟩
        by_cases b2 : g = 0
        · have b3 : ¬ a < ns.length := fun z => b1 ⟨b2, z⟩
          simp [hc0, hc1, hc2, b2, b3]
        · simp [hc0, hc1, hc2, b2]
    obtain ⟨v2, a', g1, s', pk, pa, pg, ps0, ps1⟩ := part
    by_cases b : 0 < g1
    · refine ⟨g1 % m, a', g1 / m, s', c, ?_, Int.emod_nonneg _ (by omega), Int.emod_lt_of_pos _ (by omega), pa, Int.ediv_nonneg pg (by omega), ps0, ps1, c0, by omega⟩
      rw [ap_fnM]
      simp only [List.map_cons, List.map_nil, List.length_cons, List.length_nil, List.cons_append, List.nil_append, Nat.reduceAdd, Nat.reduceSub, List.replicate]
      refine stN (env2 := [some (.ref 1), some (.int m), none, none]) (h2 := z :: HC ns a g s c :: t) (by simp [hm]) ?_
      refine stN pk ?_
      simp [hc2, hp2, b, cMod, cDiv, show 0 < m by omega, show m < 18446744073709551616 by omega]
    · have g00 : g1 = 0 := by omega
      refine ⟨(s' + 7368787 * (c + 1)) ^ 5 % 2147483647 / 1009 % m, a', g1, s', c + 1, ?_, Int.emod_nonneg _ (by omega), Int.emod_lt_of_pos _ (by omega), pa, pg, ps0, ps1, by omega, by omega⟩
      rw [ap_fnM]
      simp only [List.map_cons, List.map_nil, List.length_cons, List.length_nil, List.cons_append, List.nil_append, Nat.reduceAdd, Nat.reduceSub, List.replicate]
      refine stN (env2 := [some (.ref 1), some (.int m), none, none]) (h2 := z :: HC ns a g s c :: t) (by simp [hm]) ?_
      refine stN pk ?_
      have hw : (s' + 7368787 * (c + 1)).natAbs < 18446744073709551616 := by omega
      simp [hc2, hg4, hp4, hc3, hc4, b, cMod, cDiv, cPow, cMul, hw, show 0 < m by omega, show m < 18446744073709551616 by omega]
theorem source_eq (ns : List Int) (hl : ns.length ≤ 63) : ∃ c, callC 1 m__law_hand [.ref 0] [.frz (ns.map D.int)] = .ok (.ref 1) [.frz (ns.map D.int), c] ∧ Pn 999999999999 c := by
  have e0 : cutD (ns.map D.int) none (some 63) = ns.map D.int := by
    rw [cutD_to (by omega), List.take_of_length_le (by simp; omega)]
  have e1 : sliceD (.ref 0) none (some 63) [.frz (ns.map D.int)] = newL [.frz (ns.map D.int)] (ns.map D.int) := by
    unfold sliceD
    simp [lstOf, e0, newL]
  have e2 : fzD [.frz (ns.map D.int)] [.frz (ns.map D.int)] (ns.map D.int) = .ok (.fl (ns.map D.int)) [.frz (ns.map D.int)] := fzD_same (by simp)
  have e3 : ∀ h : IH, bListX [.fl (ns.map D.int)] h = newL h (ns.map D.int) := fun h => by simp [bListX, newL, bList, seqOf]
  refine ⟨HC ns 0 0 7 0, callC_new rfl ?_ (by simp), ns, 0, 0, 7, 0, rfl, hl, by omega, by omega, by omega, by omega, by omega, by omega⟩
  unfold m__law_hand
  simp [e1, fz_newL, e2, e3, newL_bindS, HC]
end NR

set_option Elab.async false
set_option linter.all false
set_option maxRecDepth 100000
set_option maxHeartbeats 4000000
namespace NR
open PySem PySem.Spec PyProof.Rows L2
theorem intsFrom_get {lo : Int} {n i : Nat} {d : D} (h : (intsFrom lo n)[i]? = some d) : i < n ∧ d = .int (lo + (i : Nat)) := by
  rw [ints_get] at h
  split at h
  · rename_i hi
    cases h
    exact ⟨hi, rfl⟩
  · cases h
@[simp] theorem intsFrom_len {lo : Int} {n : Nat} : (intsFrom lo n).length = n := by simp [intsFrom]
/-- the slots of _law_rooms -/
theorem sgs_of {t : List Nat} : ∀ {ys : List D}, (∀ y ∈ ys, ∃ k, k ∈ t ∧ y = .str [k]) → ∃ s : List Nat, ys = sgD s ∧ ∀ k ∈ s, k ∈ t
  | [], _ => ⟨[], rfl, by simp⟩
  | y :: ys, h => by
    obtain ⟨k, hk, rfl⟩ := h y List.mem_cons_self
    obtain ⟨s, rfl, hs⟩ := sgs_of fun z hz => h z (List.mem_cons_of_mem _ hz)
    exact ⟨k :: s, rfl, by simpa using ⟨hk, hs⟩⟩
theorem join_sg {s : List Nat} {h : IH} (l : s.length ≤ 10000000) : fJoin (.str []) [.fl (sgD s)] h = .ok (.str s) h := by
  have e : sgD s = (s.map fun c => [c]).map D.str := by unfold sgD; rw [List.map_map]; rfl
  have f : (s.map fun c => [c]).flatten = s := by
    clear l e
    induction s with
    | nil => rfl
    | cons c s ih => simp [ih]
  unfold fJoin
  dsimp only
  rw [seqOf_fl, e]
  show (match allM D.str? ((s.map fun c => [c]).map D.str) with | some ys => _ | none => _) = _
  rw [allM_mkStrs]
  dsimp only
  rw [sum_lens, f, List.length_nil, Nat.mul_zero, Nat.add_zero, joinN_nil, f, if_pos l]
/-- .. whose steps draw: Pn b c says that the pen's cell c can draw b times -/
theorem lcF_penI {env : EV} {m : ME} {it : MI} {gg : MG} {ws : List Nat} {ds : List D} {z cc c0 : Cell} {g : IH} {Pn : Nat → Cell → Prop} {b K : Nat} (lop : ∀ b c k, Pn b c → Cell.lo k c = true) (Po : Nat → D → Prop) (hi : it env (z :: cc :: g) = .ok (.st ds) (z :: c0 :: g)) (hl : ds.length ≤ 9000000)
    (hp : Pn (b + K * ds.length) c0) (lo : ∀ i y k, Po i y → D.lo k y = true)
    (step : ∀ i d, ds[i]? = some d → ∃ e1, gg d (wipeE env ws) = some e1 ∧ ∀ b c g, Pn (b + K) c → ∃ y c', m e1 (z :: c :: g) = .ok y (z :: c' :: g) ∧ Pn b c' ∧ Po i y) :
    ∃ ys c', mFz (mLc it gg mYes m ws) env (z :: cc :: g) = .ok (.fl ys) (z :: c' :: g) ∧ ys.length = ds.length ∧ (∀ i y, ys[i]? = some y → Po i y) ∧ Pn b c' := by
  have main : ∃ ys c', lcM (.st ds) gg mYes m (z :: c0 :: g).length ((Src.st ds).many (z :: c0 :: g) + 1) 0 (wipeE env ws) ((z :: c0 :: g) ++ [Cell.lst []]) = .ok (.ref (z :: c0 :: g).length) (z :: c' :: (g ++ [Cell.lst ys])) ∧ ys.length = ds.length ∧ (∀ i y, ys[i]? = some y → Po i y) ∧ Pn b c' := by
    refine lcM_inv (P := fun i h' => ∃ ys c', h' = z :: c' :: (g ++ [Cell.lst ys]) ∧ ys.length = i ∧ (∀ j y, ys[j]? = some y → Po j y) ∧ Pn (b + K * (ds.length - i)) c') (Rs := fun r => ∃ ys c', r = .ok (.ref (z :: c0 :: g).length) (z :: c' :: (g ++ [Cell.lst ys])) ∧ ys.length = ds.length ∧ (∀ i y, ys[i]? = some y → Po i y) ∧ Pn b c') ?_ ?_ ?_
    · rintro i d h' hd ⟨ys, c', rfl, l1, p1, n1⟩
      have hi' := (List.getElem?_eq_some_iff.mp hd).1
      obtain ⟨e1, g1, st⟩ := step i d hd
      have e0 : ds.length - i = (ds.length - (i + 1)) + 1 := by omega
      rw [e0, Nat.mul_succ, ← Nat.add_assoc] at n1
      obtain ⟨y, c2, e2, n2, p2⟩ := st _ c' (g ++ [Cell.lst ys]) n1
      refine ⟨e1, g1, ?_⟩
      show ∃ y h3 acc, m e1 _ = .ok y h3 ∧ _
      refine ⟨y, _, ys, e2, by simp, by omega, ys ++ [y], c2, by simp, by simp [l1], fun j z hz => ?_, n2⟩
      by_cases hj : j < ys.length
      · rw [List.getElem?_append_left hj] at hz
        exact p1 j z hz
      · have hj2 : j = ys.length := by
          have := (List.getElem?_eq_some_iff.mp hz).1
          simp at this
          omega
        subst hj2
        rw [List.getElem?_append_right (Nat.le_refl _), Nat.sub_self] at hz
        simp at hz
        subst hz
        rw [l1]
        exact p2
    · rintro h' ⟨ys, c', rfl, l1, p1, n1⟩
      rw [Nat.sub_self, Nat.mul_zero, Nat.add_zero] at n1
      exact ⟨ys, c', rfl, l1, p1, n1⟩
    · exact ⟨[], c0, by simp, rfl, by simp, by simpa using hp⟩
  obtain ⟨ys, c', e, l1, p1, n1⟩ := main
  refine ⟨ys, c', ?_, l1, p1, n1⟩
  rw [ap_mFz0, ap_mLc, hi]
  show fzR _ (lcM _ _ _ _ _ _ _ _ _) = _
  rw [e, fzR_at (xs := ys) (by simp) (by simp) (loL_of fun x hx => by
    obtain ⟨j, hj⟩ := List.mem_iff_getElem?.mp hx
    exact lo j x _ (p1 j x hj)) (by simp [lop b c' _ n1])]
  simp
/-- a word that is drawn sign by sign, joined -/
theorem word_draw {env : EV} {it : MI} {k : Nat} {e : ME} {z cc c0 : Cell} {g : IH} {t : List Nat} {n b : Nat} (nl : n ≤ 100000) (hi : it env (z :: cc :: g) = .ok (.st (intsFrom 0 n)) (z :: c0 :: g)) (hp : Pn (b + n) c0)
    (step : ∀ d b c g, Pn (b + 1) c → ∃ s c', e ((wipeE env [k]).set k (some d)) (z :: c :: g) = .ok (.str [s]) (z :: c' :: g) ∧ Pn b c' ∧ s ∈ t) :
    ∃ s c', mFz (mLc it (gSet k) mYes e [k]) env (z :: cc :: g) = .ok (.fl (sgD s)) (z :: c' :: g) ∧ s.length = n ∧ (∀ x ∈ s, x ∈ t) ∧ Pn b c' ∧ ∀ h : IH, fJoin (.str []) [.fl (sgD s)] h = .ok (.str s) h := by
  obtain ⟨ys, c4, e4, yl, yp, p4⟩ := lcF_penI (Pn := Pn) (b := b) (K := 1) (z := z) (cc := cc) (c0 := c0) (g := g) (ds := intsFrom 0 n) (env := env) (it := it) (gg := gSet k) (ws := [k]) (m := e) Pn_lo
    (fun _ y => ∃ k, k ∈ t ∧ y = .str [k]) hi (by simp; omega) (hp.mono (by simp)) (by rintro _ y k ⟨x, _, rfl⟩; rfl) (fun j d _ => ⟨_, rfl, fun b c g hb => by
      obtain ⟨s, c', e1, e2, e3⟩ := step d b c g hb
      exact ⟨_, c', e1, e2, s, e3, rfl⟩⟩)
  obtain ⟨s, rfl, sb⟩ := sgs_of (t := t) fun y hy => by
    obtain ⟨j, hj⟩ := List.mem_iff_getElem?.mp hy
    exact yp j y hj
  have sl : s.length = n := by simpa [sgD] using yl
  exact ⟨s, c4, e4, sl, sb, p4, fun h => join_sg (by omega)⟩
end NR

set_option Elab.async false
set_option linter.all false
set_option maxRecDepth 100000
set_option maxHeartbeats 4000000
namespace NR
open PySem PySem.Spec PyProof.Rows L2
def allSigns : List Nat := [32, 33, 34, 35, 36, 38, 39, 40, 41, 42, 43, 44, 45, 46, 47, 48, 49, 50, 51, 52, 53, 54, 55, 56, 57, 58, 59, 60, 61, 62, 63, 64, 65, 66, 67, 68, 69, 70, 71, 72, 73, 74, 75, 76, 77, 78, 79, 80, 81, 82, 83, 84, 85, 86, 87, 88, 89, 90, 91, 92, 93, 94, 95, 96, 97, 98, 99, 100, 101, 102, 103, 104, 105, 106, 107, 108, 109, 110, 111, 112, 113, 114, 115, 116, 117, 118, 119, 120, 121, 122, 123, 124, 125, 126, 10]
theorem allSigns_nodup : allSigns.Nodup := by decide
theorem allSigns_len : allSigns.length = 95 := by decide
theorem signs_call (h : IH) : callC 0 m__law_signs [] h = .ok (.str allSigns) h := callC_same rfl (by unfold m__law_signs; simp [dAdd_str_if, allSigns])
/-- a tongue -/
structure Tgn (t : List Nat) : Prop where
  l1 : 1 ≤ t.length
  l2 : t.length ≤ 6
  nd : t.Nodup
  sub : ∀ c ∈ t, c ∈ allSigns
theorem erase_cut (l : List Nat) (i : Nat) : l.take i ++ l.drop (i + 1) = l.eraseIdx i := (List.eraseIdx_eq_take_drop_succ l i).symm
theorem nodup_erase {l : List Nat} (h : l.Nodup) (i : Nat) : (l.eraseIdx i).Nodup := h.sublist (List.eraseIdx_sublist l i)
theorem not_mem_erase {l : List Nat} (h : l.Nodup) {i c : Nat} (e : l[i]? = some c) : c ∉ l.eraseIdx i := by
  intro hm
  rw [List.mem_eraseIdx_iff_getElem?] at hm
  obtain ⟨j, hj, ej⟩ := hm
  obtain ⟨h1, e1⟩ := List.getElem?_eq_some_iff.mp e
  obtain ⟨h2, e2⟩ := List.getElem?_eq_some_iff.mp ej
  have hp := List.pairwise_iff_getElem.mp h
  rcases Nat.lt_or_gt_of_ne hj with l1 | l1
  · exact hp j i h2 h1 l1 (e2.trans e1.symm)
  · exact hp i j h1 h2 l1 (e1.trans e2.symm)
theorem tongueR {b : Nat} {z c : Cell} {g : IH} {R : List Nat} {m : Nat} (hR : R = allSigns) (hm6 : m = 6) (nR : R.Nodup) (m1 : 1 ≤ m) (m2 : m ≤ R.length) (rl : R.length ≤ 1000) (hp : Pn (b + m + 1) c) :
    ∃ t c', callC 1 m__law_tongue [.ref 1] (z :: c :: g) = .ok (.str t) (z :: c' :: g) ∧ 1 ≤ t.length ∧ t.length ≤ m ∧ t.Nodup ∧ (∀ x ∈ t, x ∈ R) ∧ Pn b c' := by
  obtain ⟨t, c1, e1, t1, p1⟩ := draw_call (b := b + m) (z := z) (t := g) (m := (m : Nat)) hp (by omega) (by omega)
  have tm : t < m := by omega
  have main : ∃ f c' x y rs, forM (.st (intsFrom 0 (1 + (t : Int)).toNat)) (gSet 3) b__law_tongue_1 ((Src.st (intsFrom 0 (1 + (t : Int)).toNat)).many (z :: c1 :: g) + 1) 0 [some (.ref 1), some (.str R), some (.str []), none, none] (z :: c1 :: g) =
      .nx [some (.ref 1), some (.str rs), some (.str f), x, y] (z :: c' :: g) ∧ 1 ≤ f.length ∧ f.length ≤ m ∧ f.Nodup ∧ (∀ x ∈ f, x ∈ R) ∧ Pn b c' := by
    have lk : (intsFrom 0 (1 + (t : Int)).toNat).length = t + 1 := by simp [intsFrom]; omega
    refine for_inv (P := fun i env h => ∃ (f rs : List Nat) (c' : Cell) (x y : Option D), env = [some (.ref 1), some (.str rs), some (.str f), x, y] ∧ h = z :: c' :: g ∧ f.length = i ∧ rs.length + i = R.length ∧ f.Nodup ∧ rs.Nodup ∧ (∀ k ∈ f, k ∉ rs) ∧ (∀ k ∈ f, k ∈ R) ∧ (∀ k ∈ rs, k ∈ R) ∧ i ≤ m ∧ Pn (b + (m - i)) c')
      (Rs := fun r => ∃ f c' x y rs, r = .nx [some (.ref 1), some (.str rs), some (.str f), x, y] (z :: c' :: g) ∧ 1 ≤ f.length ∧ f.length ≤ m ∧ f.Nodup ∧ (∀ x ∈ f, x ∈ R) ∧ Pn b c')
      ⟨[], R, c1, none, none, rfl, rfl, rfl, by simp, by simp, nR, by simp, by simp, fun c hc => hc, by omega, p1⟩ ?_ ?_
    · rintro i d env h hd ⟨f, rs, c', x, y, rfl, rfl, lf, lr, nf, nr, dj, s1, s2, i6, p⟩
      have hi : i < t + 1 := by
        have := (List.getElem?_eq_some_iff.mp hd).1
        omega
      refine ⟨_, rfl, ?_⟩
      obtain ⟨u, c2, e2, u1, p2⟩ := draw_call (b := b + (m - (i + 1))) (z := z) (t := g) (m := rs.length) (p.mono (by omega)) (by omega) (by omega)
      have hu : u < rs.length := by omega
      have hc : rs[u]? = some rs[u] := List.getElem?_eq_getElem hu
      generalize rs[u] = k at hc
      have hkm : k ∈ rs := List.mem_of_getElem? hc
      have b1 : ∀ h, bLen [.str rs] h = .ok (.int (rs.length : Nat)) h := fun h => bLen_str (by omega)
      have b2 : ∀ h, dIx (.str rs) (.int (u : Nat)) h = .ok (.str [k]) h := fun h => dIx_str (by omega) (by simpa using hc) (by omega)
      have b3 : ∀ h, dAdd (.str f) (.str [k]) h = .ok (.str (f ++ [k])) h := fun h => dAdd_str (by simp; omega)
      have b4 : ∀ h, sliceD (.str rs) none (some (u : Nat)) h = .ok (.str (rs.take u)) h := fun h => by rw [sliceD_str (by omega), cutN_to (by omega)]; simp
      have b5 : ∀ h, sliceD (.str rs) (some ((u : Nat) + 1)) none h = .ok (.str (rs.drop (u + 1))) h := fun h => by rw [sliceD_str (by omega), cutN_from (by omega)]; congr 2
      have b6 : ∀ h, dAdd (.str (rs.take u)) (.str (rs.drop (u + 1))) h = .ok (.str (rs.eraseIdx u)) h := fun h => by
        rw [dAdd_str, erase_cut]
        rw [List.length_take, List.length_drop]
        omega
      unfold b__law_tongue_1
      simp only [ap_msCons, ap_msSet, ap_msAug, ap_mCall, ap_mCons, ap_mNil, ap_mVar, ap_mB, ap_mOp, ap_mFz_slice, ap_mFz_op, ap_mSlice, ap_moNone, ap_moSome, ap_mC, bind_ok, bindS_ok, then_nx, List.set_cons_zero, List.set_cons_succ, List.getElem?_cons_zero, List.getElem?_cons_succ, b1, e2, b2, b3, b4, b5, b6, dAdd_int, fz_str, Nx_nx]
      refine ⟨f ++ [k], rs.eraseIdx u, c2, _, _, rfl, rfl, by simp; omega, ?_, ?_, nodup_erase nr _, ?_, ?_, fun j hj => s2 j ((List.eraseIdx_sublist _ _).subset hj), by omega, p2⟩
      · rw [List.length_eraseIdx, if_pos (by omega)]
        omega
      · rw [List.nodup_append]
        exact ⟨nf, by simp, fun a ha j hj => by rw [List.mem_singleton] at hj; subst hj; exact fun z => dj a ha (z ▸ hkm)⟩
      · intro a ha
        rcases List.mem_append.mp ha with ha | ha
        · exact fun z => dj a ha ((List.eraseIdx_sublist _ _).subset z)
        · rw [List.mem_singleton] at ha
          subst ha
          exact not_mem_erase nr hc
      · intro a ha
        rcases List.mem_append.mp ha with ha | ha
        · exact s1 a ha
        · rw [List.mem_singleton] at ha
          subst ha
          exact s2 a hkm
    · rintro env h ⟨f, rs, c', x, y, rfl, rfl, lf, lr, nf, nr, dj, s1, s2, i6, p⟩
      rw [lk] at lf
      exact ⟨f, c', x, y, rs, rfl, by omega, by omega, nf, s1, p.mono (by omega)⟩
  obtain ⟨f, c', x, y, rs, ef, f1, f2, f3, f4, p'⟩ := main
  refine ⟨f, c', callC_pen0 rfl ?_, f1, f2, f3, f4, p'⟩
  subst hm6 hR
  have e1 : callC 2 m__law_take [.ref 1, .int 6] (z :: c :: g) = .ok (.int (t : Nat)) (z :: c1 :: g) := e1
  unfold m__law_tongue
  simp [signs_call, e1, show -10000000 ≤ 1 + (t : Int) ∧ 1 + (t : Int) ≤ 10000000 by omega, ef]
theorem tongue_call {b : Nat} {z c : Cell} {g : IH} (hp : Pn (b + 7) c) : ∃ t c', callC 1 m__law_tongue [.ref 1] (z :: c :: g) = .ok (.str t) (z :: c' :: g) ∧ Tgn t ∧ Pn b c' := by
  obtain ⟨t, c', e, h1, h2, h3, h4, p⟩ := tongueR (b := b) (z := z) (c := c) (g := g) (R := allSigns) (m := 6) rfl rfl allSigns_nodup (by omega) (by decide) (by decide) hp
  exact ⟨t, c', e, ⟨h1, h2, h3, h4⟩, p⟩
/-! ### kinds -/
theorem kinds_loop {z : Cell} {g : IH} {R mn : Nat} : ∀ (n b : Nat) (lo : Int) (c : Cell) (ks : List Int) (x4 x5 : Option D), n ≤ 100 → ks.length ≤ 1000 → ks.length + n ≤ 1000 → ks[0]? = some (-1) → (∀ k ∈ ks, -1 ≤ k ∧ k ≤ 5) → Pn (b + 2 * n) c →
    ∃ (ks' : List Int) (c' : Cell) (y4 y5 : Option D), forL (gSet 4) b__law_kinds_1 (intsFrom lo n) [some (.ref 1), some (.int (R : Nat)), some (.int (mn : Nat)), some (.ref (g.length + 2)), x4, x5] (z :: c :: (g ++ [Cell.lst (ks.map D.int)])) =
      .nx [some (.ref 1), some (.int (R : Nat)), some (.int (mn : Nat)), some (.ref (g.length + 2)), y4, y5] (z :: c' :: (g ++ [Cell.lst (ks'.map D.int)])) ∧ ks'.length = ks.length + n ∧ ks'[0]? = some (-1) ∧ (∀ k ∈ ks', -1 ≤ k ∧ k ≤ 5) ∧ Pn b c'
  | 0, b, lo, c, ks, x4, x5, _, _, _, k0, kk, hp => ⟨ks, c, x4, x5, rfl, rfl, k0, kk, hp⟩
  | n + 1, b, lo, c, ks, x4, x5, n1, kl, kn, k0, kk, hp => by
    obtain ⟨u, c1, e1, u1, p1⟩ := draw_call (b := b + 2 * n + 1) (z := z) (x := c) (t := g ++ [Cell.lst (ks.map D.int)]) (m := 7) (hp.mono (by omega)) (by omega) (by omega)
    obtain ⟨v, c2, e2, v1, p2⟩ := draw_call (b := b + 2 * n) (z := z) (x := c1) (t := g ++ [Cell.lst (ks.map D.int)]) (m := 3) p1 (by omega) (by omega)
    have key : ∃ (k : Int) (c3 : Cell), b__law_kinds_1 [some (.ref 1), some (.int (R : Nat)), some (.int (mn : Nat)), some (.ref (g.length + 2)), some (.int lo), x5] (z :: c :: (g ++ [Cell.lst (ks.map D.int)])) =
        .nx [some (.ref 1), some (.int (R : Nat)), some (.int (mn : Nat)), some (.ref (g.length + 2)), some (.int lo), some (.int k)] (z :: c3 :: (g ++ [Cell.lst ((ks ++ [k]).map D.int)])) ∧ -1 ≤ k ∧ k ≤ 5 ∧ Pn (b + 2 * n) c3 := by
      have ty : ∀ c : Cell, tyD "list" (z :: c :: (g ++ [Cell.lst (ks.map D.int)])) (.ref (g.length + 2)) = true := fun c => tyD_ref (xs := ks.map D.int) (by simp)
      have ap : ∀ (c : Cell) (k : Int), fAppend (.ref (g.length + 2)) [.int k] (z :: c :: (g ++ [Cell.lst (ks.map D.int)])) = .ok .non (z :: c :: (g ++ [Cell.lst ((ks ++ [k]).map D.int)])) := fun c k => by
        rw [append_at (xs := ks.map D.int) (by simp) (by simp; omega)]
        simp
      have u0 : (0 : Int) ≤ (u : Nat) := by omega
      unfold b__law_kinds_1
      by_cases q1 : mn = 1
      · refine ⟨((u : Nat) - 1 : Int) / 5, c1, ?_, by omega, by omega, p1.mono (by omega)⟩
        have ap' := ap c1 (((u : Nat) - 1 : Int) / 5)
        have ty' := ty c1
        generalize (ks ++ [((u : Nat) - 1 : Int) / 5]).map D.int = L2 at *
        generalize ks.map D.int = L1 at *
        subst q1
        simp [e1, cDiv, ty', ap']
      · by_cases q2 : mn = 2
        · by_cases q3 : v = 0
          · refine ⟨((u : Nat) - 1 : Int), c2, ?_, by omega, by omega, p2⟩
            have ap' := ap c2 ((u : Nat) - 1 : Int)
            have ty' := ty c2
            generalize (ks ++ [((u : Nat) - 1 : Int)]).map D.int = L2 at *
            generalize ks.map D.int = L1 at *
            subst q2 q3
            simp [e1, e2, ty', ap']
          · refine ⟨-1, c2, ?_, by omega, by omega, p2⟩
            have ap' := ap c2 (-1)
            have ty' := ty c2
            have q4 : 0 < v := by omega
            generalize (ks ++ [(-1 : Int)]).map D.int = L2 at *
            generalize ks.map D.int = L1 at *
            subst q2
            simp [e1, e2, ty', ap', q4]
        · refine ⟨((u : Nat) - 1 : Int), c1, ?_, by omega, by omega, p1.mono (by omega)⟩
          have ap' := ap c1 ((u : Nat) - 1 : Int)
          have ty' := ty c1
          generalize (ks ++ [((u : Nat) - 1 : Int)]).map D.int = L2 at *
          generalize ks.map D.int = L1 at *
          have q1' : ¬ (mn : Int) = 1 := by omega
          have q2' : ¬ (mn : Int) = 2 := by omega
          simp [e1, q1', q2', ty', ap']
    obtain ⟨k, c3, ek, k1, k2, p3⟩ := key
    have k0' : (ks ++ [k])[0]? = some (-1) := by
      rw [List.getElem?_append_left (List.getElem?_eq_some_iff.mp k0).1]
      exact k0
    obtain ⟨ks', c', y4, y5, el, q1, q2, q3, p'⟩ := kinds_loop (z := z) (g := g) (R := R) (mn := mn) n b (lo + 1) c3 (ks ++ [k]) (some (.int lo)) (some (.int k)) (by omega) (by simp; omega) (by simp; omega) k0' (fun x hx => by
      rcases List.mem_append.mp hx with hx | hx
      · exact kk x hx
      · rw [List.mem_singleton] at hx
        subst hx
        exact ⟨k1, k2⟩) p3
    refine ⟨ks', c', y4, y5, ?_, by rw [q1, List.length_append, List.length_singleton]; omega, q2, q3, p'⟩
    rw [intsFrom_succ, forL_cons (e1 := [some (.ref 1), some (.int (R : Nat)), some (.int (mn : Nat)), some (.ref (g.length + 2)), some (.int lo), x5]) rfl, ek, on_nx]
    exact el
theorem kinds_call {b : Nat} {z c : Cell} {g : IH} {R : Nat} (r1 : 1 ≤ R) (r2 : R ≤ 32) (hp : Pn (b + 70) c) :
    ∃ (ks : List Int) (c' : Cell), callC 2 m__law_kinds [.ref 1, .int (R : Nat)] (z :: c :: g) = .ok (.fl (ks.map D.int)) (z :: c' :: g) ∧ ks.length = R ∧ ks[0]? = some (-1) ∧ (∀ k ∈ ks, -1 ≤ k ∧ k ≤ 5) ∧ Pn b c' := by
  obtain ⟨mn, c1, e1, mn1, p1⟩ := draw_call (b := b + 69) (z := z) (x := c) (t := g) (m := 3) (hp.mono (by omega)) (by omega) (by omega)
  obtain ⟨ks, c', y4, y5, el, kl, k0, kk, p'⟩ := kinds_loop (z := z) (g := g) (R := R) (mn := mn) (R - 1) b 1 c1 [-1] none none (by omega) (by simp) (by simp; omega) rfl (by simp) (p1.mono (by omega))
  have kl' : ks.length = R := by rw [kl, List.length_singleton]; omega
  refine ⟨ks, c', callC_pen (g' := [Cell.frz (ks.map D.int)]) rfl ?_ (fun k _ => by simp) (fun k _ => p'.lo k), kl', k0, kk, p'⟩
  unfold m__law_kinds
  rw [ap_fnM]
  simp only [List.map_cons, List.map_nil, List.length_cons, List.length_nil, List.cons_append, List.nil_append, Nat.reduceAdd, Nat.reduceSub, List.replicate]
  refine stN (env2 := [some (.ref 1), some (.int (R : Nat)), some (.int (mn : Nat)), none, none, none]) (h2 := z :: c1 :: g) (by simp [e1]) ?_
  refine stN (env2 := [some (.ref 1), some (.int (R : Nat)), some (.int (mn : Nat)), some (.ref (g.length + 2)), none, none]) (h2 := z :: c1 :: (g ++ [.lst [.int (-1)]])) (by simp [newL]) ?_
  refine stN (env2 := [some (.ref 1), some (.int (R : Nat)), some (.int (mn : Nat)), some (.ref (g.length + 2)), y4, y5]) (h2 := z :: c' :: (g ++ [Cell.lst (ks.map D.int)])) ?_ ?_
  · refine (for_st (ds := intsFrom 1 (R - 1)) (h2 := z :: c1 :: (g ++ [.lst [.int (-1)]])) ?_).trans el
    unfold iRange2
    have : ((R : Nat) - 1 : Int).toNat = R - 1 := by omega
    simp [this]
    omega
  · rw [ap_msFz (n := g.length + 2) (xs := ks.map D.int) rfl (by simp)]
    generalize ks.map D.int = L at *
    simp
end NR

set_option Elab.async false
set_option linter.all false
set_option maxRecDepth 100000
set_option maxHeartbeats 4000000
namespace NR
open PySem PySem.Spec PyProof.Rows L2
/-! ### rows that are written -/
def pE (p : Nat × Nat) : D := .tup [.int (p.1 : Nat), .int (p.2 : Nat)]
def rF (r : List Nat) : D := .fl (r.map nD)
def kR (k : Nat) : D := .ref (k + 2)
structure GInv (g : IH) (n0 o : Nat) (T : IH) (G : List (List Nat)) (ks : List Nat) : Prop where
  ex : ∃ t, T = g ++ t
  out : T[o]? = some (Cell.lst (ks.map kR))
  len : ks.length = G.length
  nd : ks.Nodup
  ap : ∀ k ∈ ks, k ≠ n0 ∧ k ≠ o ∧ g.length ≤ k
  no : n0 ≠ o
  n1 : g.length ≤ n0
  o1 : g.length ≤ o
  row : ∀ (i k : Nat) (r : List Nat), ks[i]? = some k → G[i]? = some r → T[k]? = some (Cell.lst (r.map nD))
section
variable {g T : IH} {n0 o : Nat} {G : List (List Nat)} {ks : List Nat}
theorem ex_set {i : Nat} {x : Cell} (h : ∃ t, T = g ++ t) (l : g.length ≤ i) : ∃ t, T.set i x = g ++ t := by
  obtain ⟨t, rfl⟩ := h
  exact ⟨t.set (i - g.length) x, by rw [List.set_append, if_neg (by omega)]⟩
theorem GInv.free (I : GInv g n0 o T G ks) (x : Cell) : GInv g n0 o (T.set n0 x) G ks :=
  ⟨ex_set I.ex I.n1, by rw [List.getElem?_set_ne I.no]; exact I.out, I.len, I.nd, I.ap, I.no, I.n1, I.o1, fun i k r h1 h2 => by
    rw [List.getElem?_set_ne (Ne.symm (I.ap k (List.mem_of_getElem? h1)).1)]
    exact I.row i k r h1 h2⟩
theorem GInv.at (I : GInv g n0 o T G ks) {i : Nat} {r : List Nat} (h : G[i]? = some r) : ∃ k, ks[i]? = some k ∧ k ∈ ks ∧ T[k]? = some (Cell.lst (r.map nD)) := by
  have hi : i < ks.length := by rw [I.len]; exact (List.getElem?_eq_some_iff.mp h).1
  have e : ks[i]? = some ks[i] := List.getElem?_eq_getElem hi
  exact ⟨ks[i], e, List.getElem_mem hi, I.row i _ r e h⟩
theorem GInv.put (I : GInv g n0 o T G ks) {i k : Nat} {r : List Nat} (hk : ks[i]? = some k) (r' : List Nat) : GInv g n0 o (T.set k (.lst (r'.map nD))) (G.set i r') ks := by
  have km := List.mem_of_getElem? hk
  refine ⟨ex_set I.ex (I.ap k km).2.2, by rw [List.getElem?_set_ne (I.ap k km).2.1]; exact I.out, by rw [List.length_set]; exact I.len, I.nd, I.ap, I.no, I.n1, I.o1, fun j k' r1 h1 h2 => ?_⟩
  by_cases q : i = j
  · subst q
    rw [hk] at h1
    cases h1
    have hi : i < G.length := by rw [← I.len]; exact (List.getElem?_eq_some_iff.mp hk).1
    rw [List.getElem?_set_self hi] at h2
    cases h2
    have hG : G[i]? = some G[i] := List.getElem?_eq_getElem hi
    rw [List.getElem?_set_self (List.getElem?_eq_some_iff.mp (I.row i k _ hk hG)).1]
  · rw [List.getElem?_set_ne q] at h2
    have : k ≠ k' := fun z => by
      subst z
      have := (List.getElem?_eq_some_iff.mp hk)
      obtain ⟨a1, a2⟩ := List.getElem?_eq_some_iff.mp hk
      obtain ⟨b1, b2⟩ := List.getElem?_eq_some_iff.mp h1
      have pw := List.pairwise_iff_getElem.mp I.nd
      rcases Nat.lt_or_gt_of_ne q with l | l
      · exact pw i j a1 b1 l (a2.trans b2.symm)
      · exact pw j i b1 a1 l (b2.trans a2.symm)
    rw [List.getElem?_set_ne this]
    exact I.row j k' r1 h1 h2
theorem GInv.grow (I : GInv g n0 o T G ks) (a : Cell) (r : List Nat) (hn : n0 < T.length) : GInv g n0 o ((T ++ [a, .lst (r.map nD)]).set o (.lst ((ks ++ [T.length + 1]).map kR))) (G ++ [r]) (ks ++ [T.length + 1]) := by
  have ol := (List.getElem?_eq_some_iff.mp I.out).1
  have kl : ∀ k ∈ ks, k < T.length := fun k hk => by
    obtain ⟨i, hi⟩ := List.mem_iff_getElem?.mp hk
    have hi2 : i < G.length := by rw [← I.len]; exact (List.getElem?_eq_some_iff.mp hi).1
    exact (List.getElem?_eq_some_iff.mp (I.row i k _ hi (List.getElem?_eq_getElem hi2))).1
  have gl : g.length ≤ T.length := by
    obtain ⟨t, ht⟩ := I.ex
    rw [ht, List.length_append]
    omega
  refine ⟨ex_set (by
    obtain ⟨t, ht⟩ := I.ex
    exact ⟨t ++ [a, .lst (r.map nD)], by rw [ht, List.append_assoc]⟩) I.o1, by rw [List.getElem?_set_self (by simp; omega)], by simp [I.len], ?_, ?_, I.no, I.n1, I.o1, fun i k r1 h1 h2 => ?_⟩
  · rw [List.nodup_append]
    exact ⟨I.nd, by simp, fun x hx y hy => by rw [List.mem_singleton] at hy; have := kl x hx; omega⟩
  · intro k hk
    rcases List.mem_append.mp hk with hk | hk
    · exact I.ap k hk
    · rw [List.mem_singleton] at hk
      omega
  · by_cases q : i < ks.length
    · rw [List.getElem?_append_left q] at h1
      rw [List.getElem?_append_left (by rw [← I.len]; exact q)] at h2
      have km := List.mem_of_getElem? h1
      rw [List.getElem?_set_ne (Ne.symm (I.ap k km).2.1), List.getElem?_append_left (kl k km)]
      exact I.row i k r1 h1 h2
    · have hi : i = ks.length := by
        have := (List.getElem?_eq_some_iff.mp h1).1
        rw [List.length_append, List.length_singleton] at this
        omega
      subst hi
      rw [List.getElem?_append_right (Nat.le_refl _), Nat.sub_self] at h1
      rw [I.len, List.getElem?_append_right (Nat.le_refl _), Nat.sub_self] at h2
      simp at h1 h2
      subst h1 h2
      rw [List.getElem?_set_ne (by omega), List.getElem?_append_right (by omega), show T.length + 1 - T.length = 1 by omega]
      rfl
end
/-- what is good of rows, of the free places -/
def GOk (S R : Nat) (G : List (List Nat)) : Prop := ∀ r ∈ G, r.length = S ∧ ∀ x ∈ r, x < R
def FOk (S n : Nat) (F : List (Nat × Nat)) : Prop := ∀ p ∈ F, p.1 < n ∧ p.2 < S
theorem GOk.set {S R : Nat} {G : List (List Nat)} (h : GOk S R G) {i k x : Nat} {r : List Nat} (hr : G[i]? = some r) (hx : x < R) : GOk S R (G.set i (r.set k x)) := fun q hq => by
  rcases List.mem_or_eq_of_mem_set hq with hq | rfl
  · exact h q hq
  · have := h r (List.mem_of_getElem? hr)
    refine ⟨by rw [List.length_set]; exact this.1, fun y hy => ?_⟩
    rcases List.mem_or_eq_of_mem_set hy with hy | rfl
    · exact this.2 y hy
    · exact hx
theorem map_set_nD {r : List Nat} {k x : Nat} : (r.map nD).set k (.int (x : Nat)) = (r.set k x).map nD := by
  rw [List.map_set]
  rfl
theorem map_erase {A B : Type} (f : A → B) : ∀ (l : List A) (i : Nat), (l.eraseIdx i).map f = (l.map f).eraseIdx i
  | [], i => by simp
  | a :: l, 0 => rfl
  | a :: l, i + 1 => by simp [map_erase f l i]
/-- one row's sign is set -/
theorem put_row {g T : IH} {n0 o S R : Nat} {G : List (List Nat)} {ks : List Nat} {z c : Cell} (I : GInv g n0 o T G ks) (gk : GOk S R G) {i k x : Nat} (hi : i < G.length) (hk : k < S) (hx : x < R) :
    ∃ T' G', (∃ a, dIx (.ref (o + 2)) (.int (i : Nat)) (z :: c :: T) = .ok (.ref a) (z :: c :: T) ∧ putD (.ref a) (.int (k : Nat)) (.int (x : Nat)) (z :: c :: T) = some (z :: c :: T')) ∧ GInv g n0 o T' G' ks ∧ GOk S R G' ∧ G'.length = G.length ∧ T'[n0]? = T[n0]? ∧ T'.length = T.length := by
  have hG : G[i]? = some G[i] := List.getElem?_eq_getElem hi
  obtain ⟨kk, h1, h2, h3⟩ := I.at hG
  have rl := (gk _ (List.mem_of_getElem? hG)).1
  refine ⟨T.set kk (.lst ((G[i].set k x).map nD)), G.set i (G[i].set k x), ⟨kk + 2, ?_, ?_⟩, I.put h1 (r := G[i]) _, gk.set hG hx, List.length_set, List.getElem?_set_ne (I.ap kk h2).1, List.length_set⟩
  · exact dIx_ref (n := o + 2) (xs := ks.map kR) I.out (by omega) (by rw [Int.toNat_natCast, List.getElem?_map, h1]; rfl)
  · rw [putD_ref (n := kk + 2) (xs := G[i].map nD) h3 (by omega) (by rw [List.length_map]; omega), Int.toNat_natCast, map_set_nD]
    rfl
theorem ints_flat (S : Nat) : (List.replicate S [D.int 0]).flatten = (List.replicate S 0).map nD := by
  induction S with
  | zero => rfl
  | succ n ih => rw [List.replicate_succ, List.flatten_cons, ih, List.replicate_succ]; rfl
theorem goes_turn {b : Nat} {z c : Cell} {g T : IH} {n0 o S R mn i : Nat} {G : List (List Nat)} {ks : List Nat} {F : List (Nat × Nat)} {x7 x8 x9 x10 : Option D} (s1 : 1 ≤ S) (s6 : S ≤ 6) (i1 : i < R) (r32 : R ≤ 32) (gi : G.length = i) (I : GInv g n0 o T G ks) (gk : GOk S R G) (fk : FOk S i F) (fl : S ≤ F.length) (fl2 : F.length ≤ S * i)
    (hf : T[n0]? = some (.lst (F.map pE))) (hp : Pn (b + 2) c) :
    ∃ (T' : IH) (G' : List (List Nat)) (ks' : List Nat) (F' : List (Nat × Nat)) (c' : Cell) (y7 y8 y9 y10 : Option D), b__law_goes_3 [some (.ref 1), some (.int (S : Nat)), some (.int (R : Nat)), some (.int (mn : Nat)), some (.ref (n0 + 2)), some (.ref (o + 2)), some (.int (i : Nat)), x7, x8, x9, x10] (z :: c :: T) =
      .nx [some (.ref 1), some (.int (S : Nat)), some (.int (R : Nat)), some (.int (mn : Nat)), some (.ref (n0 + 2)), some (.ref (o + 2)), some (.int (i : Nat)), y7, y8, y9, y10] (z :: c' :: T') ∧ GInv g n0 o T' G' ks' ∧ GOk S R G' ∧ FOk S (i + 1) F' ∧ G'.length = i + 1 ∧ S ≤ F'.length ∧ F'.length ≤ S * (i + 1) ∧ T'[n0]? = some (.lst (F'.map pE)) ∧ Pn b c' := by
  have hS : S * i ≤ 6 * 32 := Nat.mul_le_mul s6 (by omega)
  obtain ⟨u, c1, e1, u1, p1⟩ := draw_call (b := b + 1) (z := z) (x := c) (t := T) (m := (S : Nat)) hp (by omega) (by omega)
  obtain ⟨v, c2, e2, v1, p2⟩ := draw_call (b := b) (z := z) (x := c1) (t := T) (m := (F.length : Nat)) p1 (by omega) (by omega)
  have bl : ∀ c : Cell, bLen [.ref (n0 + 2)] (z :: c :: T) = .ok (.int (F.length : Nat)) (z :: c :: T) := fun c => by
    rw [bLen_ref (n := n0 + 2) (xs := F.map pE) hf, List.length_map]
  obtain ⟨pk, c3, pl, p3, epk⟩ : ∃ (pk : Nat) (c3 : Cell), pk < F.length ∧ Pn b c3 ∧ ∀ s2 : MS, ∀ r : RS, s2 [some (.ref 1), some (.int (S : Nat)), some (.int (R : Nat)), some (.int (mn : Nat)), some (.ref (n0 + 2)), some (.ref (o + 2)), some (.int (i : Nat)), some (.int (pk : Nat)), x8, x9, x10] (z :: c3 :: T) = r →
      msCons (msSet 7 (mOp dSub (mOp dSub (mB bLen (mCons (mVar 4) (mNil))) (mC (.int 1))) (mCall 2 (m__law_take) (mCons (mVar 0) (mCons (mVar 1) (mNil))))))
        (msCons (msIf (mTb (mOp (dEq false) (mVar 3) (mC (.int 0)))) (msSet 7 (mCall 2 (m__law_take) (mCons (mVar 0) (mCons (mB bLen (mCons (mVar 4) (mNil))) (mNil))))) (msNil)) s2) [some (.ref 1), some (.int (S : Nat)), some (.int (R : Nat)), some (.int (mn : Nat)), some (.ref (n0 + 2)), some (.ref (o + 2)), some (.int (i : Nat)), x7, x8, x9, x10] (z :: c :: T) = r := by
    have w1 : (F.length : Nat) - 1 - (u : Nat) = (((F.length - 1 - u : Nat) : Int)) := by omega
    have st1 : msSet 7 (mOp dSub (mOp dSub (mB bLen (mCons (mVar 4) (mNil))) (mC (.int 1))) (mCall 2 (m__law_take) (mCons (mVar 0) (mCons (mVar 1) (mNil))))) [some (.ref 1), some (.int (S : Nat)), some (.int (R : Nat)), some (.int (mn : Nat)), some (.ref (n0 + 2)), some (.ref (o + 2)), some (.int (i : Nat)), x7, x8, x9, x10] (z :: c :: T) = .nx [some (.ref 1), some (.int (S : Nat)), some (.int (R : Nat)), some (.int (mn : Nat)), some (.ref (n0 + 2)), some (.ref (o + 2)), some (.int (i : Nat)), some (.int ((F.length - 1 - u : Nat) : Int)), x8, x9, x10] (z :: c1 :: T) := by
      rw [← w1]
      simp [bl, e1]
    by_cases q : mn = 0
    · refine ⟨v, c2, by omega, p2, fun s2 r hr => ?_⟩
      refine stS st1 ?_
      refine stS ?_ hr
      simp [q, bl, e2]
    · refine ⟨F.length - 1 - u, c1, by omega, p1.mono (by omega), fun s2 r hr => ?_⟩
      refine stS st1 ?_
      refine stS ?_ hr
      have q' : ¬ (mn : Int) = 0 := by omega
      simp [q]
  have eF : F[pk]? = some F[pk] := List.getElem?_eq_getElem pl
  have fp := fk _ (List.getElem_mem pl)
  generalize hp0 : F[pk] = p at *
  have po : fPopAt (.ref (n0 + 2)) [.int (pk : Nat)] (z :: c3 :: T) = .ok (pE p) (z :: c3 :: T.set n0 (.lst ((F.eraseIdx pk).map pE))) := by
    have hh : (z :: c3 :: T)[n0 + 2]? = some (.lst (F.map pE)) := hf
    unfold fPopAt
    dsimp only
    rw [hh]
    dsimp only
    rw [List.length_map, show ixN F.length (pk : Int) = some pk by unfold ixN; rw [if_pos (by omega)]; simp; exact pl]
    dsimp only
    rw [List.getElem?_map, eF]
    dsimp only [Option.map]
    rw [if_pos (by omega), ← map_erase]
    rfl
  have I1 := I.free (.lst ((F.eraseIdx pk).map pE))
  have nl := (List.getElem?_eq_some_iff.mp hf).1
  have f1 : (T.set n0 (.lst ((F.eraseIdx pk).map pE)))[n0]? = some (.lst ((F.eraseIdx pk).map pE)) := List.getElem?_set_self nl
  generalize T.set n0 (.lst ((F.eraseIdx pk).map pE)) = T1 at *
  obtain ⟨T2, G2, ⟨a, d1, d2⟩, I2, gk2, gl2, f2, tl2⟩ := put_row (z := z) (c := c3) I1 gk (i := p.1) (k := p.2) (x := i) (by omega) (by omega) i1
  rw [f1] at f2
  have nl2 := (List.getElem?_eq_some_iff.mp f2).1
  have I3 := I2.grow (.lst [.int 0]) (List.replicate S 0) nl2
  have gk3 : GOk S R (G2 ++ [List.replicate S 0]) := fun r hr => by
    rcases List.mem_append.mp hr with hr | hr
    · exact gk2 r hr
    · rw [List.mem_singleton] at hr
      subst hr
      exact ⟨by simp, fun x hx => by have := List.eq_of_mem_replicate hx; omega⟩
  have mu : dMul (.ref (T2.length + 2)) (.int (S : Nat)) (z :: c3 :: (T2 ++ [.lst [.int 0]])) = .ok (.ref (T2.length + 3)) (z :: c3 :: (T2 ++ [.lst [.int 0], .lst ((List.replicate S 0).map nD)])) := by
    unfold dMul
    dsimp only
    rw [show (z :: c3 :: (T2 ++ [Cell.lst [D.int 0]]))[T2.length + 2]? = some (.lst [.int 0]) by simp]
    dsimp only
    rw [if_pos ⟨by omega, by omega, by simp; omega⟩, Int.toNat_natCast, ints_flat]
    simp
  have oe : (z :: c3 :: (T2 ++ [Cell.lst [D.int 0], .lst ((List.replicate S 0).map nD)]))[o + 2]? = some (.lst (ks.map kR)) := by
    show (T2 ++ _)[o]? = _
    rw [List.getElem?_append_left (List.getElem?_eq_some_iff.mp I2.out).1]
    exact I2.out
  have kl : ks.length ≤ 32 := by rw [I2.len, gl2]; omega
  have ty5 : tyD "list" (z :: c3 :: T2) (.ref (o + 2)) = true := tyD_ref (n := o + 2) (xs := ks.map kR) I2.out
  have ap : fAppend (.ref (o + 2)) [.ref (T2.length + 3)] (z :: c3 :: (T2 ++ [.lst [.int 0], .lst ((List.replicate S 0).map nD)])) = .ok .non (z :: c3 :: (T2 ++ [Cell.lst [.int 0], Cell.lst ((List.replicate S 0).map nD)]).set o (.lst ((ks ++ [T2.length + 1]).map kR))) := by
    rw [append_at oe (by simp; omega)]
    rw [show ks.map kR ++ [D.ref (T2.length + 3)] = (ks ++ [T2.length + 1]).map kR by simp [kR]]
    rfl
  have f3 : ((T2 ++ [Cell.lst [.int 0], Cell.lst ((List.replicate S 0).map nD)]).set o (.lst ((ks ++ [T2.length + 1]).map kR)))[n0]? = some (.lst ((F.eraseIdx pk).map pE)) := by
    rw [List.getElem?_set_ne (Ne.symm I2.no), List.getElem?_append_left nl2]
    exact f2
  generalize (T2 ++ [Cell.lst [.int 0], Cell.lst ((List.replicate S 0).map nD)]).set o (.lst ((ks ++ [T2.length + 1]).map kR)) = T3 at *
  have comp := lcF_map (ws := [10]) (gg := gSet 10) (m := e__law_goes_2) (ds := intsFrom 0 S) (h := z :: c3 :: T3) (env := [some (.ref 1), some (.int (S : Nat)), some (.int (R : Nat)), some (.int (mn : Nat)), some (.ref (n0 + 2)), some (.ref (o + 2)), some (.int (i : Nat)), some (.int (pk : Nat)), some (.int (p.1 : Nat)), some (.int (p.2 : Nat)), x10]) (it := iRange1 (mCons (mVar 1) (mNil))) (fun d => D.tup [.int (i : Nat), d]) (iRange1_of (j := (S : Nat)) (k := S) (by simp) rfl (by omega)) (by simp; omega) (fun d hd => by
    obtain ⟨j, hj⟩ := List.mem_iff_getElem?.mp hd
    obtain ⟨_, rfl⟩ := intsFrom_get hj
    rfl) (fun d hd => by
    obtain ⟨j, hj⟩ := List.mem_iff_getElem?.mp hd
    obtain ⟨_, rfl⟩ := intsFrom_get hj
    refine ⟨_, rfl, fun w => ?_⟩
    unfold e__law_goes_2
    simp [wipeE, gSet])
  have newE : (intsFrom 0 S).map (fun d => D.tup [.int (i : Nat), d]) = ((List.range S).map fun k => (i, k)).map pE := by
    rw [intsFrom_nD, List.map_map, List.map_map]
    rfl
  rw [newE] at comp
  have fel : (F.eraseIdx pk).length = F.length - 1 := by rw [List.length_eraseIdx, if_pos pl]
  have ty4 : tyD "list" (z :: c3 :: T3) (.ref (n0 + 2)) = true := tyD_ref (n := n0 + 2) (xs := (F.eraseIdx pk).map pE) f3
  have exd : fExtend (.ref (n0 + 2)) [.fl (((List.range S).map fun k => (i, k)).map pE)] (z :: c3 :: T3) = .ok .non (z :: c3 :: T3.set n0 (.lst ((F.eraseIdx pk ++ (List.range S).map fun k => (i, k)).map pE))) := by
    have hh : (z :: c3 :: T3)[n0 + 2]? = some (.lst ((F.eraseIdx pk).map pE)) := f3
    unfold fExtend
    dsimp only
    rw [hh]
    show (if _ then _ else _) = _
    rw [if_pos (by simp; omega), ← List.map_append]
    rfl
  have nl3 := (List.getElem?_eq_some_iff.mp f3).1
  have I4 := I3.free (.lst ((F.eraseIdx pk ++ (List.range S).map fun k => (i, k)).map pE))
  refine ⟨_, _, _, F.eraseIdx pk ++ (List.range S).map fun k => (i, k), c3, some (.int (pk : Nat)), some (.int (p.1 : Nat)), some (.int (p.2 : Nat)), x10, ?_, I4, gk3, ?_, by simp [gl2]; omega, by simp, ?_, List.getElem?_set_self nl3, p3⟩
  · unfold b__law_goes_3
    refine epk _ _ ?_
    refine stS (env2 := [some (.ref 1), some (.int (S : Nat)), some (.int (R : Nat)), some (.int (mn : Nat)), some (.ref (n0 + 2)), some (.ref (o + 2)), some (.int (i : Nat)), some (.int (pk : Nat)), some (.int (p.1 : Nat)), some (.int (p.2 : Nat)), x10]) (h2 := z :: c3 :: T1) (by
      have ty0 : tyD "list" (z :: c3 :: T) (.ref (n0 + 2)) = true := tyD_ref (n := n0 + 2) (xs := F.map pE) hf
      unfold pE at po
      simp [ty0, po, gSets]) ?_
    refine stS (env2 := [some (.ref 1), some (.int (S : Nat)), some (.int (R : Nat)), some (.int (mn : Nat)), some (.ref (n0 + 2)), some (.ref (o + 2)), some (.int (i : Nat)), some (.int (pk : Nat)), some (.int (p.1 : Nat)), some (.int (p.2 : Nat)), x10]) (h2 := z :: c3 :: T2) (by simp [d1, d2]) ?_
    refine stS (env2 := [some (.ref 1), some (.int (S : Nat)), some (.int (R : Nat)), some (.int (mn : Nat)), some (.ref (n0 + 2)), some (.ref (o + 2)), some (.int (i : Nat)), some (.int (pk : Nat)), some (.int (p.1 : Nat)), some (.int (p.2 : Nat)), x10]) (h2 := z :: c3 :: T3) (by
      generalize (List.replicate S 0).map nD = RR at *
      simp [ty5, newL, mu, ap]) ?_
    generalize T3.set n0 (.lst ((F.eraseIdx pk ++ (List.range S).map fun k => (i, k)).map pE)) = T4 at *
    generalize ((List.range S).map fun k => (i, k)).map pE = NN at *
    generalize mFz (mLc (iRange1 (mCons (mVar 1) (mNil))) (gSet 10) mYes e__law_goes_2 [10]) = CC at *
    simp [ty4, comp, exd]
  · intro q hq
    rcases List.mem_append.mp hq with hq | hq
    · have := fk q ((List.eraseIdx_sublist _ _).subset hq)
      omega
    · obtain ⟨k, hk, rfl⟩ := List.mem_map.mp hq
      have := List.mem_range.mp hk
      exact ⟨by show i < i + 1; omega, this⟩
  · rw [List.length_append, fel, List.length_map, List.length_range, Nat.mul_succ]
    omega
end NR

set_option Elab.async false
set_option linter.all false
set_option maxRecDepth 100000
set_option maxHeartbeats 4000000
namespace NR
open PySem PySem.Spec PyProof.Rows L2
theorem goes_loop {z : Cell} {g : IH} {n0 o S R mn : Nat} (s1 : 1 ≤ S) (s6 : S ≤ 6) (r32 : R ≤ 32) : ∀ (n i b : Nat) (c : Cell) (T : IH) (G : List (List Nat)) (ks : List Nat) (F : List (Nat × Nat)) (x6 x7 x8 x9 x10 : Option D), i + n = R → G.length = i → GInv g n0 o T G ks → GOk S R G → FOk S i F → S ≤ F.length → F.length ≤ S * i → T[n0]? = some (Cell.lst (F.map pE)) → Pn (b + 2 * n) c →
    ∃ (T' : IH) (G' : List (List Nat)) (ks' : List Nat) (F' : List (Nat × Nat)) (c' : Cell) (y6 y7 y8 y9 y10 : Option D), forL (gSet 6) b__law_goes_3 (intsFrom (i : Nat) n) [some (.ref 1), some (.int (S : Nat)), some (.int (R : Nat)), some (.int (mn : Nat)), some (.ref (n0 + 2)), some (.ref (o + 2)), x6, x7, x8, x9, x10] (z :: c :: T) =
      .nx [some (.ref 1), some (.int (S : Nat)), some (.int (R : Nat)), some (.int (mn : Nat)), some (.ref (n0 + 2)), some (.ref (o + 2)), y6, y7, y8, y9, y10] (z :: c' :: T') ∧ GInv g n0 o T' G' ks' ∧ GOk S R G' ∧ FOk S R F' ∧ G'.length = R ∧ F'.length ≤ S * R ∧ T'[n0]? = some (Cell.lst (F'.map pE)) ∧ Pn b c'
  | 0, i, b, c, T, G, ks, F, x6, x7, x8, x9, x10, hi, gi, I, gk, fk, fl, fl2, hf, hp => ⟨T, G, ks, F, c, x6, x7, x8, x9, x10, rfl, I, gk, by rw [← hi]; exact fk, by omega, by rw [← hi]; exact fl2, hf, hp⟩
  | n + 1, i, b, c, T, G, ks, F, x6, x7, x8, x9, x10, hi, gi, I, gk, fk, fl, fl2, hf, hp => by
    obtain ⟨T1, G1, ks1, F1, c1, y7, y8, y9, y10, e, I1, gk1, fk1, gl1, fl1, fl3, hf1, p1⟩ := goes_turn (b := b + 2 * n) (z := z) (mn := mn) (i := i) (x7 := x7) (x8 := x8) (x9 := x9) (x10 := x10) s1 s6 (by omega) r32 gi I gk fk fl fl2 hf hp
    obtain ⟨T', G', ks', F', c', w6, w7, w8, w9, w10, el, q1, q2, q3, q4, q5, q6, q7⟩ := goes_loop (z := z) (mn := mn) s1 s6 r32 n (i + 1) b c1 T1 G1 ks1 F1 (some (.int (i : Nat))) y7 y8 y9 y10 (by omega) gl1 I1 gk1 fk1 fl1 fl3 hf1 p1
    refine ⟨T', G', ks', F', c', w6, w7, w8, w9, w10, ?_, q1, q2, q3, q4, q5, q6, q7⟩
    rw [intsFrom_succ, forL_cons (e1 := [some (.ref 1), some (.int (S : Nat)), some (.int (R : Nat)), some (.int (mn : Nat)), some (.ref (n0 + 2)), some (.ref (o + 2)), some (.int (i : Nat)), x7, x8, x9, x10]) rfl, e, on_nx, show ((i : Int) + 1) = ((i + 1 : Nat) : Int) by omega]
    exact el
theorem fill_loop {z : Cell} {g : IH} {n0 o S R mn : Nat} {v4 : D} (r1 : 1 ≤ R) (r32 : R ≤ 32) : ∀ (F : List (Nat × Nat)) (b : Nat) (c : Cell) (T : IH) (G : List (List Nat)) (ks : List Nat) (x6 x7 x8 x9 x10 : Option D), G.length = R → GInv g n0 o T G ks → GOk S R G → FOk S R F → Pn (b + F.length) c →
    ∃ (T' : IH) (G' : List (List Nat)) (ks' : List Nat) (c' : Cell) (y8 y9 : Option D), forL (gSets [8, 9]) b__law_goes_4 (F.map pE) [some (.ref 1), some (.int (S : Nat)), some (.int (R : Nat)), some (.int (mn : Nat)), some v4, some (.ref (o + 2)), x6, x7, x8, x9, x10] (z :: c :: T) =
      .nx [some (.ref 1), some (.int (S : Nat)), some (.int (R : Nat)), some (.int (mn : Nat)), some v4, some (.ref (o + 2)), x6, x7, y8, y9, x10] (z :: c' :: T') ∧ GInv g n0 o T' G' ks' ∧ GOk S R G' ∧ G'.length = R ∧ Pn b c'
  | [], b, c, T, G, ks, x6, x7, x8, x9, x10, gl, I, gk, fk, hp => ⟨T, G, ks, c, x8, x9, rfl, I, gk, gl, hp⟩
  | p :: F, b, c, T, G, ks, x6, x7, x8, x9, x10, gl, I, gk, fk, hp => by
    rw [List.length_cons] at hp
    obtain ⟨u, c1, e1, u1, p1⟩ := draw_call (b := b + F.length) (z := z) (x := c) (t := T) (m := (R : Nat)) (hp.mono (by omega)) (by omega) (by omega)
    have fp := fk p List.mem_cons_self
    obtain ⟨T1, G1, ⟨a, d1, d2⟩, I1, gk1, gl1, _, _⟩ := put_row (z := z) (c := c1) I gk (i := p.1) (k := p.2) (x := u) (by omega) fp.2 (by omega)
    obtain ⟨T', G', ks', c', y8, y9, el, q1, q2, q3, q4⟩ := fill_loop (z := z) (v4 := v4) (mn := mn) r1 r32 F b c1 T1 G1 ks x6 x7 (some (.int (p.1 : Nat))) (some (.int (p.2 : Nat))) x10 (by omega) I1 gk1 (fun q hq => fk q (List.mem_cons_of_mem _ hq)) p1
    refine ⟨T', G', ks', c', y8, y9, ?_, q1, q2, q3, q4⟩
    rw [List.map_cons, forL_cons (e1 := [some (.ref 1), some (.int (S : Nat)), some (.int (R : Nat)), some (.int (mn : Nat)), some v4, some (.ref (o + 2)), x6, x7, some (.int (p.1 : Nat)), some (.int (p.2 : Nat)), x10]) (by simp [gSets, pE])]
    have e : b__law_goes_4 [some (.ref 1), some (.int (S : Nat)), some (.int (R : Nat)), some (.int (mn : Nat)), some v4, some (.ref (o + 2)), x6, x7, some (.int (p.1 : Nat)), some (.int (p.2 : Nat)), x10] (z :: c :: T) = .nx [some (.ref 1), some (.int (S : Nat)), some (.int (R : Nat)), some (.int (mn : Nat)), some v4, some (.ref (o + 2)), x6, x7, some (.int (p.1 : Nat)), some (.int (p.2 : Nat)), x10] (z :: c1 :: T1) := by
      unfold b__law_goes_4
      simp [e1, d1, d2]
    rw [e, on_nx]
    exact el
/-- rows locked -/
theorem dz_rows {z c : Cell} {g : IH} : ∀ (ks : List Nat) (G : List (List Nat)) (T : IH) (k : Nat), ks.length = G.length → ks.Nodup → (∀ k ∈ ks, g.length ≤ k) → (∃ t, T = g ++ t) → (∀ (i k : Nat) (r : List Nat), ks[i]? = some k → G[i]? = some r → T[k]? = some (Cell.lst (r.map nD))) → (∀ r ∈ G, r.length ≤ 10) → ks.length + 20 ≤ k →
    ∃ t', dzL (g.length + 2) k (z :: c :: T) (ks.map kR) = some (G.map rF, z :: c :: (g ++ t'))
  | [], [], T, k + 1, _, _, _, ⟨t, ht⟩, _, _, _ => ⟨t, by unfold dzL; rw [ht]; rfl⟩
  | [], _ :: _, T, k, l, _, _, _, _, _, _ => by cases l
  | _ :: _, [], T, k, l, _, _, _, _, _, _ => by cases l
  | _, _, _, 0, _, _, _, _, _, _, l => by omega
  | k0 :: ks, r :: G, T, k + 1, l, nd, ge, ex, row, rl, lk => by
    rw [List.length_cons] at lk
    have h0 := row 0 k0 r rfl rfl
    have d1 := dzD_new (m := 1) (b := g.length + 2) (k := k) (n := k0 + 2) (h := z :: c :: T) (xs := r.map nD) (by have := ge k0 List.mem_cons_self; omega) h0 (fun d hd => by
      obtain ⟨x, _, rfl⟩ := List.mem_map.mp hd
      exact Fz_nD) (by have := rl r List.mem_cons_self; rw [List.length_map]; omega)
    rw [show (z :: c :: T).set (k0 + 2) (.frz (r.map nD)) = z :: c :: T.set k0 (.frz (r.map nD)) from rfl] at d1
    rw [List.nodup_cons] at nd
    obtain ⟨t', e⟩ := dz_rows (z := z) (c := c) (g := g) ks G (T.set k0 (.frz (r.map nD))) k (by simpa using l) nd.2 (fun k hk => ge k (List.mem_cons_of_mem _ hk)) (ex_set ex (ge k0 List.mem_cons_self)) (fun i k' r' h1 h2 => by
      have : k0 ≠ k' := fun q => nd.1 (q ▸ List.mem_of_getElem? h1)
      rw [List.getElem?_set_ne this]
      exact row (i + 1) k' r' h1 h2) (fun r hr => rl r (List.mem_cons_of_mem _ hr)) (by omega)
    refine ⟨t', ?_⟩
    rw [List.map_cons, List.map_cons]
    unfold dzL kR
    rw [d1]
    dsimp only
    unfold kR at e
    rw [e]
    rfl
theorem dz_goes {z c c' : Cell} {g T : IH} {n0 o S R : Nat} {G : List (List Nat)} {ks : List Nat} (I : GInv g n0 o T G ks) (gk : GOk S R G) (s6 : S ≤ 6) (gl : G.length ≤ 32) (lo : Cell.lo (g.length + 2) c' = true) : dzR (z :: c :: g) (.ok (.ref (o + 2)) (z :: c' :: T)) = .ok (.fl (G.map rF)) (z :: c' :: g) := by
  obtain ⟨t', e⟩ := dz_rows (z := z) (c := c') (g := g) ks G (T.set o (.frz (ks.map kR))) 999 I.len I.nd (fun k hk => (I.ap k hk).2.2) (ex_set I.ex I.o1) (fun i k r h1 h2 => by
    rw [List.getElem?_set_ne (Ne.symm (I.ap k (List.mem_of_getElem? h1)).2.1)]
    exact I.row i k r h1 h2) (fun r hr => by have := (gk r hr).1; omega) (by rw [I.len]; omega)
  have hb : (z :: c :: g).length = g.length + 2 := rfl
  rw [dzR_of (d' := .fl (G.map rF)) (h2 := z :: c' :: (g ++ t')) ?_ ?_ ?_]
  · rw [hb]
    simp
  · rw [hb]
    have o1 := I.o1
    have oo : (z :: c' :: T)[o + 2]? = some (.lst (ks.map kR)) := I.out
    unfold dzD
    rw [if_pos (by omega), oo]
    dsimp only
    rw [show (z :: c' :: T).set (o + 2) (.frz (ks.map kR)) = z :: c' :: T.set o (.frz (ks.map kR)) from rfl, e]
  · rw [hb]
    unfold D.lo
    exact loL_of fun x hx => by
      obtain ⟨r, _, rfl⟩ := List.mem_map.mp hx
      simp [rF]
  · rw [hb]
    simp [lo]
theorem goes_call {b : Nat} {z c : Cell} {g : IH} {S R : Nat} (s1 : 1 ≤ S) (s6 : S ≤ 6) (r1 : 1 ≤ R) (r32 : R ≤ 32) (hp : Pn (b + 300) c) :
    ∃ (G : List (List Nat)) (c' : Cell) (k : Nat) (T : IH), callC 3 m__law_goes [.ref 1, .int (S : Nat), .int (R : Nat)] (z :: c :: g) = .ok (.ref k) (z :: c' :: T) ∧ dzR (z :: c :: g) (.ok (.ref k) (z :: c' :: T)) = .ok (.fl (G.map rF)) (z :: c' :: g) ∧ GOk S R G ∧ G.length = R ∧ Pn b c' := by
  obtain ⟨mn, c1, e1, mn1, p1⟩ := draw_call (b := b + 299) (z := z) (x := c) (t := g) (m := 2) (hp.mono (by omega)) (by omega) (by omega)
  have n0 : ∀ x : Cell, (g ++ [x])[g.length]? = some x := fun x => get_last
  let F0 : List (Nat × Nat) := (List.range S).map fun k => (0, k)
  have comp : mLc (iRange1 (mCons (mVar 1) (mNil))) (gSet 9) mYes e__law_goes_1 [9] [some (.ref 1), some (.int (S : Nat)), some (.int (R : Nat)), some (.int (mn : Nat)), none, none, none, none, none, none, none] (z :: c1 :: g) = .ok (.ref (g.length + 2)) (z :: c1 :: (g ++ [.lst (F0.map pE)])) := by
    have ir : iRange1 (mCons (mVar 1) (mNil)) [some (.ref 1), some (.int (S : Nat)), some (.int (R : Nat)), some (.int (mn : Nat)), none, none, none, none, none, none, none] (z :: c1 :: g) = .ok (.st (intsFrom 0 S)) (z :: c1 :: g) := iRange1_of (j := (S : Nat)) (k := S) (by simp) rfl (by omega)
    rw [ap_mLc, ir]
    show lcM _ _ _ _ _ _ _ _ _ = _
    rw [lcM_map (fun d => D.tup [.int 0, d]) (by simp; omega) (fun d hd => by
      obtain ⟨j, hj⟩ := List.mem_iff_getElem?.mp hd
      obtain ⟨_, rfl⟩ := intsFrom_get hj
      refine ⟨_, rfl, fun w => ?_⟩
      unfold e__law_goes_1
      simp [wipeE, gSet])]
    have : (intsFrom 0 S).map (fun d => D.tup [.int 0, d]) = F0.map pE := by
      rw [intsFrom_nD, List.map_map, List.map_map]
      rfl
    rw [this]
    rfl
  have T0 : IH := g
  have mu : dMul (.ref (g.length + 3)) (.int (S : Nat)) (z :: c1 :: (g ++ [.lst (F0.map pE), .lst [.int 0]])) = .ok (.ref (g.length + 4)) (z :: c1 :: (g ++ [.lst (F0.map pE), .lst [.int 0], .lst ((List.replicate S 0).map nD)])) := by
    unfold dMul
    dsimp only
    rw [show (z :: c1 :: (g ++ [Cell.lst (F0.map pE), Cell.lst [D.int 0]]))[g.length + 3]? = some (.lst [.int 0]) by simp]
    dsimp only
    rw [if_pos ⟨by omega, by omega, by simp; omega⟩, Int.toNat_natCast, ints_flat]
    simp
  have I0 : GInv g g.length (g.length + 3) (g ++ [.lst (F0.map pE), .lst [.int 0], .lst ((List.replicate S 0).map nD), .lst [.ref (g.length + 4)]]) [List.replicate S 0] [g.length + 2] := by
    refine ⟨⟨_, rfl⟩, by rw [get_app]; rfl, rfl, by simp, by simp, by omega, by omega, by omega, fun i k r h1 h2 => ?_⟩
    cases i with
    | zero =>
      simp at h1 h2
      subst h1 h2
      rw [get_app]
      simp
    | succ i => simp at h1
  have gk0 : GOk S R [List.replicate S 0] := fun r hr => by
    rw [List.mem_singleton] at hr
    subst hr
    exact ⟨by simp, fun x hx => by have := List.eq_of_mem_replicate hx; omega⟩
  have F0l : F0.length = S := by simp [F0]
  have fk0 : FOk S 1 F0 := fun p hp => by
    obtain ⟨k, hk, rfl⟩ := List.mem_map.mp hp
    exact ⟨Nat.zero_lt_one, List.mem_range.mp hk⟩
  obtain ⟨T1, G1, ks1, F1, c2, y6, y7, y8, y9, y10, el, I1, gk1, fk1, gl1, fl1, hf1, p2⟩ := goes_loop (z := z) (mn := mn) s1 s6 r32 (R - 1) 1 (b + 200) c1 _ _ _ F0 none none none none none (by omega) rfl I0 gk0 fk0 (by omega) (by omega) (by rw [get_app0]; rfl) (p1.mono (by omega))
  have SR : S * R ≤ 6 * 32 := Nat.mul_le_mul s6 r32
  have I2 := I1.free (.frz (F1.map pE))
  obtain ⟨T2, G2, ks2, c3, w8, w9, fl, I3, gk3, gl3, p3⟩ := fill_loop (z := z) (mn := mn) (v4 := .fl (F1.map pE)) r1 r32 F1 b c2 _ G1 ks1 y6 y7 y8 y9 y10 gl1 I2 gk1 fk1 (p2.mono (by omega))
  refine ⟨G2, c3, g.length + 3 + 2, T2, callC_new rfl ?_ (by simp), dz_goes I3 gk3 s6 (by omega) (p3.lo _), gk3, gl3, p3⟩
  unfold m__law_goes
  rw [ap_fnM]
  simp only [List.map_cons, List.map_nil, List.length_cons, List.length_nil, List.cons_append, List.nil_append, Nat.reduceAdd, Nat.reduceSub, List.replicate]
  refine stN (env2 := [some (.ref 1), some (.int (S : Nat)), some (.int (R : Nat)), some (.int (mn : Nat)), none, none, none, none, none, none, none]) (h2 := z :: c1 :: g) (by simp [e1]) ?_
  refine stN (env2 := [some (.ref 1), some (.int (S : Nat)), some (.int (R : Nat)), some (.int (mn : Nat)), some (.ref (g.length + 2)), none, none, none, none, none, none]) (h2 := z :: c1 :: (g ++ [.lst (F0.map pE)])) (by
    rw [ap_msSet, comp]
    rfl) ?_
  refine stN (env2 := [some (.ref 1), some (.int (S : Nat)), some (.int (R : Nat)), some (.int (mn : Nat)), some (.ref (g.length + 2)), some (.ref (g.length + 3 + 2)), none, none, none, none, none]) (h2 := z :: c1 :: (g ++ [.lst (F0.map pE), .lst [.int 0], .lst ((List.replicate S 0).map nD), .lst [.ref (g.length + 4)]])) (by
    generalize F0.map pE = L1 at *
    generalize (List.replicate S 0).map nD = L2 at *
    simp [newL, mu]) ?_
  refine stN (env2 := [some (.ref 1), some (.int (S : Nat)), some (.int (R : Nat)), some (.int (mn : Nat)), some (.ref (g.length + 2)), some (.ref (g.length + 3 + 2)), y6, y7, y8, y9, y10]) (h2 := z :: c2 :: T1) ?_ ?_
  · refine (for_st (ds := intsFrom 1 (R - 1)) (h2 := z :: c1 :: (g ++ [.lst (F0.map pE), .lst [.int 0], .lst ((List.replicate S 0).map nD), .lst [.ref (g.length + 4)]])) ?_).trans el
    unfold iRange2
    have : ((R : Nat) - 1 : Int).toNat = R - 1 := by omega
    simp [this]
    omega
  refine stN (env2 := [some (.ref 1), some (.int (S : Nat)), some (.int (R : Nat)), some (.int (mn : Nat)), some (.fl (F1.map pE)), some (.ref (g.length + 3 + 2)), y6, y7, w8, w9, y10]) (h2 := z :: c3 :: T2) ?_ (by simp)
  rw [ap_msFz (n := g.length + 2) (xs := F1.map pE) rfl hf1]
  refine (for_st (ds := F1.map pE) (h2 := z :: c2 :: T1.set g.length (.frz (F1.map pE))) (by simp)).trans fl
end NR

set_option Elab.async false
set_option linter.all false
set_option maxRecDepth 100000
set_option maxHeartbeats 4000000
namespace NR
open PySem PySem.Spec PyProof.Rows L2
structure Tb where
  sig : List Nat
  goes : List (List Nat)
  kinds : List Int
def gT (r : List Nat) : D := .tup (r.map nD)
@[simp] theorem lo_gT {n : Nat} {r : List Nat} : D.lo n (gT r) = true := by simp [gT]
def Tb.enc (T : Tb) : D := .tup [.str T.sig, .tup (T.goes.map gT), .tup (T.kinds.map D.int)]
@[simp] theorem lo_Tb {n : Nat} {T : Tb} : D.lo n T.enc = true := by simp [Tb.enc]
structure Tb.Ok (T : Tb) : Prop where
  tg : Tgn T.sig
  g1 : 1 ≤ T.goes.length
  g2 : T.goes.length ≤ 32
  row : ∀ r ∈ T.goes, r.length = T.sig.length ∧ ∀ x ∈ r, x < T.goes.length
  kl : T.kinds.length = T.goes.length
  k0 : T.kinds[0]? = some (-1)
  kk : ∀ k ∈ T.kinds, -1 ≤ k ∧ k ≤ 5
theorem pop_ix {h : IH} {n k : Nat} {xs : List D} {d : D} (e : h[n]? = some (.lst xs)) (ed : xs[k]? = some d) (l : xs.length ≤ 10000000) : fPopAt (.ref n) [.int (k : Nat)] h = .ok d (h.set n (.lst (xs.eraseIdx k))) := by
  have hk := (List.getElem?_eq_some_iff.mp ed).1
  unfold fPopAt
  dsimp only
  rw [e]
  dsimp only
  rw [show ixN xs.length (k : Int) = some k by unfold ixN; rw [if_pos (by omega)]; simp; exact hk]
  dsimp only
  rw [ed]
  dsimp only
  rw [if_pos (by omega)]
theorem erase_perm : ∀ {l : List Nat} {i : Nat} {x : Nat}, l[i]? = some x → (x :: l.eraseIdx i).Perm l
  | [], i, x, h => by simp at h
  | a :: l, 0, x, h => by
    simp at h
    subst h
    exact List.Perm.refl _
  | a :: l, i + 1, x, h => by
    have ih := erase_perm (l := l) (i := i) (x := x) (by simpa using h)
    rw [List.eraseIdx_cons_succ]
    exact (List.Perm.swap a x _).trans (ih.cons a)
theorem place_loop {z : Cell} {g : IH} {e1 e2 e5 e6 e7 e8 e9 : Option D} {R : Nat} : ∀ (n b : Nat) (c : Cell) (Rs P : List Nat), Rs.length = n → n ≤ 100 → P.length ≤ 1000 → P.length + n ≤ 1000 → P[0]? = some 0 → (P ++ Rs).Perm (List.range R) → Pn (b + n) c →
    ∃ (P' : List Nat) (c' : Cell), msWhile t__law_shuffled_1 b__law_shuffled_2 [some (.ref 1), e1, e2, some (.ref (g.length + 2)), some (.ref (g.length + 3)), e5, e6, e7, e8, e9] (z :: c :: (g ++ [.lst (Rs.map nD), .lst (P.map nD)])) =
      .nx [some (.ref 1), e1, e2, some (.ref (g.length + 2)), some (.ref (g.length + 3)), e5, e6, e7, e8, e9] (z :: c' :: (g ++ [.lst [], .lst (P'.map nD)])) ∧ P'[0]? = some 0 ∧ P'.Perm (List.range R) ∧ Pn b c' := by
  intro n
  induction n with
  | zero =>
    intro b c Rs P hl _ _ _ p0 pm hp
    have : Rs = [] := List.length_eq_zero_iff.mp hl
    subst this
    rw [List.append_nil] at pm
    refine ⟨P, c, ?_, p0, pm, hp⟩
    have bl : bLen [.ref (g.length + 2)] (z :: c :: (g ++ [.lst [], .lst (P.map nD)])) = .ok (.int 0) (z :: c :: (g ++ [.lst [], .lst (P.map nD)])) := bLen_ref (n := g.length + 2) (xs := []) (by simp)
    rw [msWhile_eq]
    have t : t__law_shuffled_1 [some (.ref 1), e1, e2, some (.ref (g.length + 2)), some (.ref (g.length + 3)), e5, e6, e7, e8, e9] (z :: c :: (g ++ [.lst (([] : List Nat).map nD), .lst (P.map nD)])) = .ok false (z :: c :: (g ++ [.lst (([] : List Nat).map nD), .lst (P.map nD)])) := by
      unfold t__law_shuffled_1
      simp only [List.map_nil]
      generalize z :: c :: (g ++ [Cell.lst [], .lst (P.map nD)]) = H at *
      simp [bl]
    rw [t]
    rfl
  | succ n ih =>
    intro b c Rs P hl n1 pl pn p0 pm hp
    obtain ⟨u, c1, ed, u1, p1⟩ := draw_call (b := b + n) (z := z) (x := c) (t := g ++ [.lst (Rs.map nD), .lst (P.map nD)]) (m := (Rs.length : Nat)) hp (by omega) (by omega)
    have hu : u < Rs.length := by omega
    have ex : Rs[u]? = some Rs[u] := List.getElem?_eq_getElem hu
    generalize Rs[u] = x at ex
    have bl : bLen [.ref (g.length + 2)] (z :: c :: (g ++ [.lst (Rs.map nD), .lst (P.map nD)])) = .ok (.int (Rs.length : Nat)) (z :: c :: (g ++ [.lst (Rs.map nD), .lst (P.map nD)])) := by
      rw [bLen_ref (n := g.length + 2) (xs := Rs.map nD) (by simp), List.length_map]
    have po : fPopAt (.ref (g.length + 2)) [.int (u : Nat)] (z :: c1 :: (g ++ [.lst (Rs.map nD), .lst (P.map nD)])) = .ok (.int (x : Nat)) (z :: c1 :: (g ++ [.lst ((Rs.eraseIdx u).map nD), .lst (P.map nD)])) := by
      rw [pop_ix (n := g.length + 2) (xs := Rs.map nD) (d := nD x) (by simp) (by rw [List.getElem?_map, ex]; rfl) (by simp; omega), ← map_erase]
      simp [nD]
    have ap : fAppend (.ref (g.length + 3)) [.int (x : Nat)] (z :: c1 :: (g ++ [.lst ((Rs.eraseIdx u).map nD), .lst (P.map nD)])) = .ok .non (z :: c1 :: (g ++ [.lst ((Rs.eraseIdx u).map nD), .lst ((P ++ [x]).map nD)])) := by
      rw [append_at (n := g.length + 3) (xs := P.map nD) (by simp) (by simp; omega)]
      simp [nD]
    have ty3 : tyD "list" (z :: c :: (g ++ [.lst (Rs.map nD), .lst (P.map nD)])) (.ref (g.length + 2)) = true := tyD_ref (xs := Rs.map nD) (by simp)
    have ty4 : tyD "list" (z :: c :: (g ++ [.lst (Rs.map nD), .lst (P.map nD)])) (.ref (g.length + 3)) = true := tyD_ref (xs := P.map nD) (by simp)
    have pm2 : ((P ++ [x]) ++ Rs.eraseIdx u).Perm (List.range R) := by
      rw [List.append_assoc]
      exact (List.Perm.append_left P (erase_perm ex)).trans pm
    obtain ⟨P', c', el, q1, q2, q3⟩ := ih b c1 (Rs.eraseIdx u) (P ++ [x]) (by rw [List.length_eraseIdx, if_pos hu]; omega) (by omega) (by simp; omega) (by simp; omega) (by rw [List.getElem?_append_left (List.getElem?_eq_some_iff.mp p0).1]; exact p0) pm2 p1
    refine ⟨P', c', ?_, q1, q2, q3⟩
    have rp : 0 < Rs.length := by omega
    rw [msWhile_eq]
    have t : t__law_shuffled_1 [some (.ref 1), e1, e2, some (.ref (g.length + 2)), some (.ref (g.length + 3)), e5, e6, e7, e8, e9] (z :: c :: (g ++ [.lst (Rs.map nD), .lst (P.map nD)])) = .ok true (z :: c :: (g ++ [.lst (Rs.map nD), .lst (P.map nD)])) := by
      unfold t__law_shuffled_1
      generalize z :: c :: (g ++ [Cell.lst (Rs.map nD), .lst (P.map nD)]) = H at *
      generalize Rs.length = rl at *
      simp [bl, rp]
    have e : b__law_shuffled_2 [some (.ref 1), e1, e2, some (.ref (g.length + 2)), some (.ref (g.length + 3)), e5, e6, e7, e8, e9] (z :: c :: (g ++ [.lst (Rs.map nD), .lst (P.map nD)])) = .nx [some (.ref 1), e1, e2, some (.ref (g.length + 2)), some (.ref (g.length + 3)), e5, e6, e7, e8, e9] (z :: c1 :: (g ++ [.lst ((Rs.eraseIdx u).map nD), .lst ((P ++ [x]).map nD)])) := by
      unfold b__law_shuffled_2
      generalize z :: c1 :: (g ++ [Cell.lst ((Rs.eraseIdx u).map nD), .lst ((P ++ [x]).map nD)]) = H3 at *
      generalize z :: c1 :: (g ++ [Cell.lst ((Rs.eraseIdx u).map nD), .lst (P.map nD)]) = H2 at *
      have ty5 : tyD "list" (z :: c1 :: (g ++ [.lst (Rs.map nD), .lst (P.map nD)])) (.ref (g.length + 2)) = true := tyD_ref (xs := Rs.map nD) (by simp)
      generalize z :: c1 :: (g ++ [Cell.lst (Rs.map nD), .lst (P.map nD)]) = H1 at *
      generalize z :: c :: (g ++ [Cell.lst (Rs.map nD), .lst (P.map nD)]) = H at *
      generalize Rs.length = rl at *
      simp [ty3, ty4, ty5, bl, ed, po, ap]
    rw [t]
    dsimp only
    rw [e]
    exact el
/-- the new row of a room -/
def nr (P : List Nat) (r : List Nat) : List Nat := r.map fun x => P.getD x 0
theorem fillS_loop {z c : Cell} {g : IH} {hd : Option D} {G : List (List Nat)} {K : List Int} {P : List Nat} {S R : Nat} {x3 : Option D} (gk : GOk S R G) (gl : G.length = R) (kl : K.length = R) (pl : P.length = R) (r32 : R ≤ 32) (s6 : S ≤ 6) (nd : P.Nodup) (pb : ∀ x ∈ P, x < R) {t : IH} :
    ∀ (n i : Nat) (RW KW : List D) (x7 x8 x9 : Option D), i + n = R → RW.length = R → KW.length = R →
    ∃ (RW' KW' : List D) (y7 y8 : Option D), forL (gSets [7, 8]) b__law_shuffled_6 (((G.drop i).map rF).mapIdx fun j x => D.tup [.int ((i + j : Nat) : Int), x]) [hd, some (.fl (G.map rF)), some (.fl (K.map D.int)), x3, some (.fl (P.map nD)), some (.ref (t.length + 2)), some (.ref (t.length + 3)), x7, x8, x9] (z :: c :: (t ++ [.lst RW, .lst KW])) =
      .nx [hd, some (.fl (G.map rF)), some (.fl (K.map D.int)), x3, some (.fl (P.map nD)), some (.ref (t.length + 2)), some (.ref (t.length + 3)), y7, y8, x9] (z :: c :: (t ++ [.lst RW', .lst KW'])) ∧ RW'.length = R ∧ KW'.length = R ∧
      (∀ j, j < i → RW'[P.getD j 0]? = RW[P.getD j 0]? ∧ KW'[P.getD j 0]? = KW[P.getD j 0]?) ∧ (∀ j, i ≤ j → j < R → RW'[P.getD j 0]? = some (gT (nr P (G.getD j []))) ∧ KW'[P.getD j 0]? = some (.int (K.getD j 0)))
  | 0, i, RW, KW, x7, x8, x9, hi, rl, kwl => by
    rw [List.drop_eq_nil_of_le (by omega)]
    exact ⟨RW, KW, x7, x8, rfl, rl, kwl, fun j _ => ⟨rfl, rfl⟩, fun j h1 h2 => by omega⟩
  | n + 1, i, RW, KW, x7, x8, x9, hi, rl, kwl => by
    have hg : i < G.length := by omega
    have eg : G[i]? = some G[i] := List.getElem?_eq_getElem hg
    have gr := gk _ (List.getElem_mem hg)
    have ed : G.getD i [] = G[i] := by rw [List.getD_eq_getElem?_getD, eg]; rfl
    rw [List.drop_eq_getElem_cons hg]
    generalize G[i] = r at *
    have hp : i < P.length := by omega
    have ep : P[i]? = some P[i] := List.getElem?_eq_getElem hp
    have epd : P.getD i 0 = P[i] := by rw [List.getD_eq_getElem?_getD, ep]; rfl
    have pi := pb _ (List.getElem_mem hp)
    have hk : i < K.length := by omega
    have ek : K[i]? = some K[i] := List.getElem?_eq_getElem hk
    have ekd : K.getD i 0 = K[i] := by rw [List.getD_eq_getElem?_getD, ek]; rfl
    have inj : ∀ j, j < R → j ≠ i → P.getD j 0 ≠ P[i] := fun j hj ne q => by
      have hj2 : j < P.length := by omega
      rw [List.getD_eq_getElem?_getD, List.getElem?_eq_getElem hj2] at q
      have pw := List.pairwise_iff_getElem.mp nd
      rcases Nat.lt_or_gt_of_ne ne with l | l
      · exact pw j i hj2 hp l q
      · exact pw i j hp hj2 l q.symm
    generalize P[i] = p at *
    generalize K[i] = k at *
    obtain ⟨RW', KW', y7, y8, el, l1, l2, q1, q2⟩ := fillS_loop (z := z) (c := c) (g := g) (hd := hd) (x3 := x3) (t := t) gk gl kl pl r32 s6 nd pb n (i + 1) (RW.set p (gT (nr P r))) (KW.set p (.int k)) (some (.int (i : Nat))) (some (rF r)) x9 (by omega) (by simp [rl]) (by simp [kwl])
    refine ⟨RW', KW', y7, y8, ?_, l1, l2, fun j hj => ?_, fun j h1 h2 => ?_⟩
    · rw [List.map_cons, List.mapIdx_cons, forL_cons (e1 := [hd, some (.fl (G.map rF)), some (.fl (K.map D.int)), x3, some (.fl (P.map nD)), some (.ref (t.length + 2)), some (.ref (t.length + 3)), some (.int (i : Nat)), some (rF r), x9]) rfl]
      have ip : ∀ h : IH, dIx (.fl (P.map nD)) (.int (i : Nat)) h = .ok (.int (p : Nat)) h := fun h => dIx_nat (xs := P.map nD) rfl (by rw [List.getElem?_map, ep]; rfl)
      have ik : ∀ h : IH, dIx (.fl (K.map D.int)) (.int (i : Nat)) h = .ok (.int k) h := fun h => dIx_nat (xs := K.map D.int) rfl (by rw [List.getElem?_map, ek]; rfl)
      have comp : ∀ H : IH, mFz (mLc (iSeq (mVar 8)) (gSet 9) mYes e__law_shuffled_5 [9]) [hd, some (.fl (G.map rF)), some (.fl (K.map D.int)), x3, some (.fl (P.map nD)), some (.ref (t.length + 2)), some (.ref (t.length + 3)), some (.int (i : Nat)), some (rF r), x9] H = .ok (.fl ((nr P r).map nD)) H := fun H => by
        have := lcF_map (ws := [9]) (gg := gSet 9) (m := e__law_shuffled_5) (ds := r.map nD) (h := H) (env := [hd, some (.fl (G.map rF)), some (.fl (K.map D.int)), x3, some (.fl (P.map nD)), some (.ref (t.length + 2)), some (.ref (t.length + 3)), some (.int (i : Nat)), some (rF r), x9]) (it := iSeq (mVar 8)) (fun d => match d with | .int v => nD (P.getD v.toNat 0) | d => d) (by simp [rF]) (by simp; omega) (fun d hd => by
          obtain ⟨x, _, rfl⟩ := List.mem_map.mp hd
          rfl) (fun d hd => by
          obtain ⟨x, hx, rfl⟩ := List.mem_map.mp hd
          have hx2 : x < P.length := by have := gr.2 x hx; omega
          refine ⟨_, rfl, fun w => ?_⟩
          have ix : ∀ h : IH, dIx (.fl (P.map nD)) (.int (x : Nat)) h = .ok (nD (P.getD x 0)) h := fun h => dIx_nat (xs := P.map nD) rfl (by rw [List.getElem?_map, List.getD_eq_getElem?_getD, List.getElem?_eq_getElem hx2]; rfl)
          unfold e__law_shuffled_5
          simp [wipeE, gSet, nD] at ix ⊢
          simp [ix])
        rw [this]
        unfold nr
        rw [List.map_map, List.map_map]
        rfl
      have pr : putD (.ref (t.length + 2)) (.int (p : Nat)) (.tup ((nr P r).map nD)) (z :: c :: (t ++ [.lst RW, .lst KW])) = some (z :: c :: (t ++ [.lst (RW.set p (gT (nr P r))), .lst KW])) := by
        rw [putD_ref (n := t.length + 2) (xs := RW) (by simp) (by omega) (by omega)]
        simp [gT]
      have pk : putD (.ref (t.length + 3)) (.int (p : Nat)) (.int k) (z :: c :: (t ++ [.lst (RW.set p (gT (nr P r))), .lst KW])) = some (z :: c :: (t ++ [.lst (RW.set p (gT (nr P r))), .lst (KW.set p (.int k))])) := by
        rw [putD_ref (n := t.length + 3) (xs := KW) (by simp) (by omega) (by omega)]
        simp
      have bt : ∀ h : IH, bTupleX [.fl ((nr P r).map nD)] h = .ok (.tup ((nr P r).map nD)) h := fun h => by simp [bTupleX, bTuple, seqOf]
      have e : b__law_shuffled_6 [hd, some (.fl (G.map rF)), some (.fl (K.map D.int)), x3, some (.fl (P.map nD)), some (.ref (t.length + 2)), some (.ref (t.length + 3)), some (.int (i : Nat)), some (rF r), x9] (z :: c :: (t ++ [.lst RW, .lst KW])) = .nx [hd, some (.fl (G.map rF)), some (.fl (K.map D.int)), x3, some (.fl (P.map nD)), some (.ref (t.length + 2)), some (.ref (t.length + 3)), some (.int (i : Nat)), some (rF r), x9] (z :: c :: (t ++ [.lst (RW.set p (gT (nr P r))), .lst (KW.set p (.int k))])) := by
        unfold b__law_shuffled_6
        generalize z :: c :: (t ++ [Cell.lst (RW.set p (gT (nr P r))), .lst (KW.set p (.int k))]) = H3 at *
        generalize z :: c :: (t ++ [Cell.lst (RW.set p (gT (nr P r))), .lst KW]) = H2 at *
        generalize z :: c :: (t ++ [Cell.lst RW, .lst KW]) = H1 at *
        generalize (nr P r).map nD = NRw at *
        generalize P.map nD = PP at *
        generalize K.map D.int = KK at *
        generalize G.map rF = GG at *
        generalize mFz (mLc (iSeq (mVar 8)) (gSet 9) mYes e__law_shuffled_5 [9]) = CC at *
        simp [comp, bt, ip, pr, ik, pk]
      rw [e, on_nx]
      have : (((G.drop (i + 1)).map rF).mapIdx fun j x => D.tup [.int ((i + (j + 1) : Nat) : Int), x]) = ((G.drop (i + 1)).map rF).mapIdx fun j x => D.tup [.int ((i + 1 + j : Nat) : Int), x] := by
        congr 1
        funext j x
        rw [show i + (j + 1) = i + 1 + j by omega]
      rw [this]
      exact el
    · have ne := inj j (by omega) (by omega)
      obtain ⟨a1, a2⟩ := q1 j (by omega)
      rw [a1, a2, List.getElem?_set_ne (Ne.symm ne), List.getElem?_set_ne (Ne.symm ne)]
      exact ⟨rfl, rfl⟩
    · by_cases q : j = i
      · subst q
        obtain ⟨a1, a2⟩ := q1 j (by omega)
        rw [a1, a2, epd, List.getElem?_set_self (by omega), List.getElem?_set_self (by omega), ed, ekd]
        exact ⟨rfl, rfl⟩
      · exact q2 j (by omega) h2
end NR

set_option Elab.async false
set_option linter.all false
set_option maxRecDepth 100000
set_option maxHeartbeats 4000000
namespace NR
open PySem PySem.Spec PyProof.Rows L2
theorem nodup_len : ∀ (N : Nat) (l : List Nat), l.Nodup → (∀ x ∈ l, x < N) → l.length ≤ N
  | 0, [], _, _ => by simp
  | 0, x :: l, _, h => absurd (h x List.mem_cons_self) (Nat.not_lt_zero x)
  | N + 1, l, nd, h => by
    have h1 := nodup_len N (l.erase N) (nd.erase N) fun x hx => by
      have := h x (List.mem_of_mem_erase hx)
      have ne : x ≠ N := fun z => by subst z; exact (nd.not_mem_erase) hx
      omega
    have h2 := List.length_erase (a := N) (l := l)
    split at h2 <;> omega
/-- the table of shuffled rows -/
def shT (t : List Nat) (G : List (List Nat)) (K : List Int) (P : List Nat) : Tb := ⟨t, (List.range P.length).map fun p => nr P (G.getD (P.idxOf p) []), (List.range P.length).map fun p => K.getD (P.idxOf p) 0⟩
theorem sh_ok {t : List Nat} {G : List (List Nat)} {K : List Int} {P : List Nat} {R : Nat} (tg : Tgn t) (gk : GOk t.length R G) (gl : G.length = R) (kl : K.length = R) (k0 : K[0]? = some (-1)) (kk : ∀ k ∈ K, -1 ≤ k ∧ k ≤ 5) (pm : P.Perm (List.range R)) (p0 : P[0]? = some 0) (r1 : 1 ≤ R) (r32 : R ≤ 32) : (shT t G K P).Ok := by
  have pl : P.length = R := by rw [pm.length_eq, List.length_range]
  have pb : ∀ x ∈ P, x < R := fun x hx => List.mem_range.mp (pm.mem_iff.mp hx)
  have pi : ∀ p, p < R → p ∈ P := fun p hp => pm.mem_iff.mpr (List.mem_range.mpr hp)
  have ix : ∀ p, p < R → P.idxOf p < R := fun p hp => by rw [← pl]; exact List.idxOf_lt_length_iff.mpr (pi p hp)
  refine ⟨tg, by simp [shT, pl]; omega, by simp [shT, pl]; omega, fun r hr => ?_, by simp [shT], ?_, fun k hk => ?_⟩
  · obtain ⟨p, hp, rfl⟩ := List.mem_map.mp hr
    have hp2 : p < R := by rw [← pl]; exact List.mem_range.mp hp
    have hi := ix p hp2
    have hg : P.idxOf p < G.length := by omega
    have ed : G.getD (P.idxOf p) [] = G[P.idxOf p] := by rw [List.getD_eq_getElem?_getD, List.getElem?_eq_getElem hg]; rfl
    have gr := gk _ (List.getElem_mem hg)
    rw [ed]
    refine ⟨by simp only [nr, List.length_map]; exact gr.1, fun x hx => ?_⟩
    obtain ⟨y, hy, rfl⟩ := List.mem_map.mp hx
    have hy2 : y < P.length := by have := gr.2 y hy; omega
    simp only [shT, List.length_map, List.length_range]
    rw [List.getD_eq_getElem?_getD, List.getElem?_eq_getElem hy2, pl]
    exact pb _ (List.getElem_mem hy2)
  · have h0 : P.idxOf 0 = 0 := by
      cases P with
      | nil => simp at p0
      | cons a l =>
        simp at p0
        subst p0
        simp
    simp only [shT]
    rw [List.getElem?_map, List.getElem?_range (by omega)]
    simp only [Option.map, h0]
    rw [List.getD_eq_getElem?_getD, k0]
    rfl
  · obtain ⟨p, hp, rfl⟩ := List.mem_map.mp hk
    have hp2 : p < R := by rw [← pl]; exact List.mem_range.mp hp
    have hi := ix p hp2
    have hg : P.idxOf p < K.length := by omega
    rw [List.getD_eq_getElem?_getD, List.getElem?_eq_getElem hg]
    exact kk _ (List.getElem_mem hg)
theorem shuffled_call {b : Nat} {z c : Cell} {g : IH} {S R : Nat} {G : List (List Nat)} {K : List Int} (gk : GOk S R G) (gl : G.length = R) (kl : K.length = R) (r1 : 1 ≤ R) (r32 : R ≤ 32) (s6 : S ≤ 6) (hp : Pn (b + 40) c) :
    ∃ (P : List Nat) (c' : Cell), callC 3 m__law_shuffled [.ref 1, .fl (G.map rF), .fl (K.map D.int)] (z :: c :: g) = .ok (.tup [.tup ((List.range P.length).map fun p => gT (nr P (G.getD (P.idxOf p) []))), .tup ((List.range P.length).map fun p => D.int (K.getD (P.idxOf p) 0))]) (z :: c' :: g) ∧ P.Perm (List.range R) ∧ P[0]? = some 0 ∧ Pn b c' := by
  have rest0 : ((List.range (R - 1)).map (· + 1)).map nD = intsFrom 1 (R - 1) := by
    unfold intsFrom
    rw [List.map_map]
    apply List.map_congr_left
    intro x _
    simp [nD]
    omega
  have pm0 : ([0] ++ (List.range (R - 1)).map (· + 1)).Perm (List.range R) := by
    have : List.range R = 0 :: (List.range (R - 1)).map Nat.succ := by
      conv => lhs; rw [show R = (R - 1) + 1 by omega, List.range_succ_eq_map]
    rw [this]
    exact List.Perm.refl _
  obtain ⟨P, c1, lp, p0, pm, p1⟩ := place_loop (z := z) (g := g) (e1 := some (.fl (G.map rF))) (e2 := some (.fl (K.map D.int))) (e5 := none) (e6 := none) (e7 := none) (e8 := none) (e9 := none) (R := R) (R - 1) b c ((List.range (R - 1)).map (· + 1)) [0] (by simp) (by omega) (by simp) (by simp; omega) rfl pm0 (hp.mono (by omega))
  have pl : P.length = R := by rw [pm.length_eq, List.length_range]
  have pb : ∀ x ∈ P, x < R := fun x hx => List.mem_range.mp (pm.mem_iff.mp hx)
  have pi : ∀ p, p < R → p ∈ P := fun p hp => pm.mem_iff.mpr (List.mem_range.mpr hp)
  have nd : P.Nodup := pm.symm.nodup List.nodup_range
  have comp : ∀ (e : ME) (d : D) (env : EV) (H : IH), env[1]? = some (some (.fl (G.map rF))) → (∀ x w, e ((wipeE env [7]).set 7 (some x)) (H ++ [w]) = .ok d (H ++ [w])) → mLc (iSeq (mVar 1)) (gSet 7) mYes e [7] env H = .ok (.ref H.length) (H ++ [.lst (List.replicate R d)]) := fun e d env H h1 h2 => by
    have ir : iSeq (mVar 1) env H = .ok (.st (G.map rF)) H := by simp [h1]
    rw [ap_mLc, ir]
    show lcM _ _ _ _ _ _ _ _ _ = _
    rw [lcM_map (gg := gSet 7) (fun _ => d) (by simp; omega) (fun x hx => ⟨_, rfl, fun w => h2 x w⟩)]
    rw [List.map_const', List.length_map, gl]
  obtain ⟨RW, KW, y7, y8, fl, l1, l2, _, q2⟩ := fillS_loop (z := z) (c := c1) (g := g) (hd := some (.ref 1)) (x3 := some (.ref (g.length + 2))) (t := g ++ [.lst [], .frz (P.map nD)]) gk gl kl pl r32 s6 nd pb R 0 (List.replicate R (.tup [])) (List.replicate R (.int (-1))) none none none (by omega) (by simp) (by simp)
  have tl : (g ++ [Cell.lst [], Cell.frz (P.map nD)]).length = g.length + 2 := by simp
  rw [tl, List.drop_zero, show g.length + 2 + 2 = g.length + 4 from rfl, show g.length + 2 + 3 = g.length + 5 from rfl] at fl
  have eR : RW = (List.range P.length).map fun p => gT (nr P (G.getD (P.idxOf p) [])) := by
    apply List.ext_getElem?
    intro p
    by_cases h : p < R
    · have hi : P.idxOf p < P.length := List.idxOf_lt_length_iff.mpr (pi p h)
      have := (q2 (P.idxOf p) (by omega) (by omega)).1
      have ep : P.getD (P.idxOf p) 0 = p := by
        rw [List.getD_eq_getElem?_getD, List.getElem?_eq_getElem hi]
        exact List.getElem_idxOf hi
      rw [ep] at this
      rw [this, List.getElem?_map, List.getElem?_range (by omega)]
      rfl
    · rw [List.getElem?_eq_none (by omega), List.getElem?_eq_none (by simp; omega)]
  have eK : KW = (List.range P.length).map fun p => D.int (K.getD (P.idxOf p) 0) := by
    apply List.ext_getElem?
    intro p
    by_cases h : p < R
    · have hi : P.idxOf p < P.length := List.idxOf_lt_length_iff.mpr (pi p h)
      have := (q2 (P.idxOf p) (by omega) (by omega)).2
      have ep : P.getD (P.idxOf p) 0 = p := by
        rw [List.getD_eq_getElem?_getD, List.getElem?_eq_getElem hi]
        exact List.getElem_idxOf hi
      rw [ep] at this
      rw [this, List.getElem?_map, List.getElem?_range (by omega)]
      rfl
    · rw [List.getElem?_eq_none (by omega), List.getElem?_eq_none (by simp; omega)]
  refine ⟨P, c1, callC_pen (g' := [.lst [], .frz (P.map nD), .lst RW, .lst KW]) rfl ?_ (fun k _ => ?_) (fun k _ => p1.lo k), pm, p0, p1⟩
  · have bl : ∀ h : IH, bLen [.fl (G.map rF)] h = .ok (.int (R : Nat)) h := fun h => by simp [gl]
    unfold m__law_shuffled
    rw [ap_fnM]
    simp only [List.map_cons, List.map_nil, List.length_cons, List.length_nil, List.cons_append, List.nil_append, Nat.reduceAdd, Nat.reduceSub, List.replicate]
    refine stN (env2 := [some (.ref 1), some (.fl (G.map rF)), some (.fl (K.map D.int)), some (.ref (g.length + 2)), none, none, none, none, none, none]) (h2 := z :: c :: (g ++ [.lst (intsFrom 1 (R - 1))])) (by
      generalize G.map rF = GG at *
      have rr : ((R : Nat) - 1 : Int).toNat = R - 1 := by omega
      have rb : (R : Int) ≤ 1000000 := by omega
      simp [bl, rr, rb]) ?_
    refine stN (env2 := [some (.ref 1), some (.fl (G.map rF)), some (.fl (K.map D.int)), some (.ref (g.length + 2)), some (.ref (g.length + 3)), none, none, none, none, none]) (h2 := z :: c :: (g ++ [.lst (intsFrom 1 (R - 1)), .lst [.int 0]])) (by simp [newL]) ?_
    rw [rest0, show ([0] : List Nat).map nD = [D.int 0] from rfl] at lp
    refine stN (env2 := [some (.ref 1), some (.fl (G.map rF)), some (.fl (K.map D.int)), some (.ref (g.length + 2)), some (.ref (g.length + 3)), none, none, none, none, none]) (h2 := z :: c1 :: (g ++ [.lst [], .lst (P.map nD)])) lp ?_
    refine stN (env2 := [some (.ref 1), some (.fl (G.map rF)), some (.fl (K.map D.int)), some (.ref (g.length + 2)), some (.ref (g.length + 3)), some (.ref (g.length + 4)), none, none, none, none]) (h2 := z :: c1 :: (g ++ [.lst [], .lst (P.map nD), .lst (List.replicate R (.tup []))])) (by
      rw [ap_msSet, comp e__law_shuffled_3 (.tup []) _ _ rfl (fun x w => by unfold e__law_shuffled_3; simp)]
      simp) ?_
    refine stN (env2 := [some (.ref 1), some (.fl (G.map rF)), some (.fl (K.map D.int)), some (.ref (g.length + 2)), some (.ref (g.length + 3)), some (.ref (g.length + 4)), some (.ref (g.length + 5)), none, none, none]) (h2 := z :: c1 :: (g ++ [.lst [], .lst (P.map nD), .lst (List.replicate R (.tup [])), .lst (List.replicate R (.int (-1)))])) (by
      rw [ap_msSet, comp e__law_shuffled_4 (.int (-1)) _ _ rfl (fun x w => by unfold e__law_shuffled_4; simp)]
      simp) ?_
    refine stN (env2 := [some (.ref 1), some (.fl (G.map rF)), some (.fl (K.map D.int)), some (.ref (g.length + 2)), some (.fl (P.map nD)), some (.ref (g.length + 4)), some (.ref (g.length + 5)), y7, y8, none]) (h2 := z :: c1 :: (g ++ [.lst [], .frz (P.map nD), .lst RW, .lst KW])) ?_ ?_
    · rw [ap_msFz (n := g.length + 3) (xs := P.map nD) rfl (by simp)]
      have hs : (z :: c1 :: (g ++ [Cell.lst [], .lst (P.map nD), .lst (List.replicate R (.tup [])), .lst (List.replicate R (.int (-1)))])).set (g.length + 3) (.frz (P.map nD)) = z :: c1 :: ((g ++ [Cell.lst [], Cell.frz (P.map nD)]) ++ [Cell.lst (List.replicate R (D.tup [])), Cell.lst (List.replicate R (D.int (-1)))]) := by simp
      rw [hs]
      have he : z :: c1 :: (g ++ [Cell.lst [], .frz (P.map nD), .lst RW, .lst KW]) = z :: c1 :: ((g ++ [Cell.lst [], Cell.frz (P.map nD)]) ++ [.lst RW, .lst KW]) := by simp
      rw [he]
      refine (for_st (ds := (G.map rF).mapIdx fun j x => D.tup [.int ((0 + j : Nat) : Int), x]) (h2 := z :: c1 :: ((g ++ [Cell.lst [], Cell.frz (P.map nD)]) ++ [Cell.lst (List.replicate R (D.tup [])), Cell.lst (List.replicate R (D.int (-1)))])) ?_).trans fl
      simp [iEnum, stOf]
    · have b5 : bTupleX [.ref (g.length + 4)] (z :: c1 :: (g ++ [.lst [], .frz (P.map nD), .lst RW, .lst KW])) = .ok (.tup RW) (z :: c1 :: (g ++ [.lst [], .frz (P.map nD), .lst RW, .lst KW])) := bTupleX_ref (by simp)
      have b6 : bTupleX [.ref (g.length + 5)] (z :: c1 :: (g ++ [.lst [], .frz (P.map nD), .lst RW, .lst KW])) = .ok (.tup KW) (z :: c1 :: (g ++ [.lst [], .frz (P.map nD), .lst RW, .lst KW])) := bTupleX_ref (by simp)
      rw [← eR, ← eK]
      generalize z :: c1 :: (g ++ [Cell.lst [], .frz (P.map nD), .lst RW, .lst KW]) = H at *
      simp [b5, b6]
  · have a1 : D.loL k ((List.range P.length).map fun p => gT (nr P (G.getD (P.idxOf p) []))) = true := loL_of fun x hx => by
      obtain ⟨p, _, rfl⟩ := List.mem_map.mp hx
      simp
    have a2 : D.loL k ((List.range P.length).map fun p => D.int (K.getD (P.idxOf p) 0)) = true := loL_of fun x hx => by
      obtain ⟨p, _, rfl⟩ := List.mem_map.mp hx
      simp
    simp [a1, a2]
end NR

set_option Elab.async false
set_option linter.all false
set_option maxRecDepth 100000
set_option maxHeartbeats 4000000
namespace NR
open PySem PySem.Spec PyProof.Rows L2
/-! ### numbered, finer, classes_of -/
structure KyOk {κ : Type} [DecidableEq κ] (cK : List (κ × D) → Cell) (kf : D → Option κ) : Prop where
  get : ∀ {h : IH} {n : Nat} {kvs : List (κ × D)} {d : D} {k : κ}, h[n]? = some (cK kvs) → kf d = some k → dGet? h (.ref n) d = some (valKD kvs k)
  put : ∀ {h : IH} {n : Nat} {kvs : List (κ × D)} {d v : D} {k : κ}, h[n]? = some (cK kvs) → kf d = some k → kvs.length < 10000000 → putDD (.ref n) d v h = some (h.set n (cK (putKD kvs k v)))
  len : ∀ {h : IH} {n : Nat} {kvs : List (κ × D)}, h[n]? = some (cK kvs) → bLenV [.ref n] h = .ok (.int (kvs.length : Nat)) h
theorem kyN : KyOk Cell.dk keyD? := ⟨fun e k => by unfold dGet?; dsimp only; rw [e]; dsimp only; rw [k]; rfl, fun e k l => by unfold putDD; dsimp only; rw [e]; dsimp only; rw [k]; dsimp only; rw [if_pos l], fun e => bLenV_dk e⟩
theorem kyT : KyOk Cell.dt keyT? := ⟨fun e k => by unfold dGet?; dsimp only; rw [e]; dsimp only; rw [k]; rfl, fun e k l => by unfold putDD; dsimp only; rw [e]; dsimp only; rw [k]; dsimp only; rw [if_pos l], fun e => bLenV_dt e⟩
section
variable {κ : Type} [DecidableEq κ]
def tabK (S : List κ) : List (κ × D) := S.mapIdx fun i k => (k, D.int (i : Nat))
theorem tabK_len {S : List κ} : (tabK S).length = S.length := List.length_mapIdx
theorem tabK_snoc {S : List κ} {k : κ} : tabK (S ++ [k]) = tabK S ++ [(k, .int (S.length : Nat))] := by unfold tabK; simp
theorem tabK_fst {S : List κ} : (tabK S).map (·.1) = S := by
  apply List.ext_getElem?
  intro i
  unfold tabK
  rw [List.getElem?_map, List.getElem?_mapIdx]
  cases S[i]? <;> rfl
theorem valKD_tab : ∀ {S : List κ} {k : κ}, S.Nodup → valKD (tabK S) k = if k ∈ S then some (.int (S.idxOf k : Nat)) else none := by
  intro S k nd
  by_cases q : k ∈ S
  · rw [if_pos q]
    have hl := List.idxOf_lt_length_iff.mpr q
    have he := List.getElem_idxOf hl
    unfold valKD
    have : (tabK S).find? (fun p => decide (p.1 = k)) = some (k, D.int (S.idxOf k : Nat)) := by
      rw [List.find?_eq_some_iff_getElem]
      refine ⟨by simp, S.idxOf k, by rw [tabK_len]; exact hl, ?_, fun j hj => ?_⟩
      · unfold tabK
        rw [List.getElem_mapIdx, he]
      · unfold tabK
        rw [List.getElem_mapIdx]
        simp only [Bool.not_eq_true', decide_eq_false_iff_not]
        intro z
        have := (List.getElem_inj nd (h₀ := by omega) (h₁ := hl)).mp (z.trans he.symm)
        omega
    rw [this]
    rfl
  · rw [if_neg q]
    unfold valKD
    rw [Option.map_eq_none_iff, List.find?_eq_none]
    intro p hp
    simp only [decide_eq_true_eq]
    rintro rfl
    have : p.1 ∈ (tabK S).map (·.1) := List.mem_map_of_mem hp
    rw [tabK_fst] at this
    exact q this
theorem putKD_tab {S : List κ} {k : κ} (q : k ∉ S) : putKD (tabK S) k (.int (S.length : Nat)) = tabK (S ++ [k]) := by
  have h : ((tabK S).any fun p => decide (p.1 = k)) = false := by
    rw [List.any_eq_false]
    intro p hp
    simp only [decide_eq_true_eq]
    rintro rfl
    have : p.1 ∈ (tabK S).map (·.1) := List.mem_map_of_mem hp
    rw [tabK_fst] at this
    exact q this
  unfold putKD
  rw [h, if_neg Bool.false_ne_true, tabK_snoc]
end
/-- a list that is not the walk's own: locked, or a cell -/
def LsX (H : IH) (d : D) (ds : List D) : Prop := d = .fl ds ∨ ∃ n, d = .ref n ∧ n < H.length ∧ H[n]? = some (.lst ds)
theorem LsX.src {H : IH} {d : D} {ds : List D} (l : LsX H d ds) : ∃ src : Src, (∀ (me : ME) (env : EV) (G : IH), me env (H ++ G) = .ok d (H ++ G) → iSeq me env (H ++ G) = .ok src (H ++ G)) ∧ ∀ G, src.ok (H ++ G) = true ∧ (∀ j, src.get (H ++ G) j = ds[j]?) ∧ src.many (H ++ G) = ds.length := by
  rcases l with rfl | ⟨n, rfl, hn, e⟩
  · exact ⟨.st ds, fun me env G e => by rw [ap_iSeq, e]; rfl, fun G => ⟨rfl, fun j => rfl, rfl⟩⟩
  · have e2 : ∀ G, lstOf (H ++ G) (.ref n) = some ds := fun G => lstOf_ref (by rw [List.getElem?_append_left hn]; exact e)
    refine ⟨.ls n, fun me env G e => ?_, fun G => ⟨?_, fun j => ?_, ?_⟩⟩
    · rw [ap_iSeq, e]
      show (if (lstOf (H ++ G) (.ref n)).isSome then _ else _) = _
      rw [e2 G]
      rfl
    · show (lstOf (H ++ G) (.ref n)).isSome = true
      rw [e2 G]; rfl
    · show (lstOf (H ++ G) (.ref n)).bind _ = _
      rw [e2 G]; rfl
    · show ((lstOf (H ++ G) (.ref n)).getD []).length = _
      rw [e2 G]; rfl
/-- a walk over a list, whatever is done to the rest -/
theorem for_srcJ {it : MI} {gg : MG} {bd : MS} {env : EV} {src : Src} {ds : List D} {H : IH} (I : Nat → EV → IH → Prop) (e : it env H = .ok src H) (sr : ∀ i env h, I i env h → src.ok h = true ∧ ∀ j, src.get h j = ds[j]?) (mn : src.many H = ds.length) (i0 : I 0 env H)
    (step : ∀ i d env h, ds[i]? = some d → I i env h → ∃ e1 e2 h2, gg d env = some e1 ∧ bd e1 h = .nx e2 h2 ∧ I (i + 1) e2 h2) : ∃ e2 h2, msFor it gg bd env H = .nx e2 h2 ∧ I ds.length e2 h2 := by
  have go : ∀ (m i : Nat) (env : EV) (h : IH), I i env h → ds.length < m + i → i ≤ ds.length → ∃ e2 h2, forM src gg bd m i env h = .nx e2 h2 ∧ I ds.length e2 h2 := by
    intro m
    induction m with
    | zero => intro i env h q l l2; omega
    | succ m ih =>
      intro i env h q l l2
      obtain ⟨o, ge⟩ := sr i env h q
      unfold forM
      rw [if_pos o, ge i]
      cases hd : ds[i]? with
      | none =>
        have : ds.length ≤ i := List.getElem?_eq_none_iff.mp hd
        have : i = ds.length := by omega
        subst this
        exact ⟨env, h, rfl, q⟩
      | some d =>
        obtain ⟨e1, e2, h2, g1, g2, q2⟩ := step i d env h hd q
        dsimp only
        rw [g1]
        dsimp only
        rw [g2]
        exact ih (i + 1) e2 h2 q2 (by omega) (List.getElem?_eq_some_iff.mp hd).1
  rw [ap_msFor, e, bindS_ok, mn]
  exact go _ 0 env H i0 (by omega) (Nat.zero_le _)
section
variable {κ : Type} [DecidableEq κ] {cK : List (κ × D) → Cell} {kf : D → Option κ} {H : IH}
abbrev nuH (cK : List (κ × D) → Cell) (H : IH) (ks : List κ) : IH := H ++ [cK (tabK (ddp [] ks)), .lst ((numB ks).map nD)]
theorem nu_turn (ky : KyOk cK kf) {x d : D} {k : κ} {ks : List κ} (hk : kf d = some k) (hl : ks.length ≤ 6000) :
    b_numbered_1 [some x, some (.ref H.length), some (.ref (H.length + 1)), some d] (nuH cK H ks) = .nx [some x, some (.ref H.length), some (.ref (H.length + 1)), some d] (nuH cK H (ks ++ [k])) := by
  have nd : (ddp [] ks).Nodup := ddp_nodup List.nodup_nil
  have cl : (ddp [] ks).length ≤ 6000 := Nat.le_trans nCls_le hl
  have c0 : ∀ (S : List κ) (N : List Nat), (H ++ [cK (tabK S), .lst (N.map nD)])[H.length]? = some (cK (tabK S)) := fun S N => get_app0
  have c1 : ∀ (S : List κ) (N : List Nat), (H ++ [cK (tabK S), .lst (N.map nD)])[H.length + 1]? = some (.lst (N.map nD)) := fun S N => get_app
  have mm : k ∈ ddp [] ks ↔ k ∈ ks := by rw [ddp_mem]; simp
  have d1 : dDIn true d (.ref H.length) (nuH cK H ks) = .ok (.bl (!decide (k ∈ ks))) (nuH cK H ks) := by
    unfold dDIn
    rw [ky.get (c0 _ _) hk, valKD_tab nd]
    by_cases q : k ∈ ks
    · rw [if_pos (mm.mpr q), decide_eq_true q]; rfl
    · rw [if_neg (fun z => q (mm.mp z)), decide_eq_false q]; rfl
  -- behind the first step
  have st1 : msIf (mTb (mOp (dDIn true) (mVar 3) (mVar 1))) (msSetD (mVar 1) (mVar 3) (mB bLenV (mCons (mVar 1) (mNil)))) (msNil) [some x, some (.ref H.length), some (.ref (H.length + 1)), some d] (nuH cK H ks) = .nx [some x, some (.ref H.length), some (.ref (H.length + 1)), some d] (H ++ [cK (tabK (ddp [] (ks ++ [k]))), .lst ((numB ks).map nD)]) := by
    rw [ddp_snoc]
    by_cases q : k ∈ ks
    · rw [if_pos q]
      rw [decide_eq_true q] at d1
      show _ = RS.nx _ (nuH cK H ks)
      generalize nuH cK H ks = H1 at *
      generalize H.length = n at *
      simp [d1]
    · rw [if_neg q]
      rw [decide_eq_false q] at d1
      have bl : bLenV [.ref H.length] (nuH cK H ks) = .ok (.int ((ddp [] ks).length : Nat)) (nuH cK H ks) := by rw [ky.len (c0 _ _), tabK_len]
      have pd : putDD (.ref H.length) d (.int ((ddp [] ks).length : Nat)) (nuH cK H ks) = some (H ++ [cK (tabK (ddp [] ks ++ [k])), .lst ((numB ks).map nD)]) := by
        rw [ky.put (c0 _ _) hk (by rw [tabK_len]; omega), putKD_tab (fun z => q (mm.mp z)), set_app0]
        rfl
      generalize H ++ [cK (tabK (ddp [] ks ++ [k])), .lst ((numB ks).map nD)] = H2 at *
      generalize nuH cK H ks = H1 at *
      generalize H.length = n at *
      simp [d1, bl, pd]
  have nd2 : (ddp [] (ks ++ [k])).Nodup := ddp_nodup List.nodup_nil
  have km : k ∈ ddp [] (ks ++ [k]) := mem_ddp (by simp)
  have g1 : dDGet (.ref H.length) d (H ++ [cK (tabK (ddp [] (ks ++ [k]))), .lst ((numB ks).map nD)]) = .ok (.int ((ddp [] (ks ++ [k])).idxOf k : Nat)) (H ++ [cK (tabK (ddp [] (ks ++ [k]))), .lst ((numB ks).map nD)]) := by
    unfold dDGet
    rw [ky.get (c0 _ _) hk, valKD_tab nd2, if_pos km]
  have ex : (numB (ks ++ [k])) = numB ks ++ [(ddp [] (ks ++ [k])).idxOf k] := by
    have h1 : (numB (ks ++ [k])).length = (numB ks).length + 1 := by rw [numB_len, numB_len, List.length_append]; rfl
    have h2 := numB_get (ks := ks ++ [k]) (i := ks.length) (a := k) (by simp)
    rw [numB_snoc] at h2 ⊢
    rw [List.getElem?_append_right (by rw [numB_len]; omega), numB_len, Nat.sub_self] at h2
    simp only [List.getElem?_cons_zero, Option.some.injEq] at h2
    rw [h2]
  have ty := tyD_ref (c1 (ddp [] (ks ++ [k])) (numB ks))
  have ap : fAppend (.ref (H.length + 1)) [.int ((ddp [] (ks ++ [k])).idxOf k : Nat)] (H ++ [cK (tabK (ddp [] (ks ++ [k]))), .lst ((numB ks).map nD)]) = .ok .non (nuH cK H (ks ++ [k])) := by
    have := append_at (y := nD ((ddp [] (ks ++ [k])).idxOf k)) (c1 (ddp [] (ks ++ [k])) (numB ks)) (by rw [List.length_map, numB_len]; omega)
    rw [show (numB ks).map nD ++ [nD ((ddp [] (ks ++ [k])).idxOf k)] = (numB (ks ++ [k])).map nD by rw [ex, List.map_append]; rfl, set_app] at this
    exact this
  unfold b_numbered_1
  refine stS st1 ?_
  generalize nuH cK H (ks ++ [k]) = H3 at *
  generalize H ++ [cK (tabK (ddp [] (ks ++ [k]))), .lst ((numB ks).map nD)] = H2 at *
  generalize H.length = n at *
  simp [g1, ty, ap]
theorem numbered_call (ky : KyOk cK kf) {x : D} {ds : List D} {ks : List κ} (lx : LsX H x ds) (hl : ks.length = ds.length) (l1 : ks.length ≤ 6000) (hk : ∀ (i : Nat) (d : D), ds[i]? = some d → ∃ k, ks[i]? = some k ∧ kf d = some k)
    (hm : mDictV 0 [some x, none, none, none] H = .ok (.ref H.length) (H ++ [cK []])) : callC 1 m_numbered [x] H = .ok (.fl ((numB ks).map nD)) H := by
  obtain ⟨src, s1, s2⟩ := lx.src
  have h0 : H ++ [cK [], .lst []] = nuH cK H ([] : List κ) := rfl
  obtain ⟨e2, h2, fl, y, rfl, rfl⟩ := for_srcJ (it := iSeq (mVar 0)) (gg := gSet 3) (bd := b_numbered_1) (env := [some x, some (.ref H.length), some (.ref (H.length + 1)), none]) (src := src) (ds := ds) (H := nuH cK H ([] : List κ)) (fun i env h => ∃ y, env = [some x, some (.ref H.length), some (.ref (H.length + 1)), y] ∧ h = nuH cK H (ks.take i)) (s1 _ _ _ rfl) (fun i env h ⟨y, _, hh⟩ => by
      subst hh
      exact ⟨(s2 _).1, (s2 _).2.1⟩) (s2 _).2.2 ⟨none, rfl, rfl⟩ (fun i d env h hd ⟨y, he, hh⟩ => by
      subst he hh
      obtain ⟨k, ki, kd⟩ := hk i d hd
      have il := (List.getElem?_eq_some_iff.mp ki).1
      refine ⟨_, _, _, rfl, nu_turn ky (x := x) kd (by rw [List.length_take]; omega), some d, rfl, ?_⟩
      rw [List.take_add_one, ki]
      rfl)
  rw [← hl, List.take_length] at fl
  refine callC_pure rfl (g := [cK (tabK (ddp [] ks)), .frz ((numB ks).map nD)]) ?_ (by simp)
  unfold m_numbered
  rw [ap_fnM]
  simp only [List.map_cons, List.map_nil, List.length_cons, List.length_nil, List.cons_append, List.nil_append, Nat.reduceAdd, Nat.reduceSub, List.replicate]
  refine stN (env2 := [some x, some (.ref H.length), none, none]) (h2 := H ++ [cK []]) (by
    rw [ap_msSet, hm]
    rfl) ?_
  refine stN (env2 := [some x, some (.ref H.length), some (.ref (H.length + 1)), none]) (h2 := nuH cK H ([] : List κ)) (by
    rw [← h0]
    simp [newL]) ?_
  refine stN fl ?_
  have c1 : (nuH cK H ks)[H.length + 1]? = some (.lst ((numB ks).map nD)) := get_app
  rw [ap_msFz (n := H.length + 1) (xs := (numB ks).map nD) rfl c1]
  have hs : (nuH cK H ks).set (H.length + 1) (.frz ((numB ks).map nD)) = H ++ [cK (tabK (ddp [] ks)), .frz ((numB ks).map nD)] := by
    unfold nuH
    rw [set_app]
    rfl
  rw [hs]
  rfl
end
/-- of kinds -/
theorem numbered_kinds {kinds : List Int} (l : kinds.length ≤ 6000) (h : IH) : callC 1 m_numbered [.fl (kinds.map D.int)] h = .ok (.fl ((numB kinds).map nD)) h := by
  have e := (numB_map (f := fun i : Int => (Sum.inl i : DKey)) (fun a b z => by injection z) (ks := kinds)).1
  rw [← e]
  refine numbered_call kyN (.inl rfl) (by simp) (by simpa using l) (fun i d hd => ?_) (ap_mDictV_k ?_)
  · rw [List.getElem?_map] at hd
    cases q : kinds[i]? with
    | none => rw [q] at hd; cases hd
    | some k =>
      rw [q] at hd
      cases hd
      exact ⟨.inl k, by rw [List.getElem?_map, q]; rfl, rfl⟩
  · unfold tupAt
    cases kinds <;> rfl
theorem keyT_nats : ∀ (l : List Nat), allM keyD? (l.map nD) = some (l.map fun n : Nat => (Sum.inl (n : Int) : DKey))
  | [] => rfl
  | n :: l => by
    rw [List.map_cons, List.map_cons]
    unfold allM
    rw [keyT_nats l]
    rfl
/-- of keys that are rows -/
theorem numbered_rows {ks : List (List Nat)} {h : IH} {n : Nat} (l : ks.length ≤ 6000) (ne : ks ≠ []) (hn : h[n]? = some (.lst (ks.map gT))) : callC 1 m_numbered [.ref n] h = .ok (.fl ((numB ks).map nD)) h := by
  have inj : ∀ a b : List Nat, (a.map fun n : Nat => (Sum.inl (n : Int) : DKey)) = (b.map fun n : Nat => (Sum.inl (n : Int) : DKey)) → a = b := by
    intro a
    induction a with
    | nil => intro b z; cases b with | nil => rfl | cons _ _ => simp at z
    | cons x a ih =>
      intro b z
      cases b with
      | nil => simp at z
      | cons y b =>
        simp only [List.map_cons, List.cons.injEq] at z
        have h1 : x = y := by have := z.1; injection this with t; omega
        rw [h1, ih b z.2]
  have e := (numB_map (f := fun a : List Nat => a.map fun n : Nat => (Sum.inl (n : Int) : DKey)) inj (ks := ks)).1
  rw [← e]
  refine numbered_call kyT (.inr ⟨n, rfl, (List.getElem?_eq_some_iff.mp hn).1, hn⟩) (by simp) (by simpa using l) (fun i d hd => ?_) (ap_mDictV_t ?_)
  · rw [List.getElem?_map] at hd
    cases q : ks[i]? with
    | none => rw [q] at hd; cases hd
    | some k =>
      rw [q] at hd
      cases hd
      exact ⟨_, by rw [List.getElem?_map, q]; rfl, keyT_nats k⟩
  · unfold tupAt
    show (match seqOf h (.ref n) with | some (.tup _ :: _) => true | _ => false) = true
    rw [seqOf_ref hn]
    cases ks with
    | nil => exact absurd rfl ne
    | cons k ks => rfl
/-! finer -/
section
variable {goes : List (List Nat)} {M : List Nat} {h : IH} {S : Nat}
theorem fin_turn {KL : List D} (kl : KL.length ≤ 6000) {i : Nat} {row : List Nat} (hi : i < M.length) (hr : ∀ t ∈ row, t < M.length) (s6 : row.length ≤ 10) {x5 : Option D} :
    b_finer_2 [some (.fl (goes.map rF)), some (.fl (M.map nD)), some (.ref h.length), some (.int (i : Nat)), some (rF row), x5] (h ++ [.lst KL]) = .nx [some (.fl (goes.map rF)), some (.fl (M.map nD)), some (.ref h.length), some (.int (i : Nat)), some (rF row), x5] (h ++ [.lst (KL ++ [gT (M.getD i 0 :: row.map fun t => M.getD t 0)])]) := by
  have mi : ∀ {j : Nat} (hj : j < M.length) (h : IH), dIx (.fl (M.map nD)) (.int (j : Nat)) h = .ok (.int (M.getD j 0 : Nat)) h := fun hj h => dIx_nat (xs := M.map nD) rfl (by rw [List.getElem?_map, get_getD hj]; rfl)
  have comp := lcF_map (it := iSeq (mVar 4)) (ws := [5]) (gg := gSet 5) (m := e_finer_1) (ds := row.map nD) (h := h ++ [.lst KL]) (env := [some (.fl (goes.map rF)), some (.fl (M.map nD)), some (.ref h.length), some (.int (i : Nat)), some (rF row), x5]) (fun d => match d with | .int i => nD (M.getD i.toNat 0) | d => d) rfl (by rw [List.length_map]; omega) (fun d hd => by
    obtain ⟨q, _, rfl⟩ := List.mem_map.mp hd
    rfl) (fun d hd => by
    obtain ⟨q, hq, rfl⟩ := List.mem_map.mp hd
    refine ⟨_, rfl, fun w => ?_⟩
    have ix := mi (hr q hq) (h ++ [.lst KL] ++ [w])
    unfold e_finer_1
    show _ = NR.R.ok (D.int (M.getD q 0 : Nat)) _
    generalize M.getD q 0 = mq at *
    generalize M.map nD = MM at *
    generalize goes.map rF = GG at *
    generalize h ++ [.lst KL] ++ [w] = H1 at *
    simp [wipeE, nD, ix])
  have em : (row.map nD).map (fun d => match d with | .int i => nD (M.getD i.toNat 0) | d => d) = (row.map fun t => M.getD t 0).map nD := by
    rw [List.map_map, List.map_map]
    rfl
  rw [em] at comp
  have i3 := mi hi (h ++ [.lst KL])
  have fz1 : fzD (h ++ [.lst KL]) (h ++ [.lst KL]) [.int (M.getD i 0 : Nat)] = .ok (.fl [.int (M.getD i 0 : Nat)]) (h ++ [.lst KL]) := fzD_same (by simp)
  have ad : fzR (h ++ [.lst KL]) (dAdd (.fl [.int (M.getD i 0 : Nat)]) (.fl ((row.map fun t => M.getD t 0).map nD)) (h ++ [.lst KL])) = .ok (.fl ((M.getD i 0 :: row.map fun t => M.getD t 0).map nD)) (h ++ [.lst KL]) := by
    rw [dAdd_fl, if_pos (by rw [List.length_singleton, List.length_map, List.length_map]; omega), fz_newL]
    rw [fzD_same (loL_of fun x hx => by
      rcases List.mem_append.mp hx with hx | hx
      · rw [List.mem_singleton] at hx; subst hx; rfl
      · obtain ⟨q, _, rfl⟩ := List.mem_map.mp hx; rfl)]
    rfl
  have c1 : (h ++ [Cell.lst KL])[h.length]? = some (.lst KL) := get_app0
  have ty := tyD_ref c1
  have ap : fAppend (.ref h.length) [gT (M.getD i 0 :: row.map fun t => M.getD t 0)] (h ++ [.lst KL]) = .ok .non (h ++ [.lst (KL ++ [gT (M.getD i 0 :: row.map fun t => M.getD t 0)])]) := by
    rw [append_at c1 (by omega), set_app0]
    rfl
  have bt : bTupleX [.fl ((M.getD i 0 :: row.map fun t => M.getD t 0).map nD)] (h ++ [.lst KL]) = .ok (gT (M.getD i 0 :: row.map fun t => M.getD t 0)) (h ++ [.lst KL]) := rfl
  unfold b_finer_2
  generalize mFz (mLc (iSeq (mVar 4)) (gSet 5) mYes e_finer_1 [5]) = CC at *
  generalize gT (M.getD i 0 :: row.map fun t => M.getD t 0) = GT at *
  generalize (M.getD i 0 :: row.map fun t => M.getD t 0).map nD = RN at *
  generalize (row.map fun t => M.getD t 0).map nD = RM at *
  generalize M.getD i 0 = mi0 at *
  generalize M.map nD = MM at *
  generalize goes.map rF = GG at *
  generalize h ++ [Cell.lst (KL ++ [GT])] = H2 at *
  generalize h ++ [Cell.lst KL] = H1 at *
  generalize h.length = n at *
  simp [i3, newL_bind, fz_newL, fz1, comp, ad, bt, ty, ap, -bTupleX_fl]
theorem finer_call (ml : M.length = goes.length) (g1 : 1 ≤ goes.length) (g2 : goes.length ≤ 5000) (s6 : S ≤ 10) (row : ∀ r ∈ goes, r.length = S ∧ ∀ t ∈ r, t < goes.length) (h : IH) : callC 2 m_finer [.fl (goes.map rF), .fl (M.map nD)] h = .ok (.fl ((finB goes M).map nD)) h := by
  have main : ∀ (n i : Nat) (x3 x4 : Option D), i + n = goes.length → ∃ y3 y4, forL (gSets [3, 4]) b_finer_2 (((goes.drop i).map rF).mapIdx fun j x => .tup [.int ((i + j : Nat) : Int), x]) [some (.fl (goes.map rF)), some (.fl (M.map nD)), some (.ref h.length), x3, x4, none] (h ++ [.lst (((keyL goes M).take i).map gT)]) = .nx [some (.fl (goes.map rF)), some (.fl (M.map nD)), some (.ref h.length), y3, y4, none] (h ++ [.lst ((keyL goes M).map gT)]) := by
    intro n
    induction n with
    | zero =>
      intro i x3 x4 e
      rw [List.drop_of_length_le (by omega), List.take_of_length_le (by rw [keyL_len]; omega)]
      exact ⟨x3, x4, rfl⟩
    | succ n ih =>
      intro i x3 x4 e
      have hi : i < goes.length := by omega
      have er : goes[i]? = some goes[i] := List.getElem?_eq_getElem hi
      have ro := row _ (List.getElem_mem hi)
      have ek := keyL_get (M := M) hi
      rw [List.getD_eq_getElem?_getD (l := goes), er] at ek
      have ek : (keyL goes M)[i]? = some (M.getD i 0 :: goes[i].map fun t => M.getD t 0) := ek
      rw [List.drop_eq_getElem_cons hi]
      generalize goes[i] = r at *
      obtain ⟨y3, y4, ih⟩ := ih (i + 1) (some (.int ((i + 0 : Nat) : Int))) (some (rF r)) (by omega)
      refine ⟨y3, y4, ?_⟩
      have sh : (fun (j : Nat) (x : D) => D.tup [.int ((i + (j + 1) : Nat) : Int), x]) = fun j x => D.tup [.int ((i + 1 + j : Nat) : Int), x] := by
        funext j x
        rw [show i + (j + 1) = i + 1 + j by omega]
      rw [List.map_cons, List.mapIdx_cons, sh, forL_cons (e1 := [some (.fl (goes.map rF)), some (.fl (M.map nD)), some (.ref h.length), some (.int ((i + 0 : Nat) : Int)), some (rF r), none]) rfl]
      have tn := fin_turn (goes := goes) (M := M) (h := h) (KL := ((keyL goes M).take i).map gT) (by rw [List.length_map, List.length_take, keyL_len]; omega) (i := i) (row := r) (by omega) (by rw [ml]; exact ro.2) (by omega) (x5 := none)
      simp only [Nat.add_zero] at ih ⊢
      rw [tn, on_nx]
      have ek2 : ((keyL goes M).take i).map gT ++ [gT (M.getD i 0 :: r.map fun t => M.getD t 0)] = ((keyL goes M).take (i + 1)).map gT := by
        rw [List.take_add_one, ek, List.map_append]
        rfl
      rw [ek2]
      exact ih
  obtain ⟨y3, y4, fl⟩ := main goes.length 0 none none (by omega)
  rw [List.drop_zero] at fl
  have nb := numbered_rows (ks := keyL goes M) (h := h ++ [.lst ((keyL goes M).map gT)]) (n := h.length) (by rw [keyL_len]; omega) (by
    intro z
    have := keyL_len (goes := goes) (M := M)
    rw [z] at this
    simp at this
    omega) get_app0
  refine callC_pure rfl (g := [.lst ((keyL goes M).map gT)]) ?_ (by simp)
  unfold m_finer
  rw [ap_fnM]
  simp only [List.map_cons, List.map_nil, List.length_cons, List.length_nil, List.cons_append, List.nil_append, Nat.reduceAdd, Nat.reduceSub, List.replicate]
  refine stN (env2 := [some (.fl (goes.map rF)), some (.fl (M.map nD)), some (.ref h.length), none, none, none]) (h2 := h ++ [.lst (((keyL goes M).take 0).map gT)]) (by
    generalize M.map nD = MM at *
    generalize goes.map rF = GG at *
    simp [newL]) ?_
  refine stN ((for_st (ds := (goes.map rF).mapIdx fun j x => .tup [.int ((0 + j : Nat) : Int), x]) (h2 := h ++ [.lst (((keyL goes M).take 0).map gT)]) (by
    simp only [Nat.zero_add]
    rfl)).trans fl) ?_
  unfold finB
  generalize h ++ [Cell.lst ((keyL goes M).map gT)] = H1 at *
  generalize M.map nD = MM at *
  generalize goes.map rF = GG at *
  generalize (numB (keyL goes M)).map nD = NN at *
  generalize h.length = n at *
  simp [nb]
end
end NR

set_option Elab.async false
set_option linter.all false
set_option maxRecDepth 100000
set_option maxHeartbeats 4000000
namespace NR
open PySem PySem.Spec PyProof.Rows L2
/-! ### goes, kinds, pieces -/
def Tb.go (T : Tb) (r c : Nat) : Nat := (T.goes.getD r []).getD ((fnd c T.sig).getD 0) 0
def Tb.kind (T : Tb) (r : Nat) : Int := T.kinds.getD r (-1)
def Tb.n (T : Tb) : Nat := T.goes.length
theorem fnd_mem {c : Nat} {s : List Nat} (h : c ∈ s) : ∃ i, fnd c s = some i ∧ i < s.length := by
  cases e : fnd c s with
  | none => exact absurd h (fnd_none.mp e)
  | some i => exact ⟨i, rfl, (List.getElem?_eq_some_iff.mp (fnd_some.mp e).1).1⟩
theorem Tb.Ok.go {T : Tb} (ok : T.Ok) {r c : Nat} (hr : r < T.n) (hc : c ∈ T.sig) : ∃ row i, T.goes[r]? = some row ∧ fnd c T.sig = some i ∧ row[i]? = some (T.go r c) ∧ T.go r c < T.n := by
  have er : T.goes[r]? = some T.goes[r] := List.getElem?_eq_getElem hr
  obtain ⟨l, b⟩ := ok.row T.goes[r] (List.getElem_mem hr)
  obtain ⟨i, ei, hi⟩ := fnd_mem hc
  have hi2 : i < T.goes[r].length := by omega
  have e : T.go r c = T.goes[r][i] := by
    unfold Tb.go
    rw [ei, List.getD_eq_getElem?_getD (l := T.goes), er]
    simp [hi2]
  exact ⟨_, i, er, ei, by rw [e]; exact List.getElem?_eq_getElem hi2, by rw [e]; exact b _ (List.getElem_mem hi2)⟩
theorem Tb.Ok.kindAt {T : Tb} (ok : T.Ok) {r : Nat} (hr : r < T.n) : T.kinds[r]? = some (T.kind r) := by
  have : r < T.kinds.length := by rw [ok.kl]; exact hr
  unfold Tb.kind
  rw [List.getD_eq_getElem?_getD, List.getElem?_eq_getElem this]
  rfl
section
variable {T : Tb} {r c : Nat} {h : IH}
theorem ix_goes (ok : T.Ok) (hr : r < T.n) (hc : c ∈ T.sig) : ∃ (row : List Nat) (i : Nat), dIx (.tup (T.goes.map gT)) (.int (r : Nat)) h = .ok (.tup (row.map nD)) h ∧ fFind (.str T.sig) [.str [c]] h = .ok (.int (i : Nat)) h ∧ dIx (.tup (row.map nD)) (.int (i : Nat)) h = .ok (.int (T.go r c : Nat)) h := by
  obtain ⟨row, i, e1, e2, e3, _⟩ := ok.go hr hc
  exact ⟨row, i, dIx_nat (xs := T.goes.map gT) rfl (by rw [List.getElem?_map, e1]; rfl), by show R.ok (D.int (match fnd c T.sig with | some i => (i : Int) | none => -1)) h = _; rw [e2], dIx_nat (xs := row.map nD) rfl (by rw [List.getElem?_map, e3]; rfl)⟩
theorem ix_kind (ok : T.Ok) (hr : r < T.n) : dIx (.tup (T.kinds.map D.int)) (.int (r : Nat)) h = .ok (.int (T.kind r)) h := dIx_nat (xs := T.kinds.map D.int) rfl (by rw [List.getElem?_map, ok.kindAt hr]; rfl)
theorem tT0 : dIx T.enc (.int 0) h = .ok (.str T.sig) h := dIx_seq (xs := [.str T.sig, .tup (T.goes.map gT), .tup (T.kinds.map D.int)]) rfl (by omega) rfl
theorem tT1 : dIx T.enc (.int 1) h = .ok (.tup (T.goes.map gT)) h := dIx_seq (xs := [.str T.sig, .tup (T.goes.map gT), .tup (T.kinds.map D.int)]) rfl (by omega) rfl
theorem tT2 : dIx T.enc (.int 2) h = .ok (.tup (T.kinds.map D.int)) h := dIx_seq (xs := [.str T.sig, .tup (T.goes.map gT), .tup (T.kinds.map D.int)]) rfl (by omega) rfl
theorem ix_row {r : Nat} {row : List Nat} (e : T.goes[r]? = some row) : dIx (.tup (T.goes.map gT)) (.int (r : Nat)) h = .ok (gT row) h := dIx_nat (xs := T.goes.map gT) rfl (by simp [e])
theorem Tb.Ok.rowAt (ok : T.Ok) {r : Nat} (hr : r < T.n) : ∃ row, T.goes[r]? = some row ∧ row.length = T.sig.length ∧ ∀ x ∈ row, x < T.n :=
  ⟨_, List.getElem?_eq_getElem hr, ok.row _ (List.getElem_mem hr)⟩
end
end NR

set_option Elab.async false
set_option linter.all false
set_option maxRecDepth 100000
set_option maxHeartbeats 4000000
namespace NR
open PySem PySem.Spec PyProof.Rows L2
inductive Led (goes : List (List Nat)) : Nat → Prop
  | zero : Led goes 0
  | step {r s k : Nat} {row : List Nat} (h : Led goes r) (e : goes[r]? = some row) (e2 : row[k]? = some s) : Led goes s
/-! ### the order of the rooms -/
def addNi (rs row : List Nat) : List Nat := row.foldl (fun rs s => if s ∈ rs then rs else rs ++ [s]) rs
theorem addNi_cons {rs row : List Nat} {s : Nat} : addNi rs (s :: row) = addNi (if s ∈ rs then rs else rs ++ [s]) row := rfl
theorem addNi_pre : ∀ (row rs : List Nat), rs <+: addNi rs row
  | [], rs => List.prefix_rfl
  | s :: row, rs => by
    rw [addNi_cons]
    split
    · exact addNi_pre row rs
    · exact (List.prefix_append rs [s]).trans (addNi_pre row (rs ++ [s]))
theorem addNi_mem : ∀ {row rs : List Nat} {t : Nat}, t ∈ addNi rs row ↔ t ∈ rs ∨ t ∈ row
  | [], rs, t => by simp [addNi]
  | s :: row, rs, t => by
    rw [addNi_cons, addNi_mem]
    split
    · rename_i q
      simp only [List.mem_cons]
      constructor
      · rintro (a | a)
        · exact .inl a
        · exact .inr (.inr a)
      · rintro (a | rfl | a)
        · exact .inl a
        · exact .inl q
        · exact .inr a
    · simp only [List.mem_append, List.mem_cons, List.mem_singleton, List.not_mem_nil, or_false]
      constructor
      · rintro ((a | a) | a)
        · exact .inl a
        · exact .inr (.inl a)
        · exact .inr (.inr a)
      · rintro (a | a | a)
        · exact .inl (.inl a)
        · exact .inl (.inr a)
        · exact .inr a
theorem addNi_nodup : ∀ {row rs : List Nat}, rs.Nodup → (addNi rs row).Nodup
  | [], rs, h => h
  | s :: row, rs, h => by
    rw [addNi_cons]
    split
    · exact addNi_nodup h
    · rename_i q
      exact addNi_nodup (List.nodup_append.mpr ⟨h, by simp, fun a ha b hb => by
        simp at hb
        subst hb
        exact fun z => q (z ▸ ha)⟩)
def Tb.ord (T : Tb) : Nat → List Nat
  | 0 => [0]
  | k + 1 => match (T.ord k)[k]? with
    | some r => addNi (T.ord k) (T.goes.getD r [])
    | none => T.ord k
def Tb.order (T : Tb) : List Nat := T.ord T.n
def Tb.E (T : Tb) (r s : Nat) : Prop := ∃ row, T.goes[r]? = some row ∧ s ∈ row
section
variable {T : Tb} {h : IH}
theorem ord_pre1 {k : Nat} : T.ord k <+: T.ord (k + 1) := by
  rw [Tb.ord]
  split
  · exact addNi_pre _ _
  · exact List.prefix_rfl
theorem ord_pre {k : Nat} : ∀ (d : Nat), T.ord k <+: T.ord (k + d)
  | 0 => List.prefix_rfl
  | d + 1 => (ord_pre d).trans ord_pre1
theorem ord_nodup : ∀ {k : Nat}, (T.ord k).Nodup
  | 0 => by simp [Tb.ord]
  | k + 1 => by
    rw [Tb.ord]
    split
    · exact addNi_nodup ord_nodup
    · exact ord_nodup
theorem Tb.Ok.ord_lt (ok : T.Ok) : ∀ {k s : Nat}, s ∈ T.ord k → s < T.n
  | 0, s, h => by
    simp [Tb.ord] at h
    subst h
    exact ok.g1
  | k + 1, s, h => by
    rw [Tb.ord] at h
    split at h
    · rename_i r hr
      rcases addNi_mem.mp h with h | h
      · exact ok.ord_lt h
      · have hr2 := ok.ord_lt (List.mem_of_getElem? hr)
        obtain ⟨row, e, _, hx⟩ := ok.rowAt hr2
        rw [List.getD_eq_getElem?_getD, e] at h
        exact hx s h
    · exact ok.ord_lt h
theorem Tb.Ok.ord_len (ok : T.Ok) (k : Nat) : (T.ord k).length ≤ T.n := nodup_len T.n _ ord_nodup fun x hx => ok.ord_lt hx
theorem ord_stop {k : Nat} (l : (T.ord k).length ≤ k) : ∀ d, T.ord (k + d) = T.ord k
  | 0 => rfl
  | d + 1 => by
    have ih := ord_stop l d
    show T.ord (k + d + 1) = _
    rw [Tb.ord, ih, List.getElem?_eq_none (by omega)]
theorem order_of {k : Nat} (l : (T.ord k).length ≤ k) (hk : k ≤ T.n) : T.order = T.ord k := by
  have := ord_stop l (T.n - k)
  rw [show k + (T.n - k) = T.n by omega] at this
  exact this
theorem order_at (ok : T.Ok) {k r : Nat} (e : T.order[k]? = some r) : (T.ord k)[k]? = some r := by
  have hl := (List.getElem?_eq_some_iff.mp e).1
  have hn := ok.ord_len T.n
  rcases Nat.lt_or_ge k (T.ord k).length with q | q
  · obtain ⟨t, ht⟩ := ord_pre (T := T) (k := k) (T.n - k)
    have hk : k + (T.n - k) = T.n := by
      have : T.order.length ≤ T.n := hn
      omega
    rw [hk] at ht
    rw [show T.order = T.ord T.n from rfl, ← ht, List.getElem?_append_left q] at e
    exact e
  · have hk : k ≤ T.n := by
      have : T.order.length ≤ T.n := hn
      omega
    rw [order_of q hk] at hl
    omega
theorem order_E (ok : T.Ok) {r s : Nat} (hr : r ∈ T.order) (e : T.E r s) : s ∈ T.order := by
  obtain ⟨k, hk⟩ := List.getElem?_of_mem hr
  have h1 := order_at ok hk
  have hl := (List.getElem?_eq_some_iff.mp hk).1
  have hn := ok.ord_len T.n
  obtain ⟨row, h2, h3⟩ := e
  have h4 : s ∈ T.ord (k + 1) := by
    rw [Tb.ord, h1]
    exact addNi_mem.mpr (.inr (by rw [List.getD_eq_getElem?_getD, h2]; exact h3))
  obtain ⟨t, ht⟩ := ord_pre (T := T) (k := k + 1) (T.n - (k + 1))
  have : T.order.length ≤ T.n := hn
  rw [show k + 1 + (T.n - (k + 1)) = T.n by omega] at ht
  exact (show s ∈ T.ord T.n from ht ▸ List.mem_append_left t h4)
theorem zero_order (ok : T.Ok) : 0 ∈ T.order := by
  obtain ⟨t, ht⟩ := ord_pre (T := T) (k := 0) T.n
  rw [Nat.zero_add] at ht
  show 0 ∈ T.ord T.n
  exact ht ▸ List.mem_append_left t (by simp [Tb.ord])
theorem led_order (ok : T.Ok) {r : Nat} (l : Led T.goes r) : r ∈ T.order := by
  induction l with
  | zero => exact zero_order ok
  | step _ e e2 ih => exact order_E ok ih ⟨_, e, List.mem_of_getElem? e2⟩
/-! ### in_order -/
def ioD (rs : List Nat) : List (DKey × D) := dkN (fun _ => D.bl true) (rs.map fun r => (r, ()))
def ioH (h : IH) (rs : List Nat) : IH := h ++ [.lst (rs.map nD), .dk (ioD rs)]
theorem ioH_0 {rs : List Nat} : (ioH h rs)[h.length]? = some (.lst (rs.map nD)) := get_app0
theorem ioH_1 {rs : List Nat} : (ioH h rs)[h.length + 1]? = some (.dk (ioD rs)) := get_app
def ioE (goes : D) (n : Nat) (k x : Option D) : EV := [some goes, some (.ref n), some (.ref (n + 1)), k, x]
theorem lookN_keys {rs : List Nat} {s : Nat} : lookN (rs.map fun r => (r, ())) s = if s ∈ rs then some () else none := by
  by_cases q : s ∈ rs
  · rw [if_pos q]
    cases e : lookN (rs.map fun r => (r, ())) s with
    | some a => rfl
    | none => exact absurd (by simpa using q) (lookN_none.mp e)
  · rw [if_neg q]
    exact lookN_none.mpr (by simpa using q)
theorem io_turn {goes : D} {rs : List Nat} {s : Nat} {k x : Option D} (rl : rs.length ≤ 1000) : b_in_order_1 (ioE goes h.length k (some (nD s))) (ioH h rs) = .nx (ioE goes h.length k (some (nD s))) (ioH h (if s ∈ rs then rs else rs ++ [s])) := by
  have d1 : dDIn true (.int (s : Nat)) (.ref (h.length + 1)) (ioH h rs) = .ok (.bl (decide (s ∉ rs))) (ioH h rs) := by
    rw [dDIn_dk (f := fun _ => D.bl true) ioH_1, lookN_keys]
    by_cases q : s ∈ rs <;> simp [q]
  unfold b_in_order_1 ioE
  by_cases q : s ∈ rs
  · simp [nD, d1, q]
  · have d2 : putDD (.ref (h.length + 1)) (.int (s : Nat)) (.bl true) (ioH h rs) = some (h ++ [.lst (rs.map nD), .dk (ioD (rs ++ [s]))]) := by
      rw [putDD_dk (f := fun _ : Unit => D.bl true) (a := ()) ioH_1 (by rw [lookN_keys, if_neg q]) (by rw [List.length_map]; omega)]
      unfold ioH
      rw [set_app]
      simp [ioD]
    have g1 : (h ++ [Cell.lst (rs.map nD), .dk (ioD (rs ++ [s]))])[h.length]? = some (.lst (rs.map nD)) := get_app0
    have d3 : fAppend (.ref h.length) [.int (s : Nat)] (h ++ [.lst (rs.map nD), .dk (ioD (rs ++ [s]))]) = .ok .non (ioH h (rs ++ [s])) := by
      rw [append_at g1 (by rw [List.length_map]; omega), set_app0]
      simp [ioH, nD]
    have d4 : tyD "list" (h ++ [.lst (rs.map nD), .dk (ioD (rs ++ [s]))]) (.ref h.length) = true := tyD_ref g1
    simp [nD, d1, q, d2, d3, d4]
theorem io_row {goes : D} {k : Option D} : ∀ (row rs : List Nat) (x : Option D), rs.length + row.length ≤ 1000 → ∃ x', forL (gSet 4) b_in_order_1 (row.map nD) (ioE goes h.length k x) (ioH h rs) = .nx (ioE goes h.length k x') (ioH h (addNi rs row))
  | [], rs, x, _ => ⟨x, rfl⟩
  | s :: row, rs, x, l => by
    rw [List.length_cons] at l
    obtain ⟨x', e⟩ := io_row (goes := goes) (k := k) row (if s ∈ rs then rs else rs ++ [s]) (some (nD s)) (by
      split
      · omega
      · rw [List.length_append, List.length_singleton]; omega)
    refine ⟨x', ?_⟩
    rw [List.map_cons, forL_cons rfl, show (ioE goes h.length k x).set 4 (some (nD s)) = ioE goes h.length k (some (nD s)) from rfl, io_turn (x := x) (by omega), on_nx, e, addNi_cons]
theorem in_order_call (ok : T.Ok) (h : IH) : callC 1 m_in_order [.tup (T.goes.map gT)] h = .ok (.fl (T.order.map nD)) h := by
  have n32 : T.n ≤ 32 := ok.g2
  obtain ⟨m, _, _, e, ⟨k, x, rfl, rfl, hk, rfl⟩, e2⟩ := while_nx (c := t_in_order_2) (s := b_in_order_3) (fun m env h' => ∃ (k : Nat) (x : Option D), env = ioE (.tup (T.goes.map gT)) h.length (some (.int (k : Nat))) x ∧ h' = ioH h (T.ord k) ∧ k ≤ T.n ∧ m = T.n - k) T.n _ (ioH h (T.ord 0)) ⟨0, none, rfl, rfl, Nat.zero_le _, rfl⟩ (by
    rintro m _ _ ⟨k, x, rfl, rfl, hk, rfl⟩
    have ol := ok.ord_len k
    have bl : bLen [.ref h.length] (ioH h (T.ord k)) = .ok (.int ((T.ord k).length : Nat)) (ioH h (T.ord k)) := by
      rw [bLen_ref ioH_0, List.length_map]
    by_cases q : k < (T.ord k).length
    · refine .inl ?_
      have hr : (T.ord k)[k]? = some (T.ord k)[k] := List.getElem?_eq_getElem q
      generalize (T.ord k)[k] = r at hr
      have hrn := ok.ord_lt (List.mem_of_getElem? hr)
      obtain ⟨row, e1, e3, e4⟩ := ok.rowAt hrn
      have rl : row.length ≤ 6 := by rw [e3]; exact ok.tg.l2
      have i1 : dIx (.ref h.length) (.int (k : Nat)) (ioH h (T.ord k)) = .ok (nD r) (ioH h (T.ord k)) := dIx_nat (seqOf_ref ioH_0) (by simp [hr])
      have i2 := ix_row (h := ioH h (T.ord k)) e1
      obtain ⟨x', e5⟩ := io_row (h := h) (goes := .tup (T.goes.map gT)) (k := some (.int (k : Nat))) row (T.ord k) x (by omega)
      refine ⟨ioE (.tup (T.goes.map gT)) h.length (some (.int ((k : Nat) + 1))) x', ioH h (T.ord (k + 1)), ?_, ?_, T.n - (k + 1), by omega, k + 1, x', rfl, rfl, by omega, rfl⟩
      · unfold t_in_order_2 ioE
        simp [bl, q]
      · have er : T.ord (k + 1) = addNi (T.ord k) row := by
          rw [Tb.ord, hr]
          simp [List.getD_eq_getElem?_getD, e1]
        have it : iSeq (mOp dIx (mVar 0) (mOp dIx (mVar 1) (mVar 3))) (ioE (.tup (T.goes.map gT)) h.length (some (.int (k : Nat))) x) (ioH h (T.ord k)) = .ok (.st (row.map nD)) (ioH h (T.ord k)) := by
          unfold ioE
          simp [i1, nD, i2, gT]
        unfold b_in_order_3
        rw [ap_msCons, ap_msFor, it, bindS_ok, forM_forL, e5, er]
        unfold ioE
        simp
    · refine .inr ?_
      unfold t_in_order_2 ioE
      simp [bl, q])
  have bl : bLen [.ref h.length] (ioH h (T.ord k)) = .ok (.int ((T.ord k).length : Nat)) (ioH h (T.ord k)) := by
    rw [bLen_ref ioH_0, List.length_map]
  have q : (T.ord k).length ≤ k := by
    unfold t_in_order_2 ioE at e2
    simp [bl] at e2
    omega
  rw [order_of q hk]
  refine callC_pure rfl (g := [.frz ((T.ord k).map nD), .dk (ioD (T.ord k))]) ?_ (by simp)
  have md : mDict [(mC (.int 0), mC (.bl true))] [some (.tup (T.goes.map gT)), some (.ref h.length), none, none, none] (h ++ [.lst [.int 0]]) = .ok (.ref (h.length + 1)) (h ++ [.lst [.int 0], .dk [(.inl 0, .bl true)]]) := by
    rw [ap_mDict1 (k := .int 0) (v := .bl true) (kd := .inl 0) rfl rfl rfl]
    simp
  have h0 : h ++ [Cell.lst [D.int 0], .dk [(.inl 0, .bl true)]] = ioH h (T.ord 0) := rfl
  unfold m_in_order
  simp [newL, md]
  rw [h0]
  rw [show ([some (D.tup (T.goes.map gT)), some (.ref h.length), some (.ref (h.length + 1)), some (.int 0), none] : EV) = ioE (.tup (T.goes.map gT)) h.length (some (.int ((0 : Nat) : Int))) none from rfl, e]
  rw [then_nx, ap_msFz (n := h.length) (xs := (T.ord k).map nD) rfl ioH_0]
  unfold ioE ioH
  simp [set_app0]
end
end NR

set_option Elab.async false
set_option linter.all false
set_option maxRecDepth 100000
set_option maxHeartbeats 4000000
namespace NR
open PySem PySem.Spec PyProof.Rows L2
/-! ### classes_of -/
theorem imax_of {l : List Int} {m : Int} (hm : m ∈ l) (hb : ∀ x ∈ l, x ≤ m) : imax l = m := by
  cases l with
  | nil => cases hm
  | cons x xs =>
    obtain ⟨a, b⟩ := imax_go xs x
    have h1 := b m hm
    have h2 := hb _ a
    show xs.foldl (fun a b => if b > a then b else a) x = m
    omega
section
variable {goes : List (List Nat)} {kinds : List Int} {S n : Nat} {h : IH}
theorem mx_call {M : List Nat} (can : Can M) (ne : M ≠ []) (h : IH) : bMax1T [.fl (M.map nD)] h = .ok (.int ((nCls M : Nat) - 1)) h := by
  obtain ⟨a, b⟩ := can_max can ne
  have c := nCls_pos ne
  rw [nD_map, bMax1T_fl (by rw [List.length_map]; exact List.length_pos_iff.mpr ne)]
  rw [imax_of (m := ((nCls M : Nat) : Int) - 1) (List.mem_map.mpr ⟨_, b, by omega⟩) (fun x hx => by
    obtain ⟨q, hq, rfl⟩ := List.mem_map.mp hx
    have := a q hq
    omega)]
theorem cl_loop (gl : goes.length = n) (n1 : 1 ≤ n) (n100 : n ≤ 5000) (s10 : S ≤ 10) (row : ∀ r ∈ goes, r.length = S ∧ ∀ t ∈ r, t < goes.length) : ∀ (f many : Nat) (M : List Nat), n + 1 ≤ f + many → MkM goes kinds M → (many = 0 ∨ ∃ M', MkM goes kinds M' ∧ M = finB goes M' ∧ many = nCls M') →
    ∃ (M2 : List Nat) (y : Option D), msWhile t_classes_of_1 b_classes_of_2 [some (.fl (goes.map rF)), some (.fl (kinds.map D.int)), some (.int (n : Nat)), some (.fl (M.map nD)), some (.int (many : Nat))] h = .nx [some (.fl (goes.map rF)), some (.fl (kinds.map D.int)), some (.int (n : Nat)), some (.fl (M2.map nD)), y] h ∧ ClsM goes kinds M2 := by
  intro f
  induction f with
  | zero =>
    intro many M hf hM hmany
    exfalso
    rcases hmany with z | ⟨M', h1, _, rfl⟩
    · omega
    · have := nCls_le (ks := M')
      rw [h1.len] at this
      omega
  | succ f ih =>
    intro many M hf hM hmany
    have ne : M ≠ [] := fun z => by have := hM.len; rw [z] at this; simp at this; omega
    have mx := mx_call hM.can ne h
    have cn : nCls M ≤ n := by have := nCls_le (ks := M); rw [hM.len] at this; omega
    have fc := finer_call (goes := goes) (M := M) (S := S) hM.len (by omega) (by omega) s10 row h
    have rw1 : ∀ r ∈ goes, r.length = S := fun r hr => (row r hr).1
    by_cases q : many < nCls M
    · obtain ⟨M2, y, e, c⟩ := ih (nCls M) (finB goes M) (by omega) (mk_finer rw1 hM) (.inr ⟨M, hM, rfl, rfl⟩)
      refine ⟨M2, y, ?_, c⟩
      have ec : ((nCls M : Nat) : Int) - 1 + 1 = (nCls M : Nat) := by omega
      generalize nCls M = cm at *
      have t : t_classes_of_1 [some (.fl (goes.map rF)), some (.fl (kinds.map D.int)), some (.int (n : Nat)), some (.fl (M.map nD)), some (.int (many : Nat))] h = .ok true h := by
        have q1 : (many : Int) < (cm : Nat) := by omega
        have q2 : ((cm : Nat) : Int) ≤ (n : Nat) := by omega
        clear e
        unfold t_classes_of_1
        generalize M.map nD = MM at *
        generalize goes.map rF = GG at *
        generalize kinds.map D.int = KK at *
        simp [mx, ec, q, q1, q2, cn]
      have b : b_classes_of_2 [some (.fl (goes.map rF)), some (.fl (kinds.map D.int)), some (.int (n : Nat)), some (.fl (M.map nD)), some (.int (many : Nat))] h = .nx [some (.fl (goes.map rF)), some (.fl (kinds.map D.int)), some (.int (n : Nat)), some (.fl ((finB goes M).map nD)), some (.int (cm : Nat))] h := by
        clear e
        unfold b_classes_of_2
        generalize (finB goes M).map nD = FM at *
        generalize M.map nD = MM at *
        generalize goes.map rF = GG at *
        generalize kinds.map D.int = KK at *
        simp [mx, ec, fc]
      rw [msWhile_eq, t]
      dsimp only
      rw [b]
      exact e
    · refine ⟨M, some (.int (many : Nat)), ?_, ⟨hM, ?_⟩⟩
      rotate_left
      · have c1 := nCls_pos ne
        rcases hmany with z | ⟨M', h1, h2, h3⟩
        · omega
        · have g := fin_ge (goes := goes) h1.len
          rw [← h2] at g
          have hs := fin_same (goes := goes) h1.can h1.len (by rw [← h2]; omega)
          rw [← h2] at hs
          rw [hs] at h2 ⊢
          exact h2.symm
      · have ec : ((nCls M : Nat) : Int) - 1 + 1 = (nCls M : Nat) := by omega
        have t : t_classes_of_1 [some (.fl (goes.map rF)), some (.fl (kinds.map D.int)), some (.int (n : Nat)), some (.fl (M.map nD)), some (.int (many : Nat))] h = .ok false h := by
          have q1 : ¬ (many : Int) < (nCls M : Nat) := by omega
          unfold t_classes_of_1
          generalize nCls M = cm at *
          generalize M.map nD = MM at *
          generalize goes.map rF = GG at *
          generalize kinds.map D.int = KK at *
          simp [mx, ec, q, q1]
        rw [msWhile_eq, t]
theorem classes_call (gl : goes.length = n) (kl : kinds.length = n) (n1 : 1 ≤ n) (n100 : n ≤ 5000) (s10 : S ≤ 10) (row : ∀ r ∈ goes, r.length = S ∧ ∀ t ∈ r, t < goes.length) : ∃ M, ClsM goes kinds M ∧ ∀ h, callC 3 m_classes_of [.fl (goes.map rF), .fl (kinds.map D.int), .int (n : Nat)] h = .ok (.fl (M.map nD)) h := by
  have nk := fun h => numbered_kinds (kinds := kinds) (by omega) h
  have m0 := mk_first (goes := goes) (kinds := kinds) (by omega)
  have key : ∀ h : IH, ∃ M2 y, msWhile t_classes_of_1 b_classes_of_2 [some (.fl (goes.map rF)), some (.fl (kinds.map D.int)), some (.int (n : Nat)), some (.fl ((numB kinds).map nD)), some (.int ((0 : Nat) : Int))] h = .nx [some (.fl (goes.map rF)), some (.fl (kinds.map D.int)), some (.int (n : Nat)), some (.fl (M2.map nD)), y] h ∧ ClsM goes kinds M2 := fun h => cl_loop gl n1 n100 s10 row (n + 1) 0 (numB kinds) (by omega) m0 (.inl rfl)
  obtain ⟨M, _, _, cM⟩ := key []
  refine ⟨M, cM, fun h => ?_⟩
  obtain ⟨M2, y, e, c⟩ := key h
  have eM : M2 = M := by
    -- both are coarsest and stable
    have hb : ∀ {M M' : List Nat}, ClsM goes kinds M → ClsM goes kinds M' → ∀ i j, i < goes.length → j < goes.length → M.getD i 0 = M.getD j 0 → M'.getD i 0 = M'.getD j 0 := fun {M M'} a b i j hi hj e => by
      refine b.co (fun i j => i < goes.length ∧ j < goes.length ∧ M.getD i 0 = M.getD j 0) (fun i j ⟨hi, hj, he⟩ => ⟨hi, hj, a.kd i j hi hj he, fun s => ?_⟩) i j ⟨hi, hj, e⟩
      have st := a.step (S := S) (fun r hr => (row r hr).1) hi hj he
      have ri := row (goes.getD i []) (by rw [List.getD_eq_getElem?_getD, List.getElem?_eq_getElem hi]; exact List.getElem_mem hi)
      have rj := row (goes.getD j []) (by rw [List.getD_eq_getElem?_getD, List.getElem?_eq_getElem hj]; exact List.getElem_mem hj)
      by_cases q : s < S
      · refine .inl ⟨ri.2 _ (getD_mem (by omega)), rj.2 _ (getD_mem (by omega)), ?_⟩
        have := congrArg (fun l => l[s]?) st
        simp only [List.getElem?_map] at this
        rw [get_getD (show s < (goes.getD i []).length by omega), get_getD (show s < (goes.getD j []).length by omega)] at this
        simpa using this
      · exact .inr (by omega)
    have := (numB_congr (ks := M2) (ks' := M) (by rw [c.len, cM.len]) (fun i j a b a' b' h1 h2 h3 h4 => by
      have il : i < goes.length := by rw [← c.len]; exact (List.getElem?_eq_some_iff.mp h1).1
      have jl : j < goes.length := by rw [← c.len]; exact (List.getElem?_eq_some_iff.mp h2).1
      have x1 := hb c cM i j il jl
      have x2 := hb cM c i j il jl
      simp only [List.getD_eq_getElem?_getD, h1, h2, h3, h4, Option.getD_some] at x1 x2
      exact ⟨x1, x2⟩)).1
    rw [show numB M2 = M2 from c.can, show numB M = M from cM.can] at this
    exact this
  subst eM
  have ne : M2 ≠ [] := fun z => by have := c.len; rw [z] at this; simp at this; omega
  have mx := mx_call c.can ne h
  have cn : nCls M2 ≤ n := by have := nCls_le (ks := M2); rw [c.len] at this; omega
  refine callC_same rfl ?_
  unfold m_classes_of
  rw [ap_fnM]
  simp only [List.map_cons, List.map_nil, List.length_cons, List.length_nil, List.cons_append, List.nil_append, Nat.reduceAdd, Nat.reduceSub, List.replicate]
  refine stN (env2 := [some (.fl (goes.map rF)), some (.fl (kinds.map D.int)), some (.int (n : Nat)), some (.fl ((numB kinds).map nD)), none]) (h2 := h) (by
    have nk := nk h
    clear e mx
    generalize (numB kinds).map nD = NN at *
    generalize goes.map rF = GG at *
    generalize kinds.map D.int = KK at *
    simp [nk]) ?_
  refine stN (env2 := [some (.fl (goes.map rF)), some (.fl (kinds.map D.int)), some (.int (n : Nat)), some (.fl ((numB kinds).map nD)), some (.int ((0 : Nat) : Int))]) (h2 := h) (by
    clear e mx
    generalize (numB kinds).map nD = NN at *
    generalize goes.map rF = GG at *
    generalize kinds.map D.int = KK at *
    simp) ?_
  refine stN e ?_
  have ec : ((nCls M2 : Nat) : Int) - 1 + 1 = (nCls M2 : Nat) := by omega
  have q2 : ¬ (n : Int) < (nCls M2 : Nat) := by omega
  clear e
  generalize nCls M2 = cm at *
  generalize M2.map nD = MM at *
  generalize goes.map rF = GG at *
  generalize kinds.map D.int = KK at *
  have cn' : ¬ n < cm := by omega
  simp [mx, ec, q2, cn']
end
end NR

set_option Elab.async false
set_option linter.all false
set_option maxRecDepth 100000
set_option maxHeartbeats 4000000
namespace NR
open PySem PySem.Spec PyProof.Rows L2
/-! ### put_in_order, joined -/
/-- a list that is written at the places of P -/
theorem wr_of {n : Nat} {P Q : List Nat} {v : Nat → Nat} (pm : P.Perm (List.range n)) (ql : Q.length = n) (h : ∀ j, j < n → Q[P.getD j 0]? = some (v j)) : Q = (List.range n).map fun r => v (P.idxOf r) := by
  have pl : P.length = n := by rw [pm.length_eq, List.length_range]
  apply List.ext_getElem?
  intro r
  by_cases hr : r < n
  · have rm : r ∈ P := pm.mem_iff.mpr (List.mem_range.mpr hr)
    have hi : P.idxOf r < P.length := List.idxOf_lt_length_iff.mpr rm
    have := h (P.idxOf r) (by omega)
    have ep : P.getD (P.idxOf r) 0 = r := by
      rw [List.getD_eq_getElem?_getD, List.getElem?_eq_getElem hi]
      exact List.getElem_idxOf hi
    rw [ep] at this
    rw [this, List.getElem?_map, List.getElem?_range hr]
    rfl
  · rw [List.getElem?_eq_none (by omega), List.getElem?_eq_none (by simp; omega)]
/-- the write of one of them -/
theorem wr_step {P Q : List Nat} {n i : Nat} {v : Nat → Nat} (nd : P.Nodup) (pl : P.length = n) (ql : Q.length = n) (hi : i < n) (hp : P.getD i 0 < n) (h : ∀ j, j < i → Q[P.getD j 0]? = some (v j)) : ∀ j, j < i + 1 → (Q.set (P.getD i 0) (v i))[P.getD j 0]? = some (v j) := fun j hj => by
  by_cases q : j = i
  · subst q
    rw [List.getElem?_set_self (by omega)]
  · have ne : P.getD i 0 ≠ P.getD j 0 := fun z => by
      have h1 := get_getD (l := P) (i := i) (by omega)
      have h2 := get_getD (l := P) (i := j) (by omega)
      have := (List.getElem_inj nd (h₀ := (show i < P.length by omega)) (h₁ := (show j < P.length by omega))).mp (by
        rw [List.getElem?_eq_getElem (by omega)] at h1 h2
        injection h1 with h1
        injection h2 with h2
        rw [h1, h2, z])
      omega
    rw [List.getElem?_set_ne ne]
    exact h j (by omega)
section
variable {T : Tb} {h : IH}
/-- all rooms are led to -/
def Tb.All (T : Tb) : Prop := ∀ r, r < T.goes.length → Led T.goes r
theorem order_perm (ok : T.Ok) (al : T.All) : T.order.Perm (List.range T.goes.length) := by
  refine (List.perm_ext_iff_of_nodup ord_nodup List.nodup_range).mpr fun r => ?_
  rw [List.mem_range]
  exact ⟨fun hr => ok.ord_lt hr, fun hr => led_order ok (al r hr)⟩
/-- the goes and kinds in order -/
def Tb.og (T : Tb) : List (List Nat) := T.order.map fun r => (T.goes.getD r []).map fun t => T.order.idxOf t
def Tb.ok' (T : Tb) : List Int := T.order.map fun r => T.kinds.getD r 0
theorem og_len (ok : T.Ok) (al : T.All) : T.og.length = T.goes.length := by
  unfold Tb.og
  rw [List.length_map, (order_perm ok al).length_eq, List.length_range]
theorem og_row (ok : T.Ok) (al : T.All) : ∀ r ∈ T.og, r.length = T.sig.length ∧ ∀ x ∈ r, x < T.og.length := fun r hr => by
  unfold Tb.og at hr
  obtain ⟨q, hq, rfl⟩ := List.mem_map.mp hr
  have pm := order_perm ok al
  have hq2 := List.mem_range.mp (pm.mem_iff.mp hq)
  obtain ⟨a, b⟩ := ok.row (T.goes.getD q []) (by rw [List.getD_eq_getElem?_getD, List.getElem?_eq_getElem hq2]; exact List.getElem_mem hq2)
  refine ⟨by rw [List.length_map, a], fun x hx => ?_⟩
  obtain ⟨t, ht, rfl⟩ := List.mem_map.mp hx
  rw [og_len ok al, ← List.length_range (n := T.goes.length), ← pm.length_eq]
  exact List.idxOf_lt_length_iff.mpr (pm.mem_iff.mpr (List.mem_range.mpr (b t ht)))
theorem put_call (ok : T.Ok) (al : T.All) (h : IH) : callC 1 m_put_in_order [T.enc] h = .ok (.tup [.fl (T.og.map rF), .fl (T.ok'.map D.int)]) h := by
  have pm := order_perm ok al
  have nd : T.order.Nodup := ord_nodup
  have ol : T.order.length = T.goes.length := by rw [pm.length_eq, List.length_range]
  have n32 := ok.g2
  have io := fun h => in_order_call ok h
  have olt : ∀ q ∈ T.order, q < T.goes.length := fun q hq => List.mem_range.mp (pm.mem_iff.mp hq)
  -- places
  have main : ∀ (n i : Nat) (Q : List Nat) (x3 x4 : Option D), i + n = T.order.length → Q.length = T.goes.length → (∀ j, j < i → Q[T.order.getD j 0]? = some j) → ∃ (Q' : List Nat) (y3 y4 : Option D), forL (gSets [3, 4]) b_put_in_order_2 (((T.order.drop i).map nD).mapIdx fun j x => .tup [.int ((i + j : Nat) : Int), x]) [some T.enc, some (.fl (T.order.map nD)), some (.ref h.length), x3, x4, none, none] (h ++ [.lst (Q.map nD)]) = .nx [some T.enc, some (.fl (T.order.map nD)), some (.ref h.length), y3, y4, none, none] (h ++ [.lst (Q'.map nD)]) ∧ Q'.length = T.goes.length ∧ ∀ j, j < T.order.length → Q'[T.order.getD j 0]? = some j := by
    intro n
    induction n with
    | zero =>
      intro i Q x3 x4 e ql hq
      rw [List.drop_of_length_le (by omega)]
      exact ⟨Q, x3, x4, rfl, ql, fun j hj => hq j (by omega)⟩
    | succ n ih =>
      intro i Q x3 x4 e ql hq
      have hi : i < T.order.length := by omega
      have er := get_getD hi
      have el := olt _ (getD_mem hi)
      have ws := wr_step (v := fun j => j) nd ol ql (by omega) el hq
      have ed : T.order.drop i = T.order.getD i 0 :: T.order.drop (i + 1) := by
        rw [List.drop_eq_getElem_cons hi, List.getD_eq_getElem?_getD, List.getElem?_eq_getElem hi]
        rfl
      rw [ed]
      generalize T.order.getD i 0 = r at *
      obtain ⟨Q', y3, y4, ih, a, b⟩ := ih (i + 1) (Q.set r i) (some (.int ((i + 0 : Nat) : Int))) (some (nD r)) (by omega) (by rw [List.length_set, ql]) ws
      refine ⟨Q', y3, y4, ?_, a, b⟩
      have sh : (fun (j : Nat) (x : D) => D.tup [.int ((i + (j + 1) : Nat) : Int), x]) = fun j x => D.tup [.int ((i + 1 + j : Nat) : Int), x] := by
        funext j x
        rw [show i + (j + 1) = i + 1 + j by omega]
      rw [List.map_cons, List.mapIdx_cons, sh, forL_cons (e1 := [some T.enc, some (.fl (T.order.map nD)), some (.ref h.length), some (.int ((i + 0 : Nat) : Int)), some (nD r), none, none]) rfl]
      simp only [Nat.add_zero] at ih ⊢
      have pd : putD (.ref h.length) (.int (r : Nat)) (.int (i : Nat)) (h ++ [.lst (Q.map nD)]) = some (h ++ [.lst ((Q.set r i).map nD)]) := by
        rw [putD_ref (xs := Q.map nD) get_app0 (by omega) (by rw [List.length_map]; omega), set_app0]
        rw [show ((r : Nat) : Int).toNat = r by omega, map_set_nD]
        rfl
      have ev : b_put_in_order_2 [some T.enc, some (.fl (T.order.map nD)), some (.ref h.length), some (.int (i : Nat)), some (nD r), none, none] (h ++ [.lst (Q.map nD)]) = .nx [some T.enc, some (.fl (T.order.map nD)), some (.ref h.length), some (.int (i : Nat)), some (nD r), none, none] (h ++ [.lst ((Q.set r i).map nD)]) := by
        clear ih ws b
        unfold b_put_in_order_2
        generalize h ++ [Cell.lst ((Q.set r i).map nD)] = H2 at *
        generalize h ++ [Cell.lst (Q.map nD)] = H1 at *
        generalize T.order.map nD = OO at *
        generalize T.enc = TE at *
        generalize h.length = n at *
        simp [nD, pd]
      rw [ev, on_nx, ih]
  obtain ⟨Q, y3, y4, fl, ql, qv⟩ := main T.order.length 0 (List.replicate T.order.length 0) none none (by omega) (by rw [List.length_replicate, ol]) (fun j hj => absurd hj (Nat.not_lt_zero _))
  have eQ := wr_of (v := fun j => j) pm ql (fun j hj => qv j (by omega))
  rw [List.drop_zero] at fl
  simp only [Nat.zero_add] at fl
  have qi : ∀ {t : Nat} (ht : t < T.goes.length) (h : IH), dIx (.fl (Q.map nD)) (.int (t : Nat)) h = .ok (.int (T.order.idxOf t : Nat)) h := fun {t} ht h => dIx_nat (xs := Q.map nD) rfl (by
    rw [List.getElem?_map, eQ, List.getElem?_map, List.getElem?_range ht]
    rfl)
  clear eQ qv main
  -- the rows
  have rows : ∀ (O : List Nat) (x4 : Option D) (GD : List (List Nat)), (∀ q ∈ O, q < T.goes.length) → GD.length + O.length ≤ 1000 → ∃ y4, forL (gSet 4) b_put_in_order_4 (O.map nD) [some T.enc, some (.fl (T.order.map nD)), some (.fl (Q.map nD)), y3, x4, some (.ref (h.length + 1)), none] (h ++ [.frz (Q.map nD), .lst (GD.map rF)]) = .nx [some T.enc, some (.fl (T.order.map nD)), some (.fl (Q.map nD)), y3, y4, some (.ref (h.length + 1)), none] (h ++ [.frz (Q.map nD), .lst ((GD ++ O.map fun r => (T.goes.getD r []).map fun t => T.order.idxOf t).map rF)]) := by
    intro O
    induction O with
    | nil =>
      intro x4 GD _ _
      exact ⟨x4, by rw [List.map_nil, List.map_nil, List.append_nil]; rfl⟩
    | cons r O ih =>
      intro x4 GD ho hl
      rw [List.length_cons] at hl
      have hr := ho r List.mem_cons_self
      have er : T.goes[r]? = some (T.goes.getD r []) := by
        rw [List.getD_eq_getElem?_getD, List.getElem?_eq_getElem hr]
        rfl
      have ro := ok.row _ (List.mem_of_getElem? er)
      have t6 := ok.tg.l2
      rw [List.map_cons, List.map_cons]
      generalize T.goes.getD r [] = row at *
      obtain ⟨y4, e⟩ := ih (some (nD r)) (GD ++ [row.map fun t => T.order.idxOf t]) (fun q hq => ho q (List.mem_cons_of_mem _ hq)) (by rw [List.length_append, List.length_singleton]; omega)
      refine ⟨y4, ?_⟩
      rw [forL_cons (e1 := [some T.enc, some (.fl (T.order.map nD)), some (.fl (Q.map nD)), y3, some (nD r), some (.ref (h.length + 1)), none]) rfl]
      have i1 := fun h => tT1 (T := T) (h := h)
      have i2 := fun h => ix_row (h := h) er
      have comp := lcF_map (it := iSeq (mOp dIx (mOp dIx (mVar 0) (mC (.int 1))) (mVar 4))) (ws := [6]) (gg := gSet 6) (m := e_put_in_order_3) (ds := row.map nD) (h := h ++ [.frz (Q.map nD), .lst (GD.map rF)]) (env := [some T.enc, some (.fl (T.order.map nD)), some (.fl (Q.map nD)), y3, some (nD r), some (.ref (h.length + 1)), none]) (fun d => match d with | .int i => nD (T.order.idxOf i.toNat) | d => d) (by
        have i1 := i1 (h ++ [.frz (Q.map nD), .lst (GD.map rF)])
        have i2 := i2 (h ++ [.frz (Q.map nD), .lst (GD.map rF)])
        clear e fl
        generalize h ++ [Cell.frz (Q.map nD), .lst (GD.map rF)] = H1 at *
        generalize Q.map nD = QQ at *
        generalize T.order.map nD = OO at *
        generalize T.goes.map gT = TG at *
        generalize T.enc = TE at *
        unfold gT at i2
        generalize row.map nD = RR at *
        simp [i1, nD, i2]) (by rw [List.length_map]; omega) (fun d hd => by
        obtain ⟨q, _, rfl⟩ := List.mem_map.mp hd
        rfl) (fun d hd => by
        obtain ⟨q, hq, rfl⟩ := List.mem_map.mp hd
        refine ⟨_, rfl, fun w => ?_⟩
        have ix := qi (ro.2 q hq) (h ++ [.frz (Q.map nD), .lst (GD.map rF)] ++ [w])
        clear e fl
        unfold e_put_in_order_3
        show _ = NR.R.ok (D.int (T.order.idxOf q : Nat)) _
        generalize T.order.idxOf q = mq at *
        generalize h ++ [.frz (Q.map nD), .lst (GD.map rF)] ++ [w] = H1 at *
        generalize Q.map nD = QQ at *
        generalize T.order.map nD = OO at *
        generalize T.enc = TE at *
        simp [wipeE, nD, ix])
      have em : (row.map nD).map (fun d => match d with | .int i => nD (T.order.idxOf i.toNat) | d => d) = (row.map fun t => T.order.idxOf t).map nD := by
        rw [List.map_map, List.map_map]
        rfl
      rw [em] at comp
      have c1 : (h ++ [Cell.frz (Q.map nD), .lst (GD.map rF)])[h.length + 1]? = some (.lst (GD.map rF)) := get_app
      have ty := tyD_ref c1
      have ap : fAppend (.ref (h.length + 1)) [.fl ((row.map fun t => T.order.idxOf t).map nD)] (h ++ [.frz (Q.map nD), .lst (GD.map rF)]) = .ok .non (h ++ [.frz (Q.map nD), .lst ((GD ++ [row.map fun t => T.order.idxOf t]).map rF)]) := by
        rw [append_at c1 (by rw [List.length_map]; omega), set_app, List.map_append]
        rfl
      have ev : b_put_in_order_4 [some T.enc, some (.fl (T.order.map nD)), some (.fl (Q.map nD)), y3, some (nD r), some (.ref (h.length + 1)), none] (h ++ [.frz (Q.map nD), .lst (GD.map rF)]) = .nx [some T.enc, some (.fl (T.order.map nD)), some (.fl (Q.map nD)), y3, some (nD r), some (.ref (h.length + 1)), none] (h ++ [.frz (Q.map nD), .lst ((GD ++ [row.map fun t => T.order.idxOf t]).map rF)]) := by
        clear e fl
        unfold b_put_in_order_4
        generalize mFz (mLc (iSeq (mOp dIx (mOp dIx (mVar 0) (mC (.int 1))) (mVar 4))) (gSet 6) mYes e_put_in_order_3 [6]) = CC at *
        generalize h ++ [Cell.frz (Q.map nD), .lst ((GD ++ [row.map fun t => T.order.idxOf t]).map rF)] = H2 at *
        generalize h ++ [Cell.frz (Q.map nD), .lst (GD.map rF)] = H1 at *
        generalize (row.map fun t => T.order.idxOf t).map nD = RM at *
        generalize Q.map nD = QQ at *
        generalize T.order.map nD = OO at *
        generalize T.enc = TE at *
        generalize h.length + 1 = n at *
        simp [comp, ty, ap]
      rw [ev, on_nx, e, List.append_assoc]
      rfl
  obtain ⟨y4', fr⟩ := rows T.order y4 [] olt (by rw [List.length_nil]; omega)
  rw [List.nil_append] at fr
  have fr : forL (gSet 4) b_put_in_order_4 (T.order.map nD) [some T.enc, some (.fl (T.order.map nD)), some (.fl (Q.map nD)), y3, y4, some (.ref (h.length + 1)), none] (h ++ [.frz (Q.map nD), .lst []]) = .nx [some T.enc, some (.fl (T.order.map nD)), some (.fl (Q.map nD)), y3, y4', some (.ref (h.length + 1)), none] (h ++ [.frz (Q.map nD), .lst (T.og.map rF)]) := fr
  have comp := lcF_map (it := iSeq (mVar 1)) (ws := [4]) (gg := gSet 4) (m := e_put_in_order_5) (ds := T.order.map nD) (h := h ++ [.frz (Q.map nD), .frz (T.og.map rF)]) (env := [some T.enc, some (.fl (T.order.map nD)), some (.fl (Q.map nD)), y3, y4', some (.fl (T.og.map rF)), none]) (fun d => match d with | .int i => .int (T.kinds.getD i.toNat 0) | d => d) rfl (by rw [List.length_map]; omega) (fun d hd => by
    obtain ⟨q, _, rfl⟩ := List.mem_map.mp hd
    rfl) (fun d hd => by
    obtain ⟨q, hq, rfl⟩ := List.mem_map.mp hd
    refine ⟨_, rfl, fun w => ?_⟩
    have i1 := tT2 (T := T) (h := h ++ [.frz (Q.map nD), .frz (T.og.map rF)] ++ [w])
    have hq2 := olt q hq
    have i2 : dIx (.tup (T.kinds.map D.int)) (.int (q : Nat)) (h ++ [.frz (Q.map nD), .frz (T.og.map rF)] ++ [w]) = .ok (.int (T.kinds.getD q 0)) (h ++ [.frz (Q.map nD), .frz (T.og.map rF)] ++ [w]) := dIx_nat (xs := T.kinds.map D.int) rfl (by
      have := ok.kl
      rw [List.getElem?_map, List.getD_eq_getElem?_getD, List.getElem?_eq_getElem (by omega)]; rfl)
    clear fl fr
    unfold e_put_in_order_5
    show _ = NR.R.ok (D.int (T.kinds.getD q 0)) _
    generalize T.kinds.getD q 0 = kq at *
    generalize h ++ [.frz (Q.map nD), .frz (T.og.map rF)] ++ [w] = H1 at *
    generalize Q.map nD = QQ at *
    generalize T.og.map rF = OG at *
    generalize T.order.map nD = OO at *
    generalize T.kinds.map D.int = TK at *
    generalize T.enc = TE at *
    simp [wipeE, nD, i1, i2])
  have em : (T.order.map nD).map (fun d => match d with | .int i => D.int (T.kinds.getD i.toNat 0) | d => d) = T.ok'.map D.int := by
    unfold Tb.ok'
    rw [List.map_map, List.map_map]
    rfl
  rw [em] at comp
  refine callC_pure rfl (g := [.frz (Q.map nD), .frz (T.og.map rF)]) ?_ (by
    have a1 : ∀ (k : Nat) (r : List Nat), D.lo k (rF r) = true := fun k r => by unfold rF; simp
    simp [a1])
  unfold m_put_in_order
  rw [ap_fnM]
  simp only [List.map_cons, List.map_nil, List.length_cons, List.length_nil, List.cons_append, List.nil_append, Nat.reduceAdd, Nat.reduceSub, List.replicate]
  refine stN (env2 := [some T.enc, some (.fl (T.order.map nD)), none, none, none, none, none]) (h2 := h) (by
    have i1 := tT1 (T := T) (h := h)
    have io := io h
    clear fl fr comp
    generalize T.order.map nD = OO at *
    generalize T.goes.map gT = TG at *
    generalize T.enc = TE at *
    simp [i1, io]) ?_
  refine stN (env2 := [some T.enc, some (.fl (T.order.map nD)), some (.ref h.length), none, none, none, none]) (h2 := h ++ [.lst ((List.replicate T.order.length 0).map nD)]) (by
    clear fl fr comp
    have ir : iSeq (mVar 1) [some T.enc, some (.fl (T.order.map nD)), none, none, none, none, none] h = .ok (.st (T.order.map nD)) h := rfl
    rw [ap_msSet, ap_mLc, ir, bind_ok]
    rw [lcM_map (gg := gSet 4) (fun _ => nD 0) (by simp; omega) (fun x hx => ⟨_, rfl, fun w => by unfold e_put_in_order_1; simp [nD]⟩)]
    rw [List.map_map, show ((fun _ => nD 0) ∘ nD : Nat → D) = fun _ => nD 0 from rfl, List.map_const', List.map_replicate]
    rfl) ?_
  refine stN ((for_st (ds := (T.order.map nD).mapIdx fun j x => .tup [.int (j : Nat), x]) (h2 := h ++ [.lst ((List.replicate T.order.length 0).map nD)]) rfl).trans fl) ?_
  refine stN (env2 := [some T.enc, some (.fl (T.order.map nD)), some (.ref h.length), y3, y4, some (.ref (h.length + 1)), none]) (h2 := h ++ [.lst (Q.map nD), .lst []]) (by
    clear fl fr comp
    generalize T.order.map nD = OO at *
    generalize T.enc = TE at *
    simp [newL]) ?_
  have c0 : (h ++ [Cell.lst (Q.map nD), .lst []])[h.length]? = some (.lst (Q.map nD)) := get_app0
  rw [show (h ++ [Cell.lst (Q.map nD), .lst []]) = h ++ [Cell.lst (Q.map nD), .lst []] from rfl]
  refine stN (env2 := [some T.enc, some (.fl (T.order.map nD)), some (.fl (Q.map nD)), y3, y4', some (.ref (h.length + 1)), none]) (h2 := h ++ [.frz (Q.map nD), .lst (T.og.map rF)]) (by
    rw [ap_msFz (n := h.length) (xs := Q.map nD) rfl c0, set_app0]
    show msFor _ _ _ [some T.enc, some (.fl (T.order.map nD)), some (.fl (Q.map nD)), y3, y4, some (.ref (h.length + 1)), none] (h ++ [.frz (Q.map nD), .lst []]) = _
    exact (for_st (ds := T.order.map nD) (h2 := h ++ [.frz (Q.map nD), .lst []]) rfl).trans fr) ?_
  have c1 : (h ++ [Cell.frz (Q.map nD), .lst (T.og.map rF)])[h.length + 1]? = some (.lst (T.og.map rF)) := get_app
  rw [ap_msFz (n := h.length + 1) (xs := T.og.map rF) rfl c1, set_app]
  show ((msRet _) [some T.enc, some (.fl (T.order.map nD)), some (.fl (Q.map nD)), y3, y4', some (.fl (T.og.map rF)), none] (h ++ [Cell.frz (Q.map nD), .frz (T.og.map rF)])).fin = _
  clear fl fr c0 c1
  generalize mFz (mLc (iSeq (mVar 1)) (gSet 4) mYes e_put_in_order_5 [4]) = CC at *
  generalize h ++ [Cell.frz (Q.map nD), .frz (T.og.map rF)] = H1 at *
  generalize Q.map nD = QQ at *
  generalize T.og.map rF = OG at *
  generalize T.order.map nD = OO at *
  generalize T.ok'.map D.int = TK at *
  generalize T.enc = TE at *
  simp [comp]
end
/-! joined -/
section
variable {goes : List (List Nat)} {kinds : List Int} {M sig : List Nat} {h : IH} {S : Nat}
def firstsL (M : List Nat) (c : Nat) : List Nat := (List.range c).map fun m => M.idxOf m
def joinT (sig : List Nat) (goes : List (List Nat)) (kinds : List Int) (M : List Nat) : Tb := ⟨sig, (firstsL M (nCls M)).map fun r => (goes.getD r []).map fun t => M.getD t 0, (firstsL M (nCls M)).map fun r => kinds.getD r 0⟩
theorem firsts_lt {c : Nat} (can : Can M) (hc : c ≤ nCls M) : ∀ r ∈ firstsL M c, r < M.length := fun r hr => by
  obtain ⟨m, hm, rfl⟩ := List.mem_map.mp hr
  rw [List.mem_range] at hm
  refine List.idxOf_lt_length_iff.mpr ?_
  have := numB_all (ks := M) (c := m) (by omega)
  rwa [show numB M = M from can] at this
theorem joined_call (gl : goes.length = M.length) (kl : kinds.length = M.length) (can : Can M) (m100 : M.length ≤ 5000) (s10 : S ≤ 10) (row : ∀ r ∈ goes, r.length = S ∧ ∀ t ∈ r, t < goes.length) (h : IH) : callC 4 m_joined [.str sig, .fl (goes.map rF), .fl (kinds.map D.int), .fl (M.map nD)] h = .ok (joinT sig goes kinds M).enc h := by
  -- the first rooms
  have main : ∀ (n i : Nat) (x5 x6 : Option D), i + n = M.length → ∃ y5 y6, forL (gSets [5, 6]) b_joined_1 (((M.drop i).map nD).mapIdx fun j x => .tup [.int ((i + j : Nat) : Int), x]) [some (.str sig), some (.fl (goes.map rF)), some (.fl (kinds.map D.int)), some (.fl (M.map nD)), some (.ref h.length), x5, x6, none, none] (h ++ [.lst ((firstsL M (nCls (M.take i))).map nD)]) = .nx [some (.str sig), some (.fl (goes.map rF)), some (.fl (kinds.map D.int)), some (.fl (M.map nD)), some (.ref h.length), y5, y6, none, none] (h ++ [.lst ((firstsL M (nCls M)).map nD)]) := by
    intro n
    induction n with
    | zero =>
      intro i x5 x6 e
      rw [List.drop_of_length_le (by omega), List.take_of_length_le (by omega)]
      exact ⟨x5, x6, rfl⟩
    | succ n ih =>
      intro i x5 x6 e
      have hi : i < M.length := by omega
      have er := get_getD hi
      have nx := can_next can er
      have ed : M.drop i = M.getD i 0 :: M.drop (i + 1) := by
        rw [List.drop_eq_getElem_cons hi, List.getD_eq_getElem?_getD, List.getElem?_eq_getElem hi]
        rfl
      have et : M.take (i + 1) = M.take i ++ [M.getD i 0] := by rw [List.take_add_one, er]; rfl
      rw [ed]
      obtain ⟨y5, y6, ih⟩ := ih (i + 1) (some (.int ((i + 0 : Nat) : Int))) (some (nD (M.getD i 0))) (by omega)
      refine ⟨y5, y6, ?_⟩
      have fi : M.getD i 0 ∉ M.take i → M.idxOf (M.getD i 0) = i := fun q => by
        have hd : M = M.take i ++ (M.getD i 0 :: M.drop (i + 1)) := by rw [← ed, List.take_append_drop]
        have : (M.take i ++ (M.getD i 0 :: M.drop (i + 1))).idxOf (M.getD i 0) = i := by
          rw [List.idxOf_append, if_neg q, List.idxOf_cons_self, List.length_take]
          omega
        rw [← hd] at this
        exact this
      rw [et, nCls_snoc] at ih
      generalize M.getD i 0 = m at *
      have sh : (fun (j : Nat) (x : D) => D.tup [.int ((i + (j + 1) : Nat) : Int), x]) = fun j x => D.tup [.int ((i + 1 + j : Nat) : Int), x] := by
        funext j x
        rw [show i + (j + 1) = i + 1 + j by omega]
      rw [List.map_cons, List.mapIdx_cons, sh, forL_cons (e1 := [some (.str sig), some (.fl (goes.map rF)), some (.fl (kinds.map D.int)), some (.fl (M.map nD)), some (.ref h.length), some (.int ((i + 0 : Nat) : Int)), some (nD m), none, none]) rfl]
      simp only [Nat.add_zero] at ih ⊢
      have c1 : (h ++ [Cell.lst ((firstsL M (nCls (M.take i))).map nD)])[h.length]? = some (.lst ((firstsL M (nCls (M.take i))).map nD)) := get_app0
      have fll : (firstsL M (nCls (M.take i))).length = nCls (M.take i) := by unfold firstsL; rw [List.length_map, List.length_range]
      have cle : nCls (M.take i) ≤ 5000 := by have := nCls_le (ks := M.take i); rw [List.length_take] at this; omega
      have bl : bLen [.ref h.length] (h ++ [Cell.lst ((firstsL M (nCls (M.take i))).map nD)]) = .ok (.int (nCls (M.take i) : Nat)) (h ++ [Cell.lst ((firstsL M (nCls (M.take i))).map nD)]) := by rw [bLen_ref c1, List.length_map, fll]
      have ty := tyD_ref c1
      have ap : m ∉ M.take i → fAppend (.ref h.length) [.int (i : Nat)] (h ++ [Cell.lst ((firstsL M (nCls (M.take i))).map nD)]) = .ok .non (h ++ [Cell.lst ((firstsL M (nCls (M.take i) + 1)).map nD)]) := fun q => by
        rw [append_at c1 (by rw [List.length_map, fll]; omega), set_app0]
        have : firstsL M (nCls (M.take i) + 1) = firstsL M (nCls (M.take i)) ++ [i] := by
          unfold firstsL
          rw [List.range_succ, List.map_append]
          congr 1
          rcases nx with ⟨a, _⟩ | ⟨_, b⟩
          · exact absurd a q
          · rw [← b, List.map_cons, List.map_nil, fi q]
        rw [this, List.map_append]
        rfl
      have ev : b_joined_1 [some (.str sig), some (.fl (goes.map rF)), some (.fl (kinds.map D.int)), some (.fl (M.map nD)), some (.ref h.length), some (.int (i : Nat)), some (nD m), none, none] (h ++ [.lst ((firstsL M (nCls (M.take i))).map nD)]) = .nx [some (.str sig), some (.fl (goes.map rF)), some (.fl (kinds.map D.int)), some (.fl (M.map nD)), some (.ref h.length), some (.int (i : Nat)), some (nD m), none, none] (h ++ [.lst ((firstsL M (if m ∈ M.take i then nCls (M.take i) else nCls (M.take i) + 1)).map nD)]) := by
        clear ih
        unfold b_joined_1
        rcases nx with ⟨a, b⟩ | ⟨a, b⟩
        · rw [if_pos a]
          have b1 : ¬ (m : Int) = (nCls (M.take i) : Nat) := by omega
          have b2 : ¬ m = nCls (M.take i) := by omega
          clear ap
          generalize h ++ [Cell.lst ((firstsL M (nCls (M.take i))).map nD)] = H1 at *
          generalize nCls (M.take i) = cc at *
          generalize M.map nD = MM at *
          generalize goes.map rF = GG at *
          generalize kinds.map D.int = KK at *
          generalize h.length = n at *
          simp [bl, nD, b1, b2]
        · rw [if_neg a]
          have ap := ap a
          have b1 : (m : Int) = (nCls (M.take i) : Nat) := by omega
          generalize h ++ [Cell.lst ((firstsL M (nCls (M.take i) + 1)).map nD)] = H2 at *
          generalize h ++ [Cell.lst ((firstsL M (nCls (M.take i))).map nD)] = H1 at *
          generalize nCls (M.take i) = cc at *
          generalize M.map nD = MM at *
          generalize goes.map rF = GG at *
          generalize kinds.map D.int = KK at *
          generalize h.length = n at *
          subst b
          simp [bl, nD, ty, ap]
      rw [ev, on_nx, ih]
  obtain ⟨y5, y6, fl⟩ := main M.length 0 none none (by omega)
  rw [List.drop_zero] at fl
  simp only [Nat.zero_add] at fl
  have fl : forL (gSets [5, 6]) b_joined_1 ((M.map nD).mapIdx fun j x => .tup [.int (j : Nat), x]) [some (.str sig), some (.fl (goes.map rF)), some (.fl (kinds.map D.int)), some (.fl (M.map nD)), some (.ref h.length), none, none, none, none] (h ++ [.lst []]) = .nx [some (.str sig), some (.fl (goes.map rF)), some (.fl (kinds.map D.int)), some (.fl (M.map nD)), some (.ref h.length), y5, y6, none, none] (h ++ [.lst ((firstsL M (nCls M)).map nD)]) := fl
  have flt := firsts_lt can (Nat.le_refl (nCls M))
  have fll : (firstsL M (nCls M)).length ≤ 5000 := by
    unfold firstsL
    rw [List.length_map, List.length_range]
    have := nCls_le (ks := M)
    omega
  clear main
  have enc : (joinT sig goes kinds M).enc = .tup [.str sig, .tup (((firstsL M (nCls M)).map fun r => (goes.getD r []).map fun t => M.getD t 0).map gT), .tup (((firstsL M (nCls M)).map fun r => kinds.getD r 0).map D.int)] := rfl
  rw [enc]
  generalize firstsL M (nCls M) = F at *
  have mi : ∀ {j : Nat} (hj : j < M.length) (h : IH), dIx (.fl (M.map nD)) (.int (j : Nat)) h = .ok (.int (M.getD j 0 : Nat)) h := fun hj h => dIx_nat (xs := M.map nD) rfl (by rw [List.getElem?_map, get_getD hj]; rfl)
  have rows : ∀ (O : List Nat) (x5 : Option D) (GD : List (List Nat)), (∀ q ∈ O, q < M.length) → GD.length + O.length ≤ 5000 → ∃ y5, forL (gSet 5) b_joined_3 (O.map nD) [some (.str sig), some (.fl (goes.map rF)), some (.fl (kinds.map D.int)), some (.fl (M.map nD)), some (.fl (F.map nD)), x5, y6, some (.ref (h.length + 1)), none] (h ++ [.frz (F.map nD), .lst (GD.map gT)]) = .nx [some (.str sig), some (.fl (goes.map rF)), some (.fl (kinds.map D.int)), some (.fl (M.map nD)), some (.fl (F.map nD)), y5, y6, some (.ref (h.length + 1)), none] (h ++ [.frz (F.map nD), .lst ((GD ++ O.map fun r => (goes.getD r []).map fun t => M.getD t 0).map gT)]) := by
    intro O
    induction O with
    | nil =>
      intro x5 GD _ _
      exact ⟨x5, by rw [List.map_nil, List.map_nil, List.append_nil]; rfl⟩
    | cons r O ih =>
      intro x5 GD ho hl
      rw [List.length_cons] at hl
      have hr := ho r List.mem_cons_self
      have er : goes[r]? = some (goes.getD r []) := by
        rw [List.getD_eq_getElem?_getD, List.getElem?_eq_getElem (by omega)]
        rfl
      have ro := row _ (List.mem_of_getElem? er)
      rw [List.map_cons, List.map_cons]
      generalize goes.getD r [] = rw' at *
      obtain ⟨y5, e⟩ := ih (some (nD r)) (GD ++ [rw'.map fun t => M.getD t 0]) (fun q hq => ho q (List.mem_cons_of_mem _ hq)) (by rw [List.length_append, List.length_singleton]; omega)
      refine ⟨y5, ?_⟩
      rw [forL_cons (e1 := [some (.str sig), some (.fl (goes.map rF)), some (.fl (kinds.map D.int)), some (.fl (M.map nD)), some (.fl (F.map nD)), some (nD r), y6, some (.ref (h.length + 1)), none]) rfl]
      have i2 : ∀ h, dIx (.fl (goes.map rF)) (.int (r : Nat)) h = .ok (.fl (rw'.map nD)) h := fun h => dIx_nat (xs := goes.map rF) rfl (by rw [List.getElem?_map, er]; rfl)
      have comp := lcF_map (it := iSeq (mOp dIx (mVar 1) (mVar 5))) (ws := [8]) (gg := gSet 8) (m := e_joined_2) (ds := rw'.map nD) (h := h ++ [.frz (F.map nD), .lst (GD.map gT)]) (env := [some (.str sig), some (.fl (goes.map rF)), some (.fl (kinds.map D.int)), some (.fl (M.map nD)), some (.fl (F.map nD)), some (nD r), y6, some (.ref (h.length + 1)), none]) (fun d => match d with | .int i => nD (M.getD i.toNat 0) | d => d) (by
        have i2 := i2 (h ++ [.frz (F.map nD), .lst (GD.map gT)])
        clear e fl
        generalize h ++ [Cell.frz (F.map nD), .lst (GD.map gT)] = H1 at *
        generalize F.map nD = FF at *
        generalize M.map nD = MM at *
        generalize goes.map rF = GG at *
        generalize kinds.map D.int = KK at *
        generalize rw'.map nD = RR at *
        simp [nD, i2]) (by rw [List.length_map]; omega) (fun d hd => by
        obtain ⟨q, _, rfl⟩ := List.mem_map.mp hd
        rfl) (fun d hd => by
        obtain ⟨q, hq, rfl⟩ := List.mem_map.mp hd
        refine ⟨_, rfl, fun w => ?_⟩
        have ix := mi (show q < M.length by have := ro.2 q hq; omega) (h ++ [.frz (F.map nD), .lst (GD.map gT)] ++ [w])
        clear e fl
        unfold e_joined_2
        show _ = NR.R.ok (D.int (M.getD q 0 : Nat)) _
        generalize M.getD q 0 = mq at *
        generalize h ++ [.frz (F.map nD), .lst (GD.map gT)] ++ [w] = H1 at *
        generalize F.map nD = FF at *
        generalize M.map nD = MM at *
        generalize goes.map rF = GG at *
        generalize kinds.map D.int = KK at *
        simp [wipeE, nD, ix])
      have em : (rw'.map nD).map (fun d => match d with | .int i => nD (M.getD i.toNat 0) | d => d) = (rw'.map fun t => M.getD t 0).map nD := by
        rw [List.map_map, List.map_map]
        rfl
      rw [em] at comp
      have c1 : (h ++ [Cell.frz (F.map nD), .lst (GD.map gT)])[h.length + 1]? = some (.lst (GD.map gT)) := get_app
      have ty := tyD_ref c1
      have ap : fAppend (.ref (h.length + 1)) [.tup ((rw'.map fun t => M.getD t 0).map nD)] (h ++ [.frz (F.map nD), .lst (GD.map gT)]) = .ok .non (h ++ [.frz (F.map nD), .lst ((GD ++ [rw'.map fun t => M.getD t 0]).map gT)]) := by
        rw [append_at c1 (by rw [List.length_map]; omega), set_app, List.map_append]
        rfl
      have ev : b_joined_3 [some (.str sig), some (.fl (goes.map rF)), some (.fl (kinds.map D.int)), some (.fl (M.map nD)), some (.fl (F.map nD)), some (nD r), y6, some (.ref (h.length + 1)), none] (h ++ [.frz (F.map nD), .lst (GD.map gT)]) = .nx [some (.str sig), some (.fl (goes.map rF)), some (.fl (kinds.map D.int)), some (.fl (M.map nD)), some (.fl (F.map nD)), some (nD r), y6, some (.ref (h.length + 1)), none] (h ++ [.frz (F.map nD), .lst ((GD ++ [rw'.map fun t => M.getD t 0]).map gT)]) := by
        clear e fl
        unfold b_joined_3
        generalize mFz (mLc (iSeq (mOp dIx (mVar 1) (mVar 5))) (gSet 8) mYes e_joined_2 [8]) = CC at *
        generalize h ++ [Cell.frz (F.map nD), .lst ((GD ++ [rw'.map fun t => M.getD t 0]).map gT)] = H2 at *
        generalize h ++ [Cell.frz (F.map nD), .lst (GD.map gT)] = H1 at *
        generalize (rw'.map fun t => M.getD t 0).map nD = RM at *
        generalize F.map nD = FF at *
        generalize M.map nD = MM at *
        generalize goes.map rF = GG at *
        generalize kinds.map D.int = KK at *
        generalize h.length + 1 = n at *
        simp [comp, ty, ap]
      rw [ev, on_nx, e, List.append_assoc]
      rfl
  obtain ⟨y5', fr⟩ := rows F y5 [] flt (by rw [List.length_nil]; omega)
  rw [List.nil_append] at fr
  generalize (F.map fun r => (goes.getD r []).map fun t => M.getD t 0) = JG at *
  have fr : forL (gSet 5) b_joined_3 (F.map nD) [some (.str sig), some (.fl (goes.map rF)), some (.fl (kinds.map D.int)), some (.fl (M.map nD)), some (.fl (F.map nD)), y5, y6, some (.ref (h.length + 1)), none] (h ++ [.frz (F.map nD), .lst []]) = .nx [some (.str sig), some (.fl (goes.map rF)), some (.fl (kinds.map D.int)), some (.fl (M.map nD)), some (.fl (F.map nD)), y5', y6, some (.ref (h.length + 1)), none] (h ++ [.frz (F.map nD), .lst (JG.map gT)]) := fr
  have comp := lcF_map (it := iSeq (mVar 4)) (ws := [5]) (gg := gSet 5) (m := e_joined_4) (ds := F.map nD) (h := h ++ [.frz (F.map nD), .lst (JG.map gT)]) (env := [some (.str sig), some (.fl (goes.map rF)), some (.fl (kinds.map D.int)), some (.fl (M.map nD)), some (.fl (F.map nD)), y5', y6, some (.ref (h.length + 1)), none]) (fun d => match d with | .int i => .int (kinds.getD i.toNat 0) | d => d) rfl (by rw [List.length_map]; omega) (fun d hd => by
    obtain ⟨q, _, rfl⟩ := List.mem_map.mp hd
    rfl) (fun d hd => by
    obtain ⟨q, hq, rfl⟩ := List.mem_map.mp hd
    refine ⟨_, rfl, fun w => ?_⟩
    have hq2 := flt q hq
    have i2 : dIx (.fl (kinds.map D.int)) (.int (q : Nat)) (h ++ [.frz (F.map nD), .lst (JG.map gT)] ++ [w]) = .ok (.int (kinds.getD q 0)) (h ++ [.frz (F.map nD), .lst (JG.map gT)] ++ [w]) := dIx_nat (xs := kinds.map D.int) rfl (by
      rw [List.getElem?_map, List.getD_eq_getElem?_getD, List.getElem?_eq_getElem (by omega)]; rfl)
    clear fl fr
    unfold e_joined_4
    show _ = NR.R.ok (D.int (kinds.getD q 0)) _
    generalize kinds.getD q 0 = kq at *
    generalize h ++ [.frz (F.map nD), .lst (JG.map gT)] ++ [w] = H1 at *
    generalize F.map nD = FF at *
    generalize M.map nD = MM at *
    generalize goes.map rF = GG at *
    generalize kinds.map D.int = KK at *
    simp [wipeE, nD, i2])
  have em : (F.map nD).map (fun d => match d with | .int i => D.int (kinds.getD i.toNat 0) | d => d) = (F.map fun r => kinds.getD r 0).map D.int := by
    rw [List.map_map, List.map_map]
    rfl
  rw [em] at comp
  generalize (F.map fun r => kinds.getD r 0) = JK at *
  refine callC_pure rfl (g := [.frz (F.map nD), .lst (JG.map gT)]) ?_ (by simp)
  unfold m_joined
  rw [ap_fnM]
  simp only [List.map_cons, List.map_nil, List.length_cons, List.length_nil, List.cons_append, List.nil_append, Nat.reduceAdd, Nat.reduceSub, List.replicate]
  refine stN (env2 := [some (.str sig), some (.fl (goes.map rF)), some (.fl (kinds.map D.int)), some (.fl (M.map nD)), some (.ref h.length), none, none, none, none]) (h2 := h ++ [.lst []]) (by
    clear fl fr comp
    generalize M.map nD = MM at *
    generalize goes.map rF = GG at *
    generalize kinds.map D.int = KK at *
    simp [newL]) ?_
  refine stN ((for_st (ds := (M.map nD).mapIdx fun j x => .tup [.int (j : Nat), x]) (h2 := h ++ [.lst []]) rfl).trans fl) ?_
  refine stN (env2 := [some (.str sig), some (.fl (goes.map rF)), some (.fl (kinds.map D.int)), some (.fl (M.map nD)), some (.ref h.length), y5, y6, some (.ref (h.length + 1)), none]) (h2 := h ++ [.lst (F.map nD), .lst []]) (by
    clear fl fr comp
    generalize M.map nD = MM at *
    generalize goes.map rF = GG at *
    generalize kinds.map D.int = KK at *
    simp [newL]) ?_
  have c0 : (h ++ [Cell.lst (F.map nD), .lst []])[h.length]? = some (.lst (F.map nD)) := get_app0
  refine stN (env2 := [some (.str sig), some (.fl (goes.map rF)), some (.fl (kinds.map D.int)), some (.fl (M.map nD)), some (.fl (F.map nD)), y5', y6, some (.ref (h.length + 1)), none]) (h2 := h ++ [.frz (F.map nD), .lst (JG.map gT)]) (by
    rw [ap_msFz (n := h.length) (xs := F.map nD) rfl c0, set_app0]
    show msFor _ _ _ [some (.str sig), some (.fl (goes.map rF)), some (.fl (kinds.map D.int)), some (.fl (M.map nD)), some (.fl (F.map nD)), y5, y6, some (.ref (h.length + 1)), none] (h ++ [.frz (F.map nD), .lst []]) = _
    exact (for_st (ds := F.map nD) (h2 := h ++ [.frz (F.map nD), .lst []]) rfl).trans fr) ?_
  have bt : bTupleX [.ref (h.length + 1)] (h ++ [Cell.frz (F.map nD), .lst (JG.map gT)]) = .ok (.tup (JG.map gT)) (h ++ [Cell.frz (F.map nD), .lst (JG.map gT)]) := bTupleX_ref get_app
  clear fl fr c0
  generalize mFz (mLc (iSeq (mVar 4)) (gSet 5) mYes e_joined_4 [5]) = CC at *
  generalize h ++ [Cell.frz (F.map nD), .lst (JG.map gT)] = H1 at *
  generalize F.map nD = FF at *
  generalize M.map nD = MM at *
  generalize goes.map rF = GG at *
  generalize kinds.map D.int = KK at *
  generalize JG.map gT = JJ at *
  generalize JK.map D.int = JX at *
  simp [comp, bt]
end
/-- the least table -/
theorem least_call {T : Tb} (ok : T.Ok) (al : T.All) : ∃ M, ClsM T.og T.ok' M ∧ (∀ h, callC 1 m_least_of [T.enc] h = .ok (joinT T.sig T.og T.ok' M).enc h) ∧ ∀ h, callC 3 m_classes_of [.fl (T.og.map rF), .fl (T.ok'.map D.int), .int (T.og.length : Nat)] h = .ok (.fl (M.map nD)) h := by
  have ol := og_len ok al
  have kl : T.ok'.length = T.og.length := by
    unfold Tb.ok' Tb.og
    rw [List.length_map, List.length_map]
  have n1 := ok.g1
  have n32 := ok.g2
  have t6 := ok.tg.l2
  have row := og_row ok al
  obtain ⟨M, cM, cc⟩ := classes_call (goes := T.og) (kinds := T.ok') (S := T.sig.length) rfl kl (by omega) (by omega) (by omega) row
  refine ⟨M, cM, fun h => ?_, cc⟩
  have jc := joined_call (sig := T.sig) (goes := T.og) (kinds := T.ok') (M := M) (S := T.sig.length) cM.len.symm (by rw [kl, cM.len]) cM.can (by rw [cM.len]; omega) (by omega) row h
  have pc := put_call ok al h
  have cc := cc h
  have i0 := tT0 (T := T) (h := h)
  have bl : bLen [.fl (T.og.map rF)] h = .ok (.int (T.og.length : Nat)) h := by rw [bLen_fl, List.length_map]
  refine callC_same rfl ?_
  unfold m_least_of
  generalize (joinT T.sig T.og T.ok' M).enc = JE at *
  generalize T.og.map rF = GG at *
  generalize T.ok'.map D.int = KK at *
  generalize M.map nD = MM at *
  generalize T.enc = TE at *
  simp [pc, gSets, i0, bl, cc, jc, -bLen_fl]
end NR

set_option Elab.async false
set_option linter.all false
set_option maxRecDepth 100000
set_option maxHeartbeats 4000000
namespace NR
open PySem PySem.Spec PyProof.Rows L2
/-! ### the least table is a picture of the table -/
section
variable {T : Tb} {M : List Nat}
/-- the class of a room -/
def phi (T : Tb) (M : List Nat) (r : Nat) : Nat := M.getD (T.order.idxOf r) 0
abbrev lsT (T : Tb) (M : List Nat) : Tb := joinT T.sig T.og T.ok' M
theorem ok_len (ok : T.Ok) (al : T.All) : T.ok'.length = T.goes.length := by
  rw [← og_len ok al]
  unfold Tb.ok' Tb.og
  rw [List.length_map, List.length_map]
theorem order_len (ok : T.Ok) (al : T.All) : T.order.length = T.goes.length := by rw [(order_perm ok al).length_eq, List.length_range]
theorem ord_head {k : Nat} : (T.ord k)[0]? = some 0 := by
  obtain ⟨t, ht⟩ := ord_pre (T := T) (k := 0) k
  rw [Nat.zero_add] at ht
  rw [← ht]
  rfl
theorem idx_lt (ok : T.Ok) (al : T.All) {r : Nat} (hr : r < T.goes.length) : T.order.idxOf r < T.goes.length := by
  rw [← order_len ok al]
  exact List.idxOf_lt_length_iff.mpr ((order_perm ok al).mem_iff.mpr (List.mem_range.mpr hr))
theorem ls_len : (lsT T M).goes.length = nCls M := by
  show ((firstsL M (nCls M)).map _).length = _
  unfold firstsL
  rw [List.length_map, List.length_map, List.length_range]
theorem ls_klen : (lsT T M).kinds.length = nCls M := by
  show ((firstsL M (nCls M)).map _).length = _
  unfold firstsL
  rw [List.length_map, List.length_map, List.length_range]
theorem phi_lt (ok : T.Ok) (al : T.All) (c : ClsM T.og T.ok' M) {r : Nat} (hr : r < T.goes.length) : phi T M r < nCls M := by
  have hi := idx_lt ok al hr
  have ml : M.length = T.goes.length := by rw [c.len, og_len ok al]
  exact (can_max c.can (fun z => by rw [z] at ml; simp at ml; omega)).1 _ (getD_mem (by omega))
theorem can_zero {M : List Nat} (can : Can M) (ne : 0 < M.length) : M.getD 0 0 = 0 := by
  rcases can_next can (get_getD ne) with ⟨a, _⟩ | ⟨_, b⟩
  · simp at a
  · rw [b]; rfl
theorem phi_zero (ok : T.Ok) (al : T.All) (c : ClsM T.og T.ok' M) : phi T M 0 = 0 := by
  have g1 := ok.g1
  have ml : M.length = T.goes.length := by rw [c.len, og_len ok al]
  have : T.order.idxOf 0 = 0 := idx_nodup ord_nodup ord_head
  unfold phi
  rw [this]
  exact can_zero c.can (by omega)
/-- the first room of a class -/
theorem first_of {c : Nat} (can : Can M) (hc : c < nCls M) : M.idxOf c < M.length ∧ M.getD (M.idxOf c) 0 = c := by
  have hm := numB_all (ks := M) (c := c) hc
  rw [show numB M = M from can] at hm
  have hi := List.idxOf_lt_length_iff.mpr hm
  refine ⟨hi, ?_⟩
  rw [List.getD_eq_getElem?_getD, List.getElem?_eq_getElem hi]
  exact List.getElem_idxOf hi
theorem ls_goes (c : Nat) (hc : c < nCls M) : (lsT T M).goes[c]? = some ((T.og.getD (M.idxOf c) []).map fun t => M.getD t 0) := by
  show ((firstsL M (nCls M)).map _)[c]? = _
  unfold firstsL
  rw [List.getElem?_map, List.getElem?_map, List.getElem?_range hc]
  rfl
theorem ls_kinds (c : Nat) (hc : c < nCls M) : (lsT T M).kinds[c]? = some (T.ok'.getD (M.idxOf c) 0) := by
  show ((firstsL M (nCls M)).map _)[c]? = _
  unfold firstsL
  rw [List.getElem?_map, List.getElem?_map, List.getElem?_range hc]
  rfl
theorem og_at (ok : T.Ok) (al : T.All) {r : Nat} (hr : r < T.goes.length) : T.og.getD (T.order.idxOf r) [] = (T.goes.getD r []).map fun t => T.order.idxOf t := by
  have hm := (order_perm ok al).mem_iff.mpr (List.mem_range.mpr hr)
  have hi := List.idxOf_lt_length_iff.mpr hm
  have e : T.order[T.order.idxOf r]? = some r := by rw [List.getElem?_eq_getElem hi, List.getElem_idxOf hi]
  unfold Tb.og
  rw [List.getD_eq_getElem?_getD, List.getElem?_map, e]
  rfl
theorem ok_at (ok : T.Ok) (al : T.All) {r : Nat} (hr : r < T.goes.length) : T.ok'.getD (T.order.idxOf r) 0 = T.kinds.getD r 0 := by
  have hm := (order_perm ok al).mem_iff.mpr (List.mem_range.mpr hr)
  have hi := List.idxOf_lt_length_iff.mpr hm
  have e : T.order[T.order.idxOf r]? = some r := by rw [List.getElem?_eq_getElem hi, List.getElem_idxOf hi]
  unfold Tb.ok'
  rw [List.getD_eq_getElem?_getD, List.getElem?_map, e]
  rfl
theorem phi_kind (ok : T.Ok) (al : T.All) (c : ClsM T.og T.ok' M) {r : Nat} (hr : r < T.goes.length) : (lsT T M).kinds[phi T M r]? = some (T.kinds.getD r 0) := by
  have lt := phi_lt ok al c hr
  obtain ⟨f1, f2⟩ := first_of c.can lt
  have ml : M.length = T.og.length := c.len
  have gl := og_len ok al
  rw [ls_kinds _ lt, ← ok_at ok al hr]
  congr 1
  exact c.kd _ _ (by omega) (by rw [gl]; exact idx_lt ok al hr) f2
theorem phi_goes (ok : T.Ok) (al : T.All) (c : ClsM T.og T.ok' M) {r : Nat} (hr : r < T.goes.length) : (lsT T M).goes[phi T M r]? = some ((T.goes.getD r []).map (phi T M)) := by
  have lt := phi_lt ok al c hr
  obtain ⟨f1, f2⟩ := first_of c.can lt
  have ml : M.length = T.og.length := c.len
  have gl := og_len ok al
  rw [ls_goes _ lt]
  have := c.step (S := T.sig.length) (fun r hr => (og_row ok al r hr).1) (i := M.idxOf (phi T M r)) (j := T.order.idxOf r) (by omega) (by rw [gl]; exact idx_lt ok al hr) f2
  rw [this, og_at ok al hr, List.map_map]
  rfl
/-- every class is one of a room -/
theorem phi_onto (ok : T.Ok) (al : T.All) (c : ClsM T.og T.ok' M) {k : Nat} (hk : k < nCls M) : ∃ r, r < T.goes.length ∧ phi T M r = k := by
  obtain ⟨f1, f2⟩ := first_of c.can hk
  have ml : M.length = T.goes.length := by rw [c.len, og_len ok al]
  have e := get_getD (l := T.order) (i := M.idxOf k) (by rw [order_len ok al]; omega)
  refine ⟨T.order.getD (M.idxOf k) 0, ok.ord_lt (List.mem_of_getElem? e), ?_⟩
  unfold phi
  rw [idx_nodup (l := T.order) ord_nodup e]
  exact f2
theorem least_ok (ok : T.Ok) (al : T.All) (c : ClsM T.og T.ok' M) : (lsT T M).Ok := by
  have ml : M.length = T.goes.length := by rw [c.len, og_len ok al]
  have g1 := ok.g1
  have g2 := ok.g2
  have cp := nCls_pos (ks := M) (fun z => by rw [z] at ml; simp at ml; omega)
  have cl := nCls_le (ks := M)
  refine ⟨ok.tg, by rw [ls_len]; exact cp, by rw [ls_len]; omega, fun r hr => ?_, by rw [ls_klen, ls_len], ?_, fun k hk => ?_⟩
  · obtain ⟨k, hk⟩ := List.mem_iff_getElem?.mp hr
    have kl := (List.getElem?_eq_some_iff.mp hk).1
    rw [ls_len] at kl
    obtain ⟨q, hq, rfl⟩ := phi_onto ok al c kl
    rw [phi_goes ok al c hq] at hk
    injection hk with hk
    subst hk
    have ro := ok.row (T.goes.getD q []) (by rw [List.getD_eq_getElem?_getD, List.getElem?_eq_getElem hq]; exact List.getElem_mem hq)
    refine ⟨by rw [List.length_map]; exact ro.1, fun x hx => ?_⟩
    obtain ⟨t, ht, rfl⟩ := List.mem_map.mp hx
    rw [ls_len]
    exact phi_lt ok al c (ro.2 t ht)
  · have := phi_kind ok al c (r := 0) (by omega)
    rw [phi_zero ok al c] at this
    rw [this, List.getD_eq_getElem?_getD, ok.k0]
    rfl
  · obtain ⟨i, hi⟩ := List.mem_iff_getElem?.mp hk
    have il := (List.getElem?_eq_some_iff.mp hi).1
    rw [ls_klen] at il
    obtain ⟨q, hq, rfl⟩ := phi_onto ok al c il
    rw [phi_kind ok al c hq] at hi
    injection hi with hi
    subst hi
    have := ok.kl
    refine ok.kk _ ?_
    rw [List.getD_eq_getElem?_getD, List.getElem?_eq_getElem (by omega)]
    exact List.getElem_mem _
end
end NR

set_option Elab.async false
set_option linter.all false
set_option maxRecDepth 100000
set_option maxHeartbeats 4000000
namespace NR
open PySem PySem.Spec PyProof.Rows L2
/-! ### the least table stands in order, no two of its rooms are alike (plain) -/
theorem addNi_ddp : ∀ (row rs : List Nat), addNi rs row = ddp rs row
  | [], rs => rfl
  | s :: row, rs => by
    rw [addNi_cons, ddp]
    exact addNi_ddp row _
theorem ddp_map {f : Nat → Nat} : ∀ (row rs : List Nat), ddp [] ((ddp rs row).map f) = ddp (ddp [] (rs.map f)) (row.map f)
  | [], rs => rfl
  | s :: row, rs => by
    rw [ddp, ddp_map row, List.map_cons, ddp]
    by_cases q : s ∈ rs
    · rw [if_pos q, if_pos (mem_ddp (List.mem_map_of_mem q))]
    · rw [if_neg q, List.map_append, List.map_cons, List.map_nil, ddp_snoc]
      by_cases w : f s ∈ rs.map f
      · rw [if_pos w, if_pos (mem_ddp w)]
      · rw [if_neg w, if_neg (fun z => w (by
          rcases ddp_mem.mp z with z | z
          · simp at z
          · exact z))]
theorem ddp_sub {κ : Type} [DecidableEq κ] : ∀ {row rs : List κ}, (∀ x ∈ row, x ∈ rs) → ddp rs row = rs
  | [], rs, _ => rfl
  | s :: row, rs, h => by
    rw [ddp, if_pos (h s List.mem_cons_self)]
    exact ddp_sub fun x hx => h x (List.mem_cons_of_mem _ hx)
/-- a beginning of what is numbered is numbered -/
theorem can_pre {A M : List Nat} (can : Can M) (p : A <+: M) : Can A ∧ ddp [] A <+: ddp [] M := by
  obtain ⟨t, rfl⟩ := p
  have pd : ddp [] A <+: ddp [] (A ++ t) := by rw [ddp_app]; exact ddp_pre _ _
  refine ⟨?_, pd⟩
  unfold Can at can ⊢
  unfold numB at can ⊢
  rw [List.map_append] at can
  have := (List.append_inj can (by simp)).1
  conv => rhs; rw [← this]
  refine List.map_congr_left fun x hx => ?_
  exact (idx_pre pd (mem_ddp hx)).symm
section
variable {T : Tb} {M : List Nat}
theorem map_phi (ok : T.Ok) (al : T.All) (c : ClsM T.og T.ok' M) : T.order.map (phi T M) = M := by
  have ol := order_len ok al
  have ml : M.length = T.goes.length := by rw [c.len, og_len ok al]
  apply List.ext_getElem?
  intro i
  rw [List.getElem?_map]
  by_cases hi : i < T.goes.length
  · have e := get_getD (l := T.order) (i := i) (by omega)
    rw [e]
    show some (phi T M (T.order.getD i 0)) = _
    unfold phi
    rw [idx_nodup (l := T.order) ord_nodup e, get_getD (l := M) (by omega)]
  · rw [List.getElem?_eq_none (by omega), List.getElem?_eq_none (by omega)]
    rfl
theorem ls_ord (ok : T.Ok) (al : T.All) (c : ClsM T.og T.ok' M) : ∀ k, k ≤ T.goes.length → ddp [] ((T.ord k).map (phi T M)) = (lsT T M).ord (nCls (M.take k)) := by
  have mp := map_phi ok al c
  have ol := order_len ok al
  have ml : M.length = T.goes.length := by rw [c.len, og_len ok al]
  intro k
  induction k with
  | zero =>
    intro _
    show ddp [] [phi T M 0] = (lsT T M).ord 0
    rw [phi_zero ok al c]
    rfl
  | succ k ih =>
    intro hk
    have ih := ih (by omega)
    have eo := get_getD (l := T.order) (i := k) (by omega)
    have er := order_at ok eo
    have hr := ok.ord_lt (List.mem_of_getElem? eo)
    have em : M[k]? = some (phi T M (T.order.getD k 0)) := by
      conv => lhs; rw [← mp]
      rw [List.getElem?_map, eo]
      rfl
    generalize T.order.getD k 0 = r at *
    have pg := phi_goes ok al c hr
    have e1 : T.ord (k + 1) = ddp (T.ord k) (T.goes.getD r []) := by
      rw [← addNi_ddp, Tb.ord, er]
    rw [e1, ddp_map, ih]
    have et : M.take (k + 1) = M.take k ++ [phi T M r] := by rw [List.take_add_one, em]; rfl
    rw [et, nCls_snoc]
    rcases can_next c.can em with ⟨a, b⟩ | ⟨a, b⟩
    · rw [if_pos a, ← ih]
      refine ddp_sub fun x hx => ?_
      obtain ⟨t, ht, rfl⟩ := List.mem_map.mp hx
      obtain ⟨j, hj⟩ := List.mem_iff_getElem?.mp a
      have jk : j < k := by
        have := (List.getElem?_eq_some_iff.mp hj).1
        rw [List.length_take] at this
        omega
      rw [List.getElem?_take, if_pos jk] at hj
      have eo2 := get_getD (l := T.order) (i := j) (by omega)
      have em2 : M[j]? = some (phi T M (T.order.getD j 0)) := by
        conv => lhs; rw [← mp]
        rw [List.getElem?_map, eo2]
        rfl
      have er2 := order_at ok eo2
      have hr2 := ok.ord_lt (List.mem_of_getElem? eo2)
      rw [hj] at em2
      injection em2 with em2
      generalize T.order.getD j 0 = r2 at *
      have pg2 := phi_goes ok al c hr2
      rw [← em2, pg] at pg2
      injection pg2 with pg2
      have hx2 : phi T M t ∈ (T.goes.getD r2 []).map (phi T M) := by rw [← pg2]; exact hx
      refine mem_ddp ?_
      obtain ⟨t2, ht2, e2⟩ := List.mem_map.mp hx2
      rw [← e2]
      refine List.mem_map_of_mem ?_
      have h4 : t2 ∈ T.ord (j + 1) := by
        rw [Tb.ord, er2]
        exact addNi_mem.mpr (.inr ht2)
      obtain ⟨w, hw⟩ := ord_pre (T := T) (k := j + 1) (k - (j + 1))
      rw [show j + 1 + (k - (j + 1)) = k by omega] at hw
      exact hw ▸ List.mem_append_left w h4
    · rw [if_neg a, ← addNi_ddp]
      have pre : (T.ord k).map (phi T M) <+: M := by
        obtain ⟨w, hw⟩ := ord_pre (T := T) (k := k) (T.n - k)
        rw [show k + (T.n - k) = T.n by show k + (T.goes.length - k) = T.goes.length; omega] at hw
        have p0 : (T.ord k).map (phi T M) <+: T.order.map (phi T M) := ⟨w.map (phi T M), by rw [← List.map_append, hw]; rfl⟩
        rw [mp] at p0
        exact p0
      obtain ⟨cp, pd⟩ := can_pre c.can pre
      have dr := can_ddp cp
      have hmem : phi T M r ∈ (T.ord k).map (phi T M) := List.mem_map_of_mem (List.mem_of_getElem? er)
      have lt : phi T M r < nCls ((T.ord k).map (phi T M)) := nCls_lt cp hmem
      rw [ih] at dr
      have at_ : ((lsT T M).ord (nCls (M.take k)))[nCls (M.take k)]? = some (phi T M r) := by
        rw [dr, List.getElem?_range (by omega), b]
      show _ = (match ((lsT T M).ord (nCls (M.take k)))[nCls (M.take k)]? with | some r => addNi ((lsT T M).ord (nCls (M.take k))) ((lsT T M).goes.getD r []) | none => (lsT T M).ord (nCls (M.take k)))
      rw [at_]
      dsimp only
      rw [List.getD_eq_getElem?_getD (l := (lsT T M).goes), pg]
      rfl
where
  nCls_lt {A : List Nat} {m : Nat} (can : Can A) (h : m ∈ A) : m < nCls A := numB_lt (by rw [show numB A = A from can]; exact h)
theorem ls_order (ok : T.Ok) (al : T.All) (c : ClsM T.og T.ok' M) : (lsT T M).order = List.range (nCls M) := by
  have ml : M.length = T.goes.length := by rw [c.len, og_len ok al]
  have h := ls_ord ok al c T.goes.length (Nat.le_refl _)
  rw [show T.ord T.goes.length = T.order from rfl, map_phi ok al c, can_ddp c.can, List.take_of_length_le (by omega)] at h
  rw [h]
  show (lsT T M).ord (lsT T M).n = _
  rw [show (lsT T M).n = nCls M from ls_len]
theorem ls_all (ok : T.Ok) (al : T.All) (c : ClsM T.og T.ok' M) : (lsT T M).All := by
  have go : ∀ r, Led T.goes r → r < T.goes.length ∧ Led (lsT T M).goes (phi T M r) := by
    intro r l
    induction l with
    | zero =>
      have := ok.g1
      refine ⟨by omega, ?_⟩
      rw [phi_zero ok al c]
      exact Led.zero
    | @step r s k row l e e2 ih =>
      have pg := phi_goes ok al c ih.1
      rw [List.getD_eq_getElem?_getD, e] at pg
      refine ⟨(ok.row row (List.mem_of_getElem? e)).2 s (List.mem_of_getElem? e2), Led.step (k := k) ih.2 pg ?_⟩
      show (row.map (phi T M))[k]? = _
      rw [List.getElem?_map, e2]
      rfl
  intro q hq
  rw [ls_len] at hq
  obtain ⟨r, hr, rfl⟩ := phi_onto ok al c hq
  exact (go r (al r hr)).2
/-- what is stable tells all its rooms apart -/
theorem ls_apart (ok : T.Ok) (al : T.All) (c : ClsM T.og T.ok' M) {V : List Nat} (k : MkM (lsT T M).goes (lsT T M).kinds V) (st : finB (lsT T M).goes V = V) : nCls V = nCls M := by
  have lk := least_ok ok al c
  have gl := ls_len (T := T) (M := M)
  have cV : ClsM (lsT T M).goes (lsT T M).kinds V := ⟨k, st⟩
  have ogl := og_len ok al
  have ml : M.length = T.goes.length := by rw [c.len, ogl]
  have vl : V.length = nCls M := by rw [k.len, gl]
  have mlt : ∀ i, i < T.goes.length → M.getD i 0 < nCls M := fun i hi => numB_lt (by rw [show numB M = M from c.can]; exact getD_mem (by omega))
  have rowL : ∀ r ∈ (lsT T M).goes, r.length = T.sig.length := fun r hr => (lk.row r hr).1
  -- the same marks: the same rooms
  have inj : ∀ i j, i < nCls M → j < nCls M → V.getD i 0 = V.getD j 0 → i = j := fun i j hi hj he => by
    obtain ⟨f1, f2⟩ := first_of c.can hi
    obtain ⟨g1, g2⟩ := first_of c.can hj
    have atk : ∀ a, a < T.goes.length → (lsT T M).kinds.getD (M.getD a 0) 0 = T.ok'.getD a 0 := fun a ha => by
      obtain ⟨h1, h2⟩ := first_of c.can (mlt a ha)
      rw [List.getD_eq_getElem?_getD, ls_kinds _ (mlt a ha)]
      exact c.kd _ _ (by omega) (by omega) h2
    have atg : ∀ a, a < T.goes.length → (lsT T M).goes.getD (M.getD a 0) [] = (T.og.getD a []).map fun t => M.getD t 0 := fun a ha => by
      obtain ⟨h1, h2⟩ := first_of c.can (mlt a ha)
      rw [List.getD_eq_getElem?_getD, ls_goes _ (mlt a ha)]
      exact c.step (S := T.sig.length) (fun r hr => (og_row ok al r hr).1) (by omega) (by omega) h2
    have := c.co (fun a b => a < T.goes.length ∧ b < T.goes.length ∧ V.getD (M.getD a 0) 0 = V.getD (M.getD b 0) 0) (fun a b ⟨ha, hb, he⟩ => by
      refine ⟨by omega, by omega, ?_, fun s => ?_⟩
      · rw [← atk a ha, ← atk b hb]
        exact k.kd _ _ (by rw [gl]; exact mlt a ha) (by rw [gl]; exact mlt b hb) he
      · have sp := cV.step (S := T.sig.length) rowL (i := M.getD a 0) (j := M.getD b 0) (by rw [gl]; exact mlt a ha) (by rw [gl]; exact mlt b hb) he
        rw [atg a ha, atg b hb] at sp
        have ra := og_row ok al (T.og.getD a []) (by rw [List.getD_eq_getElem?_getD, List.getElem?_eq_getElem (by omega)]; exact List.getElem_mem _)
        have rb := og_row ok al (T.og.getD b []) (by rw [List.getD_eq_getElem?_getD, List.getElem?_eq_getElem (by omega)]; exact List.getElem_mem _)
        by_cases q : s < T.sig.length
        · refine .inl ⟨by rw [← ogl]; exact ra.2 _ (getD_mem (by omega)), by rw [← ogl]; exact rb.2 _ (getD_mem (by omega)), ?_⟩
          have := congrArg (fun l => l[s]?) sp
          simp only [List.getElem?_map] at this
          rw [get_getD (show s < (T.og.getD a []).length by omega), get_getD (show s < (T.og.getD b []).length by omega)] at this
          simpa using this
        · exact .inr (by omega)) (M.idxOf i) (M.idxOf j) ⟨by omega, by omega, by rw [f2, g2]; exact he⟩
    rw [f2, g2] at this
    exact this
  have nd : V.Nodup := by
    refine List.pairwise_iff_getElem.mpr fun i j hi hj hij z => ?_
    have h1 := get_getD (l := V) (i := i) hi
    have h2 := get_getD (l := V) (i := j) hj
    rw [List.getElem?_eq_getElem hi] at h1
    rw [List.getElem?_eq_getElem hj] at h2
    injection h1 with h1
    injection h2 with h2
    have := inj i j (by omega) (by omega) (by rw [← h1, ← h2, z])
    omega
  have h1 := nCls_le (ks := V)
  have h2 : V.length ≤ (ddp [] V).length := sub_len _ _ nd fun x hx => mem_ddp hx
  unfold nCls at h1 ⊢
  unfold nCls at vl
  omega
end
end NR

set_option Elab.async false
set_option linter.all false
set_option maxRecDepth 100000
set_option maxHeartbeats 4000000
/-! A def that shows nested things (repr): promised where no guard is set. -/
namespace NR
open PySem PySem.Spec PyProof.Rows L2
section
variable {P : Program} {w : World} {K : PySem.W.Frag} {mg : Str → Option Value} {base : Heap} {G : Cf}
/-- a def's promise where nothing is under way that shows itself -/
structure FnOkG (P : Program) (w : World) (K : PySem.W.Frag) (mg : Str → Option Value) (base : Heap) (CX : CXT) (k : Nat) (f : Addr) (fd : FuncData) (ps : List Str) (sp : Sp) : Prop where
  len : ∀ vs H Q E, sp vs H Q E → vs.length = ps.length
  run : ∀ (B : Around) (ou : List PySem.Env) (t : Shared) (H : Hp) (ar : Args) (vals : List Value) (vs : List V) (Q : VK) (E : XK),
    Room k B → B.guards = some [] → Env0 P w K mg base B ou t H → BindsTo t fd ar (ps.zip vals) → Vals vs vals → sp vs H Q E →
    codeAny (model P w) B (.call (.ref f) ar) (CR CX ou P w H t Q E) t
theorem fnPMG {x qual : Str} {st : Stmt} {f : Addr} {fd : FuncData} {N ps : List Str} {k n : Nat} {m : MS} (F : Fun K x qual st f fd) (S : FnScope N ps (defScope st)) (hn : ps.length = n)
    (hb : ∀ (cdv : Value) (A : Around) (outer : List PySem.Env) (s : Shared) (H : Hp) (E : XK), A.guards = some [] → Room k (A.deeper (envOfC qual (defScope st) s.heap.objs.size f cdv)) →
      Takes (cxOf (L2.CX P w) P w K mg base N qual (defScope st) f cdv A outer s H E) (fun c d _ H => E c d H) → PassesOwn (model P w) (cxOf (L2.CX P w) P w K mg base N qual (defScope st) f cdv A outer s H E).A (cxOf (L2.CX P w) P w K mg base N qual (defScope st) f cdv A outer s H E).env (cxOf (L2.CX P w) P w K mg base N qual (defScope st) f cdv A outer s H E).xe →
      PSs (cxOf (L2.CX P w) P w K mg base N qual (defScope st) f cdv A outer s H E) (defBody st) (tS G (fun c d _ H => E c d H) m)) : FnOkG P w K mg base (L2.CX P w) (k + 1) f fd ps (FSp G n (fnM N.length m)) := by
  obtain ⟨_, _, _, _, _, _, cdv, _, _, rfl, lk, hcd⟩ := F.ex
  refine ⟨fun vs H Q E h => h.1.trans hn.symm, fun B ou t H ar vals vs Q E room gd e0 bnd rv hsp => ?_⟩
  have vl : vs.length = ps.length := hsp.1.trans hn.symm
  have kx : K.In t.heap := e0.mod.kin.keeps fun b o e => (e0.bs b o e).1
  have nl : t.heap.NoLimit := e0.mod.nolimit.keeps fun b o e => (e0.bs b o e).1
  refine codeAny_call_function room.depth (kx _ _ lk) rfl S.co S.gen rfl (PySem.W.codeRec_of kx hcd) (bnd _ _ _ _ (wpAny_newFunctionEnv_cells S.kind (fun y hy => ?_) fun env he s2 ic => ?_))
  · rcases S.par y.1 (List.of_mem_zip hy).1 with q | q
    · exact .inl q
    · exact .inr ⟨q, PySem.W.cellsFrom_some _ _ _ (.inl q)⟩
  subst he
  refine ⟨nl.keeps ic.toInCall.keep, codeAny_func ?_⟩
  have body := hb cdv B ou t H E gd (room.deeper _) (takes_of rfl rfl rfl rfl) (passes_of rfl)
  have inv : Inv (cxOf (L2.CX P w) P w K mg base N qual (defScope st) f cdv B ou t H E) [] (start N vs) H s2 := inv_start S room.hd e0 vl rv ic
  obtain ⟨hl, et, ds, h, hv, hH, hP⟩ := hsp
  have want : tS G (fun c d _ H => E c d H) m { nx := fun _ H' => Q .non H', rt := Q } (start N vs) H := by
    refine ⟨et, _, h, EnvR.start hv N, hH, ?_⟩
    unfold fnM at hP
    revert hP
    generalize m (ds.map some ++ List.replicate (N.length - ds.length) none) h = r
    intro hP
    cases r with
    | nx e h1 => exact fun et' H' σ' p ex hr _ => hP et' H' p ex hr _ (by simp)
    | rt d h1 => exact fun et' H' v p ex hr hv => hP et' H' p ex hr v hv
    | ex c d e h1 => exact fun et' H' σ' cls dd p ex hr _ hx => hP et' H' cls dd p ex hr hx
    | bk e h1 => exact hP.elim
    | ct e h1 => exact hP.elim
    | no => exact hP.elim
  refine wpAny_mono (body.run [] s2 (start N vs) H _ inv want) (fun fl s3 hs => ?_) fun _ _ z => z
  cases fl with
  | brk => obtain ⟨_, _, _, z⟩ := hs; exact z.elim
  | cont => obtain ⟨_, _, _, z⟩ := hs; exact z.elim
  | next =>
    obtain ⟨σ3, H3, J, q⟩ := hs
    exact ⟨.non, H3, J.os, J.bare, J.base, J.hok, rfl, q⟩
  | ret u =>
    obtain ⟨v, σ3, H3, J, r3, q⟩ := hs
    exact ⟨v, H3, J.os, J.bare, J.base, J.hok, r3, q⟩
theorem FnOkG.imp {CX : CXT} {k : Nat} {f : Addr} {fd : FuncData} {ps : List Str} {sp sp' : Sp} (F : FnOkG P w K mg base CX k f fd ps sp) (h : ∀ vs H Q E, sp' vs H Q E → sp vs H Q E) : FnOkG P w K mg base CX k f fd ps sp' :=
  ⟨fun vs H Q E q => F.len _ _ _ _ (h _ _ _ _ q), fun B ou t H ar vals vs Q E a b c d e q => F.run B ou t H ar vals vs Q E a b c d e (h _ _ _ _ q)⟩
end
section
variable {P : Program} {w : World} {K : PySem.W.Frag} {mg mb : Str → Option Value} {CX : CXT} {k : Nat} {fa a : Addr} {fd : FuncData} {x : Str} {sp : Sp} {t : Shared} {vs : List Value} {ns : List Int}
/-- the law's promise at the heap behind the top, for such a def -/
theorem law_callG (KX : K.In t.heap) (gl : t.heap.Ns mainGlobals mg) (bl : t.heap.Ns builtinsNs mb) (bl2 : ∀ x : Str, x ≠ "__name__" → mb x = bootBuiltins x) (nl : t.heap.NoLimit) (gen : t.gens = #[])
    (sc : t.heap.get? a = some { cls := .type "list", data := .seq vs.toArray }) (ia : IntsAre vs ns) (zl : ns.length ≤ sizeLine) (room : Room k callerA)
    (F : ∀ base : Heap, K.In base → base.Ns mainGlobals mg → FnOkG P w K mg base CX k fa fd [x] sp) (bnd : ∀ (s : Shared) (u : Value), BindsTo s fd ⟨[u], []⟩ [(x, u)])
    (hs : ∀ H : Hp, Only H → SqL K H a (ns.map V.int) → sp [.ref a] H (fun v _ => v = .bl true) fun _ _ _ => False)
    (hx : ∀ H e s', CX [] H t (fun _ _ _ => False) e s' → False) :
    codeAny (model P w) callerA (.call (.ref fa) ⟨[.ref a], []⟩) (fun r s' => r = .ok (.ret (.bool true)) ∧ OldK t.heap s'.heap ∧ s'.os = t.os ∧ AllBare s'.gens) t := by
  have rv := vals_ints ia
  have vlen : vs.length = ns.length := ia.length
  -- what is tracked: nothing, or the script alone
  suffices go : ∀ H : Hp, Only H → SqL K H a (ns.map V.int) → HOk P w H t.heap → (∀ b, b ≠ a → H b = none) → (H a = none ∨ K.lookup a = none) →
      codeAny (model P w) callerA (.call (.ref fa) ⟨[.ref a], []⟩) (fun r s' => r = .ok (.ret (.bool true)) ∧ OldK t.heap s'.heap ∧ s'.os = t.os ∧ AllBare s'.gens) t by
    cases lk : K.lookup a with
    | none =>
      let H1 : Hp := fun b => if b = a then some (.frz { cls := .type "list", data := .seq vs.toArray } (.lst (ns.map V.int))) else none
      have at1 : H1 a = some (.frz { cls := .type "list", data := .seq vs.toArray } (.lst (ns.map V.int))) := if_pos rfl
      have no1 : ∀ b, b ≠ a → H1 b = none := fun b n => if_neg n
      refine go H1 (fun b => ?_) (.inl (.inr ⟨_, at1⟩)) (fun b u z => ?_) no1 (.inr lk)
      · by_cases c : b = a
        · subst c
          exact .inr ⟨_, _, at1⟩
        · exact .inl (no1 b c)
      · by_cases c : b = a
        · subst c
          rw [at1] at z
          injection z with z
          subst z
          exact ⟨sc, by rw [List.length_map]; exact zl, vs, _, rv, sc⟩
        · rw [no1 b c] at z
          cases z
    | some o =>
      have e := KX a o lk
      rw [sc] at e
      injection e with e
      subst e
      exact go (fun _ => none) (fun _ => .inl rfl) (.inr ⟨_, vs.toArray, _, lk, rfl, rfl, rfl, by rw [List.size_toArray, vlen]; exact zl, by simpa using rv⟩) (fun _ _ z => nomatch z) (fun _ _ => rfl) (.inl rfl)
  intro H hO hS ok off ka
  have keepB : ∀ {b : Addr} {o : Obj}, t.heap.get? b = some o → H b = none → (hidT t.heap H).get? b = some o := fun e n => hidT_get e n
  have nodict : ∀ {b : Addr} {o : Obj} {es : Array DictEntry} {ep : Nat}, t.heap.get? b = some o → o.data = .dict es ep → H b = none := by
    intro b o es ep e d
    by_cases c : b = a
    · subst c
      rw [sc] at e
      injection e with e
      subst e
      cases d
    · exact off b c
  have nsB : ∀ {b : Addr} {m : Str → Option Value}, t.heap.Ns b m → (hidT t.heap H).Ns b m := by
    rintro b m ⟨o, es, ep, e, d, r⟩
    exact ⟨o, es, ep, keepB e (nodict e d), d, r⟩
  have kB : K.In (hidT t.heap H) := by
    intro b o e
    refine keepB (KX b o e) ?_
    by_cases c : b = a
    · subst c
      rcases ka with z | z
      · exact z
      · rw [z] at e
        cases e
    · exact off b c
  obtain ⟨mc, lim1, lim2⟩ := nl
  have env : Env0 P w K mg (hidT t.heap H) callerA [] t H :=
    ⟨rfl, ⟨kB, nsB gl, ⟨mb, nsB bl, bl2⟩, ⟨mc, nsB lim1, lim2⟩⟩, fun b o e => of_hidT e, Nat.le_of_eq (hidT_size _ _), trivial, fun b z => absurd z (List.not_mem_nil (a := b)), ok, .of_eq gen⟩
  have run := (F (hidT t.heap H) kB (nsB gl)).run callerA [] t H ⟨[.ref a], []⟩ [.ref a] [.ref a] (fun v _ => v = .bl true) (fun _ _ _ => False) room rfl env (bnd t (.ref a)) (.cons rfl .nil) (hs H hO hS)
  refine codeAny_mono run fun r s' q => ?_
  match r, q with
  | .error e, q => exact (hx H e s' q).elim
  | .ok (.ret u), q =>
    obtain ⟨v, H', os, bare, un, ok', r', rfl⟩ := q
    have r' : u = Value.bool true := r'
    subst r'
    refine ⟨rfl, OldK.of_keep fun b o e => ?_, os, bare⟩
    rcases hO b with z | ⟨ob, xs, z⟩
    · exact un.keep b o e z (List.not_mem_nil (a := b)) (List.not_mem_nil (a := b))
    · have e1 := (ok b _ z).1
      rw [e] at e1
      injection e1 with e1
      subst e1
      exact (ok' b _ (un.frzs b _ _ z)).1
/-- the end of the head, for such a def -/
theorem walk_ofG {l : PySem.W.OpenLaw} {n k : Nat} {q : Program} {loose : List Str} {XP : (Str → Option Value) → Heap → Prop} {YP : World → Heap → Prop} {d : DefRec} {KP : Params → PySem.W.Frag} {CX : World → CXT} {sp : World → Sp} {x : Str}
    (hn : l.most = some n) (nz : n ≤ sizeLine) (df : d.params.defaults = []) (room : Room k callerA) (hY : ∀ (w : World) (h : Heap), YP w h → (KP w.params).In h)
    (F : ∀ (w : World) (mg : Str → Option Value) (fa : Addr) (h : Heap), (KP w.params).In h → h.Ns mainGlobals mg → mg d.name = some (.ref fa) →
      ∃ fd : FuncData, (∀ (s : Shared) (u : Value), BindsTo s fd ⟨[u], []⟩ [(x, u)]) ∧
        ∀ base : Heap, (KP w.params).In base → base.Ns mainGlobals mg → FnOkG l.prog w (KP w.params) mg base (CX w) k fa fd [x] (sp w))
    (hs : ∀ (w : World) (H : Hp) (a : Addr) (ns : List Int), ns.length ≤ n → Only H → SqL (KP w.params) H a (ns.map V.int) → sp w [.ref a] H (fun v _ => v = .bl true) fun _ _ _ => False)
    (hx : ∀ (w : World) (H : Hp) (s : Shared) (e : Value) (s' : Shared), CX w [] H s (fun _ _ _ => False) e s' → False) :
    PySem.W.WalkO q loose XP YP l.row.toRowW d [] (fun f vs => PySem.call f vs) :=
  Att.attach_call hn df fun w _ t mg mb fa _ _ _ _ a vs ns G Y _ _ _ gl sc ia il gen => by
    obtain ⟨fd, bnd, FF⟩ := F w mg fa _ (hY w _ Y) G.T.g gl
    exact law_callG (hY w _ Y) G.T.g G.T.b G.T.builtins G.T.nolimit gen sc ia (Nat.le_trans il nz) room FF bnd (fun H hO hS => hs w H a ns il hO hS) fun H e s' => hx w H t e s'
end
/-! ### repr -/
mutual
/-- a value of scalars, tuples and the empty dict -/
inductive DpT (K : PySem.W.Frag) (H : Hp) : V → PyData → Prop
  | non : DpT K H .non .none
  | bl (b : Bool) : DpT K H (.bl b) (.bool b)
  | int (i : Int) : DpT K H (.int i) (.int i)
  | str (x : Str) : DpT K H (.str x) (.str x)
  | tup {a : Addr} {xs : List V} {ds : List PyData} : SqT K H a xs → DpTs K H xs ds → DpT K H (.ref a) (.tuple ds)
  | dct {a : Addr} : FrzD H a [] → DpT K H (.ref a) (.dict [])
inductive DpTs (K : PySem.W.Frag) (H : Hp) : List V → List PyData → Prop
  | nil : DpTs K H [] []
  | cons {v : V} {vs : List V} {d : PyData} {ds : List PyData} : DpT K H v d → DpTs K H vs ds → DpTs K H (v :: vs) (d :: ds)
end
section
variable {X : Cx} {pins : List (Addr × Obj)} {σ : L2.St} {H : Hp} {s : Shared}
mutual
theorem DpT.reads (I : Inv X pins σ H s) : ∀ (d : PyData) (v : V) (u : Value), DpT X.K H v d → RelV v u → ∃ as, Reads s.heap u d as ∧ sysModules ∉ as
  | .none, _, _, h, r => by
    cases h
    cases r
    exact ⟨_, Reads.none, by simp⟩
  | .bool b, _, _, h, r => by
    cases h
    cases r
    exact ⟨_, Reads.bool b, by simp⟩
  | .int i, _, _, h, r => by
    cases h
    obtain ⟨t, rfl⟩ := r
    exact ⟨_, Reads.int i t, by simp⟩
  | .str x, _, _, h, r => by
    cases h
    obtain ⟨t, rfl⟩ := r
    exact ⟨_, Reads.str x t, by simp⟩
  | .list _, _, _, h, _ => by cases h
  | .tuple ds, _, _, h, r => by
    cases h with
    | tup hs ha =>
      cases r
      obtain ⟨its, rv, ⟨o, ho, hc, n, hd⟩, _⟩ := I.tuple hs
      obtain ⟨as, hr, nm⟩ := DpT.readsAll I ds _ its ha rv
      exact ⟨_, Reads.tuple ho hc hd hr, nm⟩
  | .dict kvs, _, _, h, r => by
    cases h with
    | dct hf =>
      cases r
      obtain ⟨od, hd⟩ := hf
      obtain ⟨_, ne, vs, kv, o, es, ep, ho, ex, hdat, _, pr, _⟩ := dk_rd I.hok (.inr ⟨od, hd⟩)
      cases kv
      have e0 : es.toList = [] := by
        cases h : es.toList with
        | nil => rfl
        | cons a l => rw [h] at pr; cases pr
      refine ⟨[_] ++ [] ++ [], Reads.dict (kvs := []) ho ex.1 hdat (by rw [e0]; exact ReadsAll.nil) (by rw [e0]; exact ReadsAll.nil), ?_⟩
      rw [List.append_nil, List.append_nil, List.mem_singleton]
      intro z
      subst z
      simp at ne
theorem DpT.readsAll (I : Inv X pins σ H s) : ∀ (ds : List PyData) (vs : List V) (us : List Value), DpTs X.K H vs ds → Vals vs us → ∃ as, ReadsAll s.heap us ds as ∧ sysModules ∉ as
  | [], _, _, h, r => by
    cases h
    cases r
    exact ⟨_, ReadsAll.nil, by simp⟩
  | d :: ds, _, _, h, r => by
    cases h with
    | cons h1 h2 =>
      cases r with
      | cons r1 r2 =>
        obtain ⟨as, q1, n1⟩ := DpT.reads I d _ _ h1 r1
        obtain ⟨bs, q2, n2⟩ := DpT.readsAll I ds _ _ h2 r2
        exact ⟨_, ReadsAll.cons q1 q2, by rw [List.mem_append]; exact fun z => z.elim n1 n2⟩
end
mutual
theorem plain_noDict : ∀ d : PyData, d.plain = true → d.hasDict = false
  | .none, _ => by simp only [PyData.hasDict]
  | .bool _, _ => by simp only [PyData.hasDict]
  | .int _, _ => by simp only [PyData.hasDict]
  | .str _, _ => by simp only [PyData.hasDict]
  | .list xs, h => by
    simp only [PyData.hasDict]
    exact plain_noDicts xs (by simpa [PyData.plain] using h)
  | .tuple xs, h => by
    simp only [PyData.hasDict]
    exact plain_noDicts xs (by simpa [PyData.plain] using h)
  | .dict _, h => by simp [PyData.plain] at h
theorem plain_noDicts : ∀ xs : List PyData, PyData.plainAll xs = true → PyData.hasDictAll xs = false
  | [], _ => by simp only [PyData.hasDictAll]
  | x :: xs, h => by
    simp only [PyData.plainAll, Bool.and_eq_true] at h
    simp only [PyData.hasDictAll, plain_noDict x h.1, plain_noDicts xs h.2, Bool.or_self]
end
def rRepr (K : PySem.W.Frag) : List V → Hp → VK → Prop := fun xs H Q => ∃ x p, xs = [x] ∧ ((Dp K H x p ∧ p.plain = true) ∨ DpT K H x p) ∧ p.showable = true ∧ p.shown.length ≤ sizeLine ∧ p.depth ≤ 51 ∧ Q (.str p.shown) H
theorem call_reprG (gd : X.A.guards = some []) (hu : X.A.units + 64 < cLine) : CallR X (.builtin "repr") (rRepr X.K) := by
  intro pins s σ H xs us Q I r h
  obtain ⟨x, p, rfl, hp, sh, sz, dp, q⟩ := h
  obtain ⟨u, rfl, ru⟩ := vals1 r
  have rd : ∃ as, Reads s.heap u p as ∧ (p.hasDict = true → sysModules ∉ as) := by
    rcases hp with ⟨hp, pl⟩ | hp
    · obtain ⟨as, e⟩ := Dp.reads I p x u hp ru
      exact ⟨as, e, fun z => by rw [plain_noDict p pl] at z; cases z⟩
    · obtain ⟨as, e, n⟩ := DpT.reads I p x u hp ru
      exact ⟨as, e, fun _ => n⟩
  obtain ⟨as, rd, nd⟩ := rd
  have fin : ∀ (h' : Heap) (v tk : Tok), (∀ b o, s.heap.get? b = some o → h'.get? b = some o) → EP X pins σ Q (.str p.shown v) { s with heap := h', toks := tk } := fun h' v tk hk => ⟨.str p.shown, H, I.kept hk, ⟨v, rfl⟩, q⟩
  have tok : ∀ (v : Tok), EP X pins σ Q (.str p.shown v) { s with toks := s.toks + 1 } := fun v => fin s.heap v _ fun _ _ e => e
  cases rd with
  | none => exact PySem.P.repr_of_none (by simpa only [PyData.shown] using tok _)
  | bool b => exact PySem.P.repr_of_bool (by simpa only [PyData.shown] using tok _)
  | int i t => exact PySem.P.repr_of_int (by simpa only [PyData.showable, decide_eq_true_eq] using sh) (by simpa only [PyData.shown] using tok _)
  | str y t => exact PySem.P.repr_of_str (by simpa only [PyData.shown] using tok _) (by simpa only [PyData.shown] using sz)
  | list h1 h2 h3 h4 => exact repr_of_reads' (.list h1 h2 h3 h4) sh nd gd (by omega) (fun _ _ e => e) fin sz
  | tuple h1 h2 h3 h4 => exact repr_of_reads' (.tuple h1 h2 h3 h4) sh nd gd (by omega) (fun _ _ e => e) fin sz
  | dict h1 h2 h3 h4 h5 => exact repr_of_reads' (.dict h1 h2 h3 h4 h5) sh nd gd (by omega) (fun _ _ e => e) fin sz
end
/-- the value as data: scalars, tuples, the empty dict -/
def D.pyT : Nat → D → Option PyData
  | 0, _ => none
  | k + 1, d => match d with
    | .non => some .none
    | .bl b => some (.bool b)
    | .int i => some (.int i)
    | .str s => some (.str (strV s))
    | .tup l => (allM (D.pyT k) l).map .tuple
    | .fd [] [] => some (.dict [])
    | _ => none
def pyR (h : IH) (d : D) : Option PyData := match D.py h 50 d with
  | some p => some p
  | none => D.pyT 50 d
def bRepr : List D → IH → R D
  | [x], h => match pyR h x with
    | some p => if p.showable = true ∧ p.shown.length ≤ sizeLine then .ok (.str p.shown.cps.toList) h else .no
    | none => .no
  | _, _ => .no
section
variable {G : Cf} {et : List Addr} {H : Hp} {h : IH}
theorem pyT_all {k : Nat} (ih : ∀ (d : D) (v : V) (p : PyData), D.pyT k d = some p → Den G et H d v → DpT G.K H v p ∧ p.depth ≤ k) :
    ∀ (ds : List D) (vs : List V) (ps : List PyData), allM (D.pyT k) ds = some ps → DenL G et H ds vs → DpTs G.K H vs ps ∧ ∀ p ∈ ps, p.depth ≤ k
  | [], vs, ps, e, r => by
    simp only [allM, Option.some.injEq] at e
    rw [denL_nil] at r
    subst e r
    exact ⟨.nil, by simp⟩
  | d :: ds, vs, ps, e, r => by
    obtain ⟨p, ps', e1, e2, rfl⟩ := allM_cons e
    obtain ⟨v, ws, rfl, r1, r2⟩ := denL_cons.mp r
    obtain ⟨a1, a3⟩ := ih d v p e1 r1
    obtain ⟨b1, b3⟩ := pyT_all ih ds ws ps' e2 r2
    exact ⟨.cons a1 b1, by simpa using ⟨a3, b3⟩⟩
theorem pyT_ok : ∀ (k : Nat) (d : D) (v : V) (p : PyData), D.pyT k d = some p → Den G et H d v → DpT G.K H v p ∧ p.depth ≤ k
  | 0, _, _, _, e, _ => by simp [D.pyT] at e
  | k + 1, d, v, p, e, r => by
    have ih := pyT_all (G := G) (et := et) (H := H) (pyT_ok k)
    cases d with
    | non => simp only [D.pyT, Option.some.injEq] at e; subst e; rw [den_non.mp r]; exact ⟨.non, by simp [PyData.depth]⟩
    | bl b => simp only [D.pyT, Option.some.injEq] at e; subst e; rw [den_bl.mp r]; exact ⟨.bl b, by simp [PyData.depth]⟩
    | int i => simp only [D.pyT, Option.some.injEq] at e; subst e; rw [den_int.mp r]; exact ⟨.int i, by simp [PyData.depth]⟩
    | str s => simp only [D.pyT, Option.some.injEq] at e; subst e; rw [den_str.mp r]; exact ⟨.str _, by simp [PyData.depth]⟩
    | tup l =>
      simp only [D.pyT, Option.map_eq_some_iff] at e
      obtain ⟨ps, e1, rfl⟩ := e
      obtain ⟨a, vs, rfl, r1, r2⟩ := den_tup.mp r
      obtain ⟨b1, b3⟩ := ih l vs ps e1 r2
      exact ⟨.tup r1 b1, by simp only [PyData.depth]; have := depthAll_le b3; omega⟩
    | ref n => simp [D.pyT] at e
    | fl l => simp [D.pyT] at e
    | fd ks l =>
      cases ks with
      | cons => simp [D.pyT] at e
      | nil =>
        cases l with
        | cons => simp [D.pyT] at e
        | nil =>
          simp only [D.pyT, Option.some.injEq] at e
          subst e
          obtain ⟨a, ws, rfl, hf, hk, _⟩ := den_fd.mp r
          have : ws = [] := List.map_eq_nil_iff.mp hk
          subst this
          exact ⟨.dct hf, by simp [PyData.depth, PyData.depthKv]⟩
    | exc a => simp [D.pyT] at e
end
theorem strV_cps (x : Str) : strV x.cps.toList = x := by
  obtain ⟨c⟩ := x
  rfl
theorem bRepr_ok {G : Cf} : CallS G (rRepr G.K) bRepr := by
  intro et H h xs vs W Q rv R p
  unfold bRepr at p
  split at p
  · rename_i x
    obtain ⟨v, rfl, h1⟩ := list1 rv
    split at p
    · rename_i d hd
      split at p
      · rename_i c
        have hq : Q (.str d.shown) H := p.here R _ (den_str.mpr (by rw [strV_cps]))
        unfold pyR at hd
        split at hd
        · rename_i d' he
          injection hd with hd
          subst hd
          obtain ⟨a1, a2, a3⟩ := py_ok R 50 x v d' he h1
          exact ⟨v, d', rfl, .inl ⟨a1, a2⟩, c.1, c.2, by omega, hq⟩
        · obtain ⟨a1, a3⟩ := pyT_ok 50 x v d hd h1
          exact ⟨v, d, rfl, .inr a1, c.1, c.2, by omega, hq⟩
      · exact p.elim
    · exact p.elim
  · exact p.elim
theorem law_okG {P : Program} {w : World} {K : PySem.W.Frag} {mg : Str → Option Value} {base : Heap} {CX : CXT} {k : Nat} {f : Addr} {fd : FuncData} {ps : List Str} {G : Cf} {fm : MF} (F : FnOkG P w K mg base CX k f fd ps (FSp G 1 fm)) (hl : LawOk fm) : FnOkG P w K mg base CX k f fd ps (spLaw G fm) :=
  F.imp fun vs H Q E ⟨a, ns, e, l, o, hS, q⟩ => by
    refine ⟨by rw [e]; rfl, [a], [.ref 0], [.frz (ns.map D.int)], ?_, ⟨rfl, ?_, ?_⟩, ?_⟩
    · rw [e]
      exact denL_cons.mpr ⟨_, [], rfl, den_ref.mpr ⟨a, rfl, rfl⟩, by simp⟩
    · intro n m c c' b h1 h2 h3 h4 f1 f2
      have : n = 0 := by
        have := (List.getElem?_eq_some_iff.mp h3).1
        simp at this
        omega
      subst this
      simp at h1
      subst h1
      cases f1
    · intro n c b h1 h2
      have : n = 0 := by
        have := (List.getElem?_eq_some_iff.mp h2).1
        simp at this
        omega
      subst this
      simp at h1 h2
      subst h1 h2
      exact ⟨_, FrzL.of_only o hS, DenL.ofInts⟩
    · obtain ⟨h', e2⟩ := hl ns l
      rw [e2]
      intro et' H' _ _ _ v hv
      rw [den_bl.mp hv]
      exact q H'
@[simp] theorem ap_bRepr {x : D} {h : IH} : bRepr [x] h = (match pyR h x with
    | some p => if p.showable = true ∧ p.shown.length ≤ sizeLine then .ok (.str p.shown.cps.toList) h else .no
    | none => .no) := rfl
/-! ### how long what is shown is -/
def Shw (M : Nat) (p : PyData) : Prop := p.showable = true ∧ p.shown.length ≤ M
theorem Shw.mono {M N : Nat} {p : PyData} (h : Shw M p) (l : M ≤ N) : Shw N p := ⟨h.1, Nat.le_trans h.2 l⟩
theorem shw_none : Shw 5 .none := by
  refine ⟨by simp only [PyData.showable], ?_⟩
  simp only [PyData.shown]
  decide +kernel
theorem shw_bool (b : Bool) : Shw 5 (.bool b) := by
  refine ⟨by simp only [PyData.showable], ?_⟩
  simp only [PyData.shown]
  cases b <;> decide +kernel
theorem shw_int {i : Int} (h : i.natAbs < 2 ^ 1900) : Shw 1921 (.int i) := by
  have l : i.natAbs.log2 < 1920 := by
    by_cases z : i.natAbs = 0
    · rw [z]; decide
    · have := (Nat.log2_lt z).mpr h
      omega
  refine ⟨by simp only [PyData.showable, l, decide_true], ?_⟩
  simp only [PyData.shown]
  exact PyProof.Rows.int_text_len_1921 l
theorem shw_str {w : List Nat} (h : ∀ c ∈ w, c < 4294967296) : Shw (10 * w.length + 2) (.str (strV w)) := by
  refine ⟨by simp only [PyData.showable], ?_⟩
  simp only [PyData.shown]
  have := StrLaws.reprText_len (strV w) (fun c hc => by
    have : c ∈ w := by
      unfold strV at hc
      simpa using hc
    have := h c this
    omega)
  rw [strV_length] at this
  exact this
theorem shownAll_eq : ∀ ps : List PyData, PyData.shownAll ps = ps.map PyData.shown
  | [] => by simp only [PyData.shownAll, List.map_nil]
  | p :: ps => by simp only [PyData.shownAll, List.map_cons, shownAll_eq ps]
theorem showAll_all : ∀ {ps : List PyData}, (∀ p ∈ ps, p.showable = true) → PyData.showableAll ps = true
  | [], _ => by simp only [PyData.showableAll]
  | p :: ps, h => by simp only [PyData.showableAll, h p List.mem_cons_self, showAll_all fun q hq => h q (List.mem_cons_of_mem _ hq), Bool.and_self]
theorem sum_le {M : Nat} : ∀ {ls : List Nat}, (∀ l ∈ ls, l ≤ M) → ls.sum ≤ M * ls.length
  | [], _ => by simp
  | a :: ls, h => by
    have h1 := h a List.mem_cons_self
    have h2 := sum_le fun l hl => h l (List.mem_cons_of_mem _ hl)
    rw [List.sum_cons, List.length_cons, Nat.mul_succ]
    omega
theorem shw_sum {M : Nat} {ps : List PyData} (h : ∀ p ∈ ps, Shw M p) : ((ps.map PyData.shown).map (·.length)).sum + 2 * (ps.map PyData.shown).length + 3 ≤ (M + 2) * ps.length + 3 := by
  have := sum_le (M := M) (ls := (ps.map PyData.shown).map (·.length)) (fun l hl => by
    rw [List.map_map] at hl
    obtain ⟨p, hp, rfl⟩ := List.mem_map.mp hl
    exact (h p hp).2)
  simp only [List.length_map] at this ⊢
  rw [Nat.add_mul]
  omega
theorem shw_tuple {M : Nat} {ps : List PyData} (h : ∀ p ∈ ps, Shw M p) : Shw ((M + 2) * ps.length + 3) (.tuple ps) := by
  refine ⟨?_, ?_⟩
  · simp only [PyData.showable]
    exact showAll_all fun p hp => (h p hp).1
  · simp only [PyData.shown, shownAll_eq]
    exact Nat.le_trans (tupleText_len_le _) (shw_sum h)
theorem shw_list {M : Nat} {ps : List PyData} (h : ∀ p ∈ ps, Shw M p) : Shw ((M + 2) * ps.length + 3) (.list ps) := by
  refine ⟨?_, ?_⟩
  · simp only [PyData.showable]
    exact showAll_all fun p hp => (h p hp).1
  · simp only [PyData.shown, shownAll_eq]
    exact Nat.le_trans (listText_len_le _) (shw_sum h)
theorem shw_dict0 : Shw 2 (.dict []) := by
  refine ⟨by simp only [PyData.showable, PyData.showableKv], ?_⟩
  simp only [PyData.shown, PyData.shownKv]
  decide +kernel
theorem allM_ex {A : Type} {f : D → Option A} {p : A → Prop} : ∀ {l : List D}, (∀ x ∈ l, ∃ a, f x = some a ∧ p a) → ∃ as, allM f l = some as ∧ as.length = l.length ∧ ∀ a ∈ as, p a
  | [], _ => ⟨[], rfl, rfl, by simp⟩
  | x :: l, h => by
    obtain ⟨a, e, pa⟩ := h x List.mem_cons_self
    obtain ⟨as, es, el, pas⟩ := allM_ex fun y hy => h y (List.mem_cons_of_mem _ hy)
    refine ⟨a :: as, by unfold allM; rw [e, es], by simp [el], fun b hb => ?_⟩
    rcases List.mem_cons.mp hb with rfl | hb
    · exact pa
    · exact pas b hb
theorem allM_none {A : Type} {f : D → Option A} : ∀ {l : List D} {x : D}, x ∈ l → f x = none → allM f l = none
  | y :: l, x, hm, e => by
    unfold allM
    rcases List.mem_cons.mp hm with rfl | hm
    · rw [e]
    · rw [allM_none hm e]
      cases f y <;> rfl
section
variable {h : IH} {k M : Nat}
/-- data without a dict, its text at most M long -/
def PyOk (h : IH) (k M : Nat) (x : D) : Prop := ∃ p, D.py h k x = some p ∧ Shw M p
/-- scalars, tuples, the empty dict -/
def PtOk (k M : Nat) (x : D) : Prop := ∃ p, D.pyT k x = some p ∧ Shw M p
theorem PyOk.mono {N : Nat} {x : D} (p : PyOk h k M x) (l : M ≤ N) : PyOk h k N x := by
  obtain ⟨a, e, s⟩ := p
  exact ⟨a, e, s.mono l⟩
theorem PtOk.mono {N : Nat} {x : D} (p : PtOk k M x) (l : M ≤ N) : PtOk k N x := by
  obtain ⟨a, e, s⟩ := p
  exact ⟨a, e, s.mono l⟩
theorem pyok_non : PyOk h (k + 1) 5 .non := ⟨_, rfl, shw_none⟩
theorem pyok_bl {b : Bool} : PyOk h (k + 1) 5 (.bl b) := ⟨_, rfl, shw_bool b⟩
theorem pyok_int {i : Int} (l : i.natAbs < 2 ^ 1900) : PyOk h (k + 1) 1921 (.int i) := ⟨_, rfl, shw_int l⟩
theorem pyok_str {w : List Nat} (l : ∀ c ∈ w, c < 4294967296) : PyOk h (k + 1) (10 * w.length + 2) (.str w) := ⟨_, rfl, shw_str l⟩
theorem pyok_tup {l : List D} (hl : ∀ x ∈ l, PyOk h k M x) : PyOk h (k + 1) ((M + 2) * l.length + 3) (.tup l) := by
  obtain ⟨ps, e, el, sp⟩ := allM_ex hl
  refine ⟨.tuple ps, by simp [D.py, e], ?_⟩
  rw [← el]
  exact shw_tuple sp
theorem pyok_fl {l : List D} (hl : ∀ x ∈ l, PyOk h k M x) : PyOk h (k + 1) ((M + 2) * l.length + 3) (.fl l) := by
  obtain ⟨ps, e, el, sp⟩ := allM_ex hl
  refine ⟨.list ps, by simp [D.py, e], ?_⟩
  rw [← el]
  exact shw_list sp
theorem ptok_non : PtOk (k + 1) 5 .non := ⟨_, rfl, shw_none⟩
theorem ptok_bl {b : Bool} : PtOk (k + 1) 5 (.bl b) := ⟨_, rfl, shw_bool b⟩
theorem ptok_int {i : Int} (l : i.natAbs < 2 ^ 1900) : PtOk (k + 1) 1921 (.int i) := ⟨_, rfl, shw_int l⟩
theorem ptok_str {w : List Nat} (l : ∀ c ∈ w, c < 4294967296) : PtOk (k + 1) (10 * w.length + 2) (.str w) := ⟨_, rfl, shw_str l⟩
theorem ptok_fd : PtOk (k + 1) 2 (.fd [] []) := ⟨_, rfl, shw_dict0⟩
theorem ptok_tup {l : List D} (hl : ∀ x ∈ l, PtOk k M x) : PtOk (k + 1) ((M + 2) * l.length + 3) (.tup l) := by
  obtain ⟨ps, e, el, sp⟩ := allM_ex hl
  refine ⟨.tuple ps, by simp [D.pyT, e], ?_⟩
  rw [← el]
  exact shw_tuple sp
theorem repr_py {x : D} (p : PyOk h 50 M x) (l : M ≤ 10000000) : ∃ s, bRepr [x] h = .ok (.str s) h := by
  obtain ⟨a, e, s1, s2⟩ := p
  refine ⟨a.shown.cps.toList, ?_⟩
  have : a.shown.length ≤ sizeLine := sz (Nat.le_trans s2 l)
  rw [ap_bRepr]
  unfold pyR
  rw [e]
  simp only [s1, this, and_self, if_true]
theorem repr_pt {x : D} (no : D.py h 50 x = none) (p : PtOk 50 M x) (l : M ≤ 10000000) : ∃ s, bRepr [x] h = .ok (.str s) h := by
  obtain ⟨a, e, s1, s2⟩ := p
  refine ⟨a.shown.cps.toList, ?_⟩
  have : a.shown.length ≤ sizeLine := sz (Nat.le_trans s2 l)
  rw [ap_bRepr]
  unfold pyR
  rw [no, e]
  simp only [s1, this, and_self, if_true]
theorem py_fd {ks : List (Sum Int (List Nat))} {l : List D} : D.py h k (.fd ks l) = none := by
  cases k <;> rfl
theorem py_tup_none {l : List D} {x : D} (hm : x ∈ l) (e : D.py h k x = none) : D.py h (k + 1) (.tup l) = none := by
  show (allM (D.py h k) l).map _ = none
  rw [allM_none hm e]
  rfl
end
/-! ### calls of such defs -/
section
variable {X : Cx} {CX : CXT} {k : Nat} {f : Addr} {fd : FuncData} {ps : List Str} {sp : Sp} {x : Str} {p pos : Pos} {e : Expr} {es : List Expr} {t : TA} {E : L2.St → XK} {σ : L2.St}
theorem run_fnSG {pins : List (Addr × Obj)} {H : Hp} {s : Shared} {Q : VK} {us : List Value} {vs : List V} (F : FnOkG X.prog X.w X.K X.mg X.base CX k f fd ps sp) (gd : X.A.guards = some []) (hr : Room k X.A) (hb : Binds X.K fd ps []) (hx : PassesAt CX X σ (E σ))
    (I : Inv X pins σ H s) (r : Vals vs us) (h : sp vs H Q (E σ)) : wpAny (model X.prog X.w) X.A (call (.ref f) us) (EP X pins σ Q) X.xe s := by
  have hl : us.length = ps.length := by rw [← r.length]; exact F.len _ _ _ _ h
  have b := hb s us I.kIn (by rw [List.append_nil]; exact hl)
  rw [List.append_nil] at b
  refine wpAny_call (codeAny_mono (F.run X.A X.stack s H ⟨us, []⟩ us vs Q (E σ) hr gd I.env0 b r h) fun r s' hq => ?_)
  cases r with
  | error e => exact hx pins H s e s' I hq
  | ok fl =>
    cases fl with
    | ret u => exact I.after hq
    | next => exact False.elim hq
    | brk => exact False.elim hq
    | cont => exact False.elim hq
theorem pe_callSG (F : FnOkG X.prog X.w X.K X.mg X.base CX k f fd ps sp) (gd : X.A.guards = some []) (hr : Room k X.A) (hg : Gl X x) (hm : X.mg x = some (.ref f)) (hk : PySem.W.keepIn X.K (.ref f) = true) (hb : Binds X.K fd ps []) (hx : ∀ σ, PassesAt CX X σ (E σ))
    (ha : PA X (e :: es) t) (hdb : (x == ("__debug__" : Str)) = false := by decide) (he : starEach (e :: es) X.env = (false, eval e X.env) :: starEach es X.env := by rfl) (hpl : (backTo pos (starEach es X.env)).any (·.1) = false := by rfl) :
    PE X (.Call (.Name x p) (e :: es) [] pos) (fun σ H Q => t σ H fun vs H1 => sp vs H1 Q (E σ)) := by
  refine ⟨fun pins s σ H Q I h => ?_⟩
  refine wpAny_Call_Name_kw (ld_glob I hg hm ?_ hdb)
  refine PySem.W.callWith_K (h₀ := X.base) I.ok.mod.kin hk (thn (ha.run pos pins s σ H _ I h) fun us s1 ⟨vs, H1, I1, r, q⟩ => ⟨I1.kIn, ?_⟩) he hpl
  exact run_fnSG F gd hr hb (hx σ) I1 r q
end
/-- such a def at hand -/
structure FnGg (P : Program) (w : World) (K : PySem.W.Frag) (mg : Str → Option Value) (base : Heap) (G : Cf) (x : Str) (k n : Nat) (fm : MF) : Prop where
  ex : ∃ f fd ps, FnOkG P w K mg base (L2.CX P w) k f fd ps (FSp G n fm) ∧ mg x = some (.ref f) ∧ PySem.W.keepIn K (.ref f) = true ∧ Binds K fd ps []
section
variable {X : Cx} {G : Cf} {W : WX} {k j n : Nat} {fm : MF} {x : Str} {p pos : Pos} {e : Expr} {es : List Expr} {mt : MA}
theorem me_callGg (F : FnGg X.prog X.w X.K X.mg X.base G x k n fm) (gd : X.A.guards = some []) (hr : Room j X.A) (hj : k ≤ j) (tk : Takes X W) (ha : PA X (e :: es) (tA G W mt)) (hg : Gl X x := by rfl) (hdb : (x == ("__debug__" : Str)) = false := by decide)
    (he : starEach (e :: es) X.env = (false, eval e X.env) :: starEach es X.env := by rfl) (hpl : (backTo pos (starEach es X.env)).any (·.1) = false := by rfl) : PE X (.Call (.Name x p) (e :: es) [] pos) (tE G W (mCall n fm mt)) := by
  obtain ⟨f, fd, ps, h1, h2, h3, h4⟩ := F.ex
  exact PE.imp (pe_callSG h1 gd (hr.mono hj) hg h2 h3 h4 (passAt tk) ha hdb he hpl) fun σ H Q ⟨et, env, h, hE, hH, hP⟩ =>
    ⟨et, env, h, hE, hH, (Pst.of_bind hP).imp fun et1 H1 h1 ds p e hr q vs hv => FSp.of_call hv hr q⟩
end
theorem DefAt.fnGg {P : Program} {w : World} {K : PySem.W.Frag} {mg : Str → Option Value} {base : Heap} {G : Cf} {x : Str} {st : Stmt} {ps : List Str} {k n : Nat} {fm : MF} (d : DefAt K mg x st ps) (h : ∀ f fd, Fun K x x st f fd → FnOkG P w K mg base (L2.CX P w) k f fd ps (FSp G n fm)) : FnGg P w K mg base G x k n fm := by
  obtain ⟨f, fd, h1, h2, h3⟩ := d.ex
  exact ⟨f, fd, ps, h f fd h1, h2, h1.kp, h3⟩
end NR

set_option Elab.async false
set_option linter.all false
set_option maxRecDepth 100000
set_option maxHeartbeats 4000000
namespace NR
open PySem PySem.Spec PyProof.Rows L2
/-! ### foldings looked at -/
/-- a table in its form -/
structure TW (T : Tb) : Prop where
  s7 : T.sig.length ≤ 7
  g1 : 1 ≤ T.goes.length
  g2 : T.goes.length ≤ 32
  row : ∀ r ∈ T.goes, r.length = T.sig.length ∧ ∀ x ∈ r, x < T.goes.length
  kl : T.kinds.length = T.goes.length
def cntB (lo hi : Int) : D → Bool
  | .int i => decide (lo ≤ i) && decide (i ≤ hi)
  | _ => false
theorem number_call {x : D} (k : x.kn = true) {lo hi : Int} (h : IH) : callC 3 m__law_number [x, .int lo, .int hi] h = .ok (.bl (cntB lo hi x)) h := by
  refine callC_same rfl ?_
  unfold m__law_number
  cases x with
  | int i =>
    by_cases a : lo ≤ i <;> by_cases b : i ≤ hi <;> simp [cntB, a, b, mChain]
  | ref n => cases k
  | exc n => cases k
  | _ => simp [cntB]
/-- a paper: a tuple of things, or no tuple -/
def PapF (x : D) : Prop := (∃ l, x = .tup l ∧ (∀ y ∈ l, y.kn = true) ∧ l.length ≤ 100) ∨ (∀ h, isT "tuple" h x = some false)
def D.tupl : D → List D
  | .tup l => l
  | _ => []
def rowB (n : Nat) (hi : Int) : D → Bool
  | .tup l => decide (l.length = n) && l.all (cntB 0 hi)
  | _ => false
/-- the paper's numbers -/
theorem row_nats {l : List D} {n m : Nat} (m1 : 1 ≤ m) (h : rowB n ((m : Nat) - 1 : Int) (.tup l) = true) : ∃ rs : List Nat, l = rs.map nD ∧ rs.length = n ∧ ∀ q ∈ rs, q < m := by
  have h2 : (decide (l.length = n) && l.all (cntB 0 ((m : Nat) - 1 : Int))) = true := h
  rw [Bool.and_eq_true, decide_eq_true_eq] at h2
  obtain ⟨e, h3⟩ := h2
  subst e
  clear h
  have h := h3
  clear h3
  induction l with
  | nil => exact ⟨[], rfl, rfl, by simp⟩
  | cons x l ih =>
    rw [List.all_cons, Bool.and_eq_true] at h
    obtain ⟨rs, rfl, e, b⟩ := ih h.2
    cases x with
    | int i =>
      have c : (decide (0 ≤ i) && decide (i ≤ (m : Nat) - 1)) = true := h.1
      rw [Bool.and_eq_true, decide_eq_true_eq, decide_eq_true_eq] at c
      refine ⟨i.toNat :: rs, ?_, by simp, fun q hq => ?_⟩
      · rw [List.map_cons]
        congr 1
        unfold nD
        congr 1
        omega
      · rcases List.mem_cons.mp hq with rfl | hq
        · omega
        · exact b q hq
    | _ => cases h.1
def inB (tr rs : List Nat) : Nat → List Nat → Bool
  | _, [] => true
  | i, to :: row => decide (tr.getD i 0 = rs.getD to 0) && inB tr rs (i + 1) row
def outB (T U : Tb) (rs : List Nat) : Nat → List (List Nat) → Bool
  | _, [] => true
  | i, row :: G => decide (U.kinds.getD (rs.getD i 0) 0 = T.kinds.getD i 0) && (inB (U.goes.getD (rs.getD i 0) []) rs 0 row && outB T U rs (i + 1) G)
/-- whether the paper is a folding -/
def foldB (T U : Tb) (x : D) : Bool := decide (T.sig = U.sig) && (rowB T.goes.length ((U.goes.length : Nat) - 1 : Int) x && (match x.tupl.head? with | some (.int i) => decide (i = 0) | _ => false) && outB T U (x.tupl.map fun d => match d with | .int i => i.toNat | _ => 0) 0 T.goes)
theorem tw0 {T : Tb} {h : IH} : dIx T.enc (.int 0) h = .ok (.str T.sig) h := dIx_seq (xs := [.str T.sig, .tup (T.goes.map gT), .tup (T.kinds.map D.int)]) rfl (by omega) rfl
theorem tw1 {T : Tb} {h : IH} : dIx T.enc (.int 1) h = .ok (.tup (T.goes.map gT)) h := dIx_seq (xs := [.str T.sig, .tup (T.goes.map gT), .tup (T.kinds.map D.int)]) rfl (by omega) rfl
theorem tw2 {T : Tb} {h : IH} : dIx T.enc (.int 2) h = .ok (.tup (T.kinds.map D.int)) h := dIx_seq (xs := [.str T.sig, .tup (T.goes.map gT), .tup (T.kinds.map D.int)]) rfl (by omega) rfl
theorem gnat {l : List Nat} {i : Nat} (hi : i < l.length) (h : IH) : dIx (.tup (l.map nD)) (.int (i : Nat)) h = .ok (.int (l.getD i 0 : Nat)) h := dIx_nat (xs := l.map nD) rfl (by rw [List.getElem?_map, List.getElem?_eq_getElem hi, List.getD_eq_getElem?_getD, List.getElem?_eq_getElem hi]; rfl)
theorem gint {l : List Int} {i : Nat} (hi : i < l.length) (h : IH) : dIx (.tup (l.map D.int)) (.int (i : Nat)) h = .ok (.int (l.getD i 0)) h := dIx_nat (xs := l.map D.int) rfl (by rw [List.getElem?_map, List.getElem?_eq_getElem hi, List.getD_eq_getElem?_getD, List.getElem?_eq_getElem hi]; rfl)
theorem grow_ {l : List (List Nat)} {i : Nat} (hi : i < l.length) (h : IH) : dIx (.tup (l.map gT)) (.int (i : Nat)) h = .ok (.tup ((l.getD i []).map nD)) h := dIx_nat (xs := l.map gT) rfl (by rw [List.getElem?_map, List.getElem?_eq_getElem hi, List.getD_eq_getElem?_getD, List.getElem?_eq_getElem hi]; rfl)
section
variable {T U : Tb} {h : IH} {rs : List Nat}
abbrev fhE (T U : Tb) (rs : List Nat) (x5 x6 x7 x8 : Option D) : EV := [some T.enc, some U.enc, some (.tup (rs.map nD)), some (.tup (T.goes.map gT)), some (.tup (T.kinds.map D.int)), x5, x6, x7, x8]
end
end NR

set_option Elab.async false
set_option linter.all false
set_option maxRecDepth 100000
set_option maxHeartbeats 4000000
namespace NR
open PySem PySem.Spec PyProof.Rows L2
section
variable {T U : Tb} {h : IH} {rs : List Nat}
theorem sig_ne (h : IH) : dEq true (.str T.sig) (.str U.sig) h = .ok (.bl (!decide (T.sig = U.sig))) h := by
  rw [dEq_nb rfl rfl, if_pos rfl]
  congr 3
  rw [Bool.eq_iff_iff]
  simp
theorem fold_nats (q : Nat) : foldB T U (.tup ((q :: rs).map nD)) = (decide (T.sig = U.sig) && (rowB T.goes.length ((U.goes.length : Nat) - 1 : Int) (.tup ((q :: rs).map nD)) && decide ((q : Int) = 0) && outB T U (q :: rs) 0 T.goes)) := by
  unfold foldB
  have e : ((q :: rs).map nD).map (fun d => match d with | .int i => i.toNat | _ => 0) = q :: rs := by
    rw [List.map_map]
    conv => rhs; rw [← List.map_id (q :: rs)]
    rfl
  show (decide (T.sig = U.sig) && (rowB T.goes.length ((U.goes.length : Nat) - 1 : Int) (.tup ((q :: rs).map nD)) && decide ((q : Int) = 0) && outB T U (((q :: rs).map nD).map (fun d => match d with | .int i => i.toNat | _ => 0)) 0 T.goes)) = _
  rw [e]
end
end NR

set_option Elab.async false
set_option linter.all false
set_option maxRecDepth 100000
set_option maxHeartbeats 4000000
namespace NR
open PySem PySem.Spec PyProof.Rows L2
/-! ### the law looks whether it is a table -/
theorem lrow_call {l : List Int} {lo hi : Int} (hl : ∀ i ∈ l, lo ≤ i ∧ i ≤ hi) (ll : l.length ≤ 1000) (h : IH) : callC 4 m__law_is_row [.tup (l.map D.int), .int (l.length : Nat), .int lo, .int hi] h = .ok (.bl true) h := by
  refine callC_same rfl ?_
  have comp := lcF_map (it := iSeq (mVar 0)) (ws := [4]) (gg := gSet 4) (m := e__law_is_row_1) (ds := l.map D.int) (h := h) (env := [some (.tup (l.map D.int)), some (.int (l.length : Nat)), some (.int lo), some (.int hi), none]) (fun _ => .bl true) rfl (by rw [List.length_map]; omega) (fun d hd => rfl) (fun d hd => by
    obtain ⟨q, hq, rfl⟩ := List.mem_map.mp hd
    refine ⟨_, rfl, fun w => ?_⟩
    have c := number_call (x := .int q) rfl (lo := lo) (hi := hi) (h ++ [w])
    have e : cntB lo hi (.int q) = true := by
      show (decide (lo ≤ q) && decide (q ≤ hi)) = true
      rw [decide_eq_true (hl q hq).1, decide_eq_true (hl q hq).2]
      rfl
    rw [e] at c
    unfold e__law_is_row_1
    generalize l.map D.int = LL at *
    simp [wipeE, c])
  have em : (l.map D.int).map (fun _ => D.bl true) = (List.replicate l.length true).map D.bl := by
    rw [List.map_map, List.map_replicate, show ((fun _ => D.bl true) ∘ D.int) = fun _ => D.bl true from rfl, List.map_const']
  rw [em] at comp
  have ba : bAll [.fl ((List.replicate l.length true).map D.bl)] h = .ok (.bl true) h := by
    rw [bAll_fl]
    congr 2
    rw [List.all_eq_true]
    intro x hx
    rw [List.eq_of_mem_replicate hx]
    rfl
  have bl : bLen [.tup (l.map D.int)] h = .ok (.int (l.length : Nat)) h := by rw [bLen_tup, List.length_map]
  unfold m__law_is_row
  generalize mFz (mLc (iSeq (mVar 0)) (gSet 4) mYes e__law_is_row_1 [4]) = CC at *
  generalize (List.replicate l.length true).map D.bl = BB at *
  generalize l.map D.int = LL at *
  simp [comp, ba, bl, -bAll_fl, -bLen_tup]
theorem istable_call {U : Tb} (ok : U.Ok) (h : IH) : callC 2 m__law_is_table [U.enc, .str U.sig] h = .ok (.bl true) h := by
  refine callC_same rfl ?_
  have g1 := ok.g1
  have g2 := ok.g2
  have t6 := ok.tg.l2
  have i0 := tT0 (T := U) (h := h)
  have i1 := tT1 (T := U) (h := h)
  have i2 := tT2 (T := U) (h := h)
  have ib : isT "tuple" h U.enc = some true := by unfold Tb.enc; simp
  have is1 : isT "tuple" h (.tup (U.goes.map gT)) = some true := by simp
  have bE : bLen [U.enc] h = .ok (.int 3) h := rfl
  have bg : ∀ h : IH, bLen [.tup (U.goes.map gT)] h = .ok (.int (U.goes.length : Nat)) h := fun h => by rw [bLen_tup, List.length_map]
  have bs : ∀ h : IH, bLen [.str U.sig] h = .ok (.int (U.sig.length : Nat)) h := fun h => bLen_str (by omega)
  have rk := lrow_call (l := U.kinds) (lo := -1) (hi := 5) ok.kk (by have := ok.kl; omega) h
  rw [ok.kl] at rk
  have comp := lcF_map (it := iSeq (mVar 2)) (ws := [3]) (gg := gSet 3) (m := e__law_is_table_1) (ds := U.goes.map gT) (h := h) (env := [some U.enc, some (.str U.sig), some (.tup (U.goes.map gT)), none]) (fun _ => .bl true) rfl (by rw [List.length_map]; omega) (fun d hd => rfl) (fun d hd => by
    obtain ⟨r, hr, rfl⟩ := List.mem_map.mp hd
    refine ⟨_, rfl, fun w => ?_⟩
    obtain ⟨rl, rb⟩ := ok.row r hr
    have c := lrow_call (l := r.map fun (x : Nat) => (x : Int)) (lo := 0) (hi := (U.goes.length : Nat) - 1) (fun i hi => by
      obtain ⟨q, hq, rfl⟩ := List.mem_map.mp hi
      have := rb q hq
      omega) (by rw [List.length_map]; omega) (h ++ [w])
    rw [← nD_map, List.length_map, rl] at c
    have bg := bg (h ++ [w])
    have bs := bs (h ++ [w])
    unfold e__law_is_table_1
    unfold gT at *
    generalize r.map nD = RR at *
    generalize (U.goes.map fun r => D.tup (r.map nD)) = GG at *
    generalize U.enc = UE at *
    generalize h ++ [w] = H1 at *
    simp [wipeE, bg, bs, c, -bLen_tup])
  have em : (U.goes.map gT).map (fun _ => D.bl true) = (List.replicate U.goes.length true).map D.bl := by
    rw [List.map_map, List.map_replicate, show ((fun _ => D.bl true) ∘ gT) = fun _ => D.bl true from rfl, List.map_const']
  rw [em] at comp
  have ba : bAll [.fl ((List.replicate U.goes.length true).map D.bl)] h = .ok (.bl true) h := by
    rw [bAll_fl]
    congr 2
    rw [List.all_eq_true]
    intro x hx
    rw [List.eq_of_mem_replicate hx]
    rfl
  have bg := bg h
  have q1 : (1 : Int) ≤ (U.goes.length : Nat) := by omega
  have q2 : ((U.goes.length : Nat) : Int) ≤ 32 := by omega
  have sg : isT "str" h (.str U.sig) = some true := is_str_str
  unfold m__law_is_table
  generalize mFz (mLc (iSeq (mVar 2)) (gSet 3) mYes e__law_is_table_1 [3]) = CC at *
  generalize (List.replicate U.goes.length true).map D.bl = BB at *
  generalize U.goes.map gT = GG at *
  generalize U.kinds.map D.int = KK at *
  generalize U.enc = UE at *
  generalize U.goes.length = n at *
  have g1' : 0 < n := g1
  simp [ib, is1, bE, i0, i1, i2, sg, bg, q1, q2, g1, g1', g2, rk, comp, ba, -bAll_fl, -bLen_tup]
end NR

set_option Elab.async false
set_option linter.all false
set_option maxRecDepth 100000
set_option maxHeartbeats 4000000
namespace NR
open PySem PySem.Spec PyProof.Rows L2
/-! ### instances of classes -/
def putFD (f : Str) (d : D) : List (Str × D) → List (Str × D)
  | [] => [(f, d)]
  | (g, x) :: r => if g = f then (g, d) :: r else (g, x) :: putFD f d r
/-- the fields of an instance of a class -/
def insAt (c : Str) (h : IH) : D → Option (List (Str × D))
  | .ref n => match h[n]? with
    | some (.ins c' fs) => if c' = c then some fs else none
    | _ => none
  | _ => none
section
variable {G : Cf} {et : List Addr} {H : Hp}
theorem DenK.look : ∀ {fs : List (Str × D)} {ws : List (Str × V)}, DenK id G et H fs ws → ∀ f : Str, match fs.lookup f with | some d => ∃ v, ws.lookup f = some v ∧ Den G et H d v | none => ws.lookup f = none
  | [], ws, h, f => by
    have : ws = [] := by simpa using h.1
    subst this
    rfl
  | (g, d) :: fs, ws, h, f => by
    obtain ⟨h1, h2⟩ := h
    cases ws with
    | nil => simp at h1
    | cons w ws =>
      obtain ⟨g', v⟩ := w
      simp only [List.map_cons, List.cons.injEq, id] at h1
      obtain ⟨rfl, h1⟩ := h1
      simp only [List.map_cons] at h2
      rw [DenL] at h2
      obtain ⟨v0, vs, e, hd, hl⟩ := h2
      simp only [List.cons.injEq] at e
      obtain ⟨rfl, rfl⟩ := e
      have ih := DenK.look (fs := fs) (ws := ws) ⟨h1, hl⟩ f
      rw [List.lookup_cons, List.lookup_cons]
      cases q : f == g' with
      | true => exact ⟨v, rfl, hd⟩
      | false => exact ih
theorem DenK.put {d : D} {v : V} (hd : Den G et H d v) (f : Str) : ∀ {fs : List (Str × D)} {ws : List (Str × V)}, DenK id G et H fs ws → DenK id G et H (putFD f d fs) (putF f v ws)
  | [], ws, h => by
    have : ws = [] := by simpa using h.1
    subst this
    refine ⟨rfl, ?_⟩
    show DenL G et H [d] [v]
    rw [DenL]
    exact ⟨v, [], rfl, hd, by rw [DenL]⟩
  | (g, x) :: fs, ws, h => by
    obtain ⟨h1, h2⟩ := h
    cases ws with
    | nil => simp at h1
    | cons w ws =>
      obtain ⟨g', y⟩ := w
      simp only [List.map_cons, List.cons.injEq, id] at h1
      obtain ⟨rfl, h1⟩ := h1
      simp only [List.map_cons] at h2
      rw [DenL] at h2
      obtain ⟨v0, vs, e, hx, hl⟩ := h2
      simp only [List.cons.injEq] at e
      obtain ⟨rfl, rfl⟩ := e
      have ih := DenK.put hd f (fs := fs) (ws := ws) ⟨h1, hl⟩
      unfold putFD putF
      by_cases q : g' = f
      · rw [if_pos q, if_pos q]
        refine ⟨by simp [h1], ?_⟩
        show DenL G et H (d :: fs.map (·.2)) (v :: ws.map (·.2))
        rw [DenL]
        exact ⟨_, _, rfl, hd, hl⟩
      · rw [if_neg q, if_neg q]
        refine ⟨by simp [ih.1], ?_⟩
        show DenL G et H (x :: (putFD f d fs).map (·.2)) (y :: (putF f v ws).map (·.2))
        rw [DenL]
        exact ⟨_, _, rfl, hx, ih.2⟩
theorem insAt_den {c : Str} {h : IH} {x : D} {fs : List (Str × D)} {v : V} (R : HRel G et h H) (hv : Den G et H x v) (e : insAt c h x = some fs) : ∃ n a dx ws, x = .ref n ∧ h[n]? = some (.ins c fs) ∧ et[n]? = some a ∧ v = .ref a ∧ H a = some (.ins (G.C c) dx ws) ∧ DenK id G et H fs ws := by
  unfold insAt at e
  split at e
  · rename_i n
    split at e
    · rename_i c' fs' hn
      split at e
      · rename_i ec
        subst ec
        cases e
        rw [Den] at hv
        obtain ⟨a, ha, rfl⟩ := hv
        obtain ⟨dx, ws, h1, h2⟩ := R.cell n _ a hn ha
        exact ⟨n, a, dx, ws, rfl, hn, ha, rfl, h1, h2⟩
      · cases e
    · cases e
  · cases e
end
def mFld (c f : Str) (mo : ME) : ME := fun env h => (mo env h).bind fun x h1 => match (insAt c h1 x).bind (List.lookup f) with
  | some d => .ok d h1
  | none => .no
def putAtF (c f : Str) (d : D) (h : IH) (x : D) : Option IH := match x with
  | .ref n => match insAt c h (.ref n) with
    | some fs => if fs.length ≤ 100 then some (h.set n (.ins c (putFD f d fs))) else none
    | none => none
  | _ => none
def msSetF (c f : Str) (mo me : ME) : MS := fun env h => (me env h).bindS env fun d h1 => (mo env h1).bindS env fun x h2 => match putAtF c f d h2 x with
  | some h3 => .nx env h3
  | none => .no
section
variable {X : Cx} {G : Cf} {W : WX} {o e value : Expr} {c f : Str} {pos pos' : Pos} {mo me : ME}
theorem me_fld (hK : X.K = G.K) (k : Cls X.K (G.C c)) (na : NoAttr X.K (G.C c) f) (ho : PE X o (tE G W mo)) (hb : attributeBase o f X.env (eval o X.env) = eval o X.env := by rfl) : PE X (.Attribute o f pos) (tE G W (mFld c f mo)) := PE.imp (pe_fld ho hb) fun σ H Q ⟨et, env, h, hE, hH, hP⟩ => by
  refine ⟨et, env, h, hE, hH, (Pst.of_bind hP).imp fun et1 H1 h1 x p e hr q v hv => ?_⟩
  cases hi : insAt c h1 x with
  | none =>
    rw [hi] at q
    exact q.elim
  | some fs =>
    rw [hi] at q
    obtain ⟨n, a, dx, ws, rfl, hn, ha, rfl, h3, h4⟩ := insAt_den hr hv hi
    have hl := h4.look f
    have q : Pst G et1 H1 (match fs.lookup f with | some d => R.ok d h1 | none => R.no) _ _ := q
    cases hf : fs.lookup f with
    | none =>
      rw [hf] at q
      exact q.elim
    | some d =>
      rw [hf] at q hl
      obtain ⟨v, e1, e2⟩ := hl
      exact ⟨a, _, dx, ws, v, rfl, h3, k, na, e1, q et1 H1 List.prefix_rfl (Ext.refl _) hr v e2⟩
theorem DenK.len {et : List Addr} {H : Hp} {fs : List (Str × D)} {ws : List (Str × V)} (h : DenK id G et H fs ws) : ws.length = fs.length := by
  have := congrArg List.length h.1
  simpa using this
theorem ms_fld (hK : X.K = G.K) (k : Cls X.K (G.C c)) (na : NoAttr X.K (G.C c) f) (ho : PE X o (tE G W mo)) (hv : PE X value (tE G W me)) (hs : swapsWith value (some (.Attribute o f pos')) pos.line X.env = pure false := by rfl) : PS X (.Assign [.Attribute o f pos'] value pos) (tS G W (msSetF c f mo me)) := PS.imp (ps_fld ho hv hs) fun D σ H ⟨et, env, h, hE, hH, hP⟩ => by
  refine ⟨et, env, h, hE, hH, (PstS.of_bind hE hP).imp fun et1 H1 h1 d p e hr q v hv => ?_⟩
  refine ⟨et1, env, h1, hE.mono p e, hr, (PstS.of_bind (hE.mono p e) q).imp fun et2 H2 h2 x p2 e2 hr2 q2 u hu => ?_⟩
  unfold putAtF at q2
  cases x with
  | ref n =>
    dsimp only at q2
    cases hi : insAt c h2 (.ref n) with
    | none =>
      rw [hi] at q2
      exact q2.elim
    | some fs =>
      rw [hi] at q2
      dsimp only at q2
      split at q2
      · rename_i h3 hq
        split at hq
        · rename_i hl
          cases hq
          obtain ⟨n', a, dx, ws, en, hn, ha, rfl, h3, h4⟩ := insAt_den hr2 hu hi
          cases en
          have hv2 := hv.mono p2 e2
          refine ⟨a, _, dx, ws, rfl, h3, k, na, (by rw [h4.len]; omega), ?_⟩
          have ex : Ext H2 (upd H2 a (.ins (G.C c) dx (putF f v ws))) := Ext.mut h3 True.intro
          exact q2 et2 _ σ List.prefix_rfl ex (hr2.set hn ha rfl h3 True.intro ⟨dx, _, upd_same, ((DenK.put hv2 f h4).mono List.prefix_rfl ex)⟩) (((hE.mono p e).mono p2 e2).mono List.prefix_rfl ex)
        · cases hq
      · exact q2.elim
  | _ => exact q2.elim
end
/-! ### methods -/
def tMthS (C : Addr) (m : Str) (sp : Sp) (E : L2.St → XK) (ta : TE) (t : TA) : TE := fun σ H Q => ta σ H fun x H1 => ∃ a dx fs, x = .ref a ∧ H1 a = some (.ins C dx fs) ∧ fs.lookup m = none ∧ t σ H1 fun vs H2 => sp (x :: vs) H2 Q (E σ)
section
variable {X : Cx} {CX : CXT} {k : Nat} {f C : Addr} {fd : FuncData} {ps : List Str} {sp : Sp} {E : L2.St → XK} {x m : Str} {p pos apos : Pos} {e o : Expr} {es : List Expr} {ta : TE} {t : TA}
theorem pe_mthS {pl : Sem Bool} (he : PE X o ta) (c : Cls X.K C) (hm : Meth X.K C m f) (F : FnOk X.prog X.w X.K X.mg X.base CX k f fd ps sp) (hr : Room k X.A) (hb : Binds X.K fd ps []) (hx : ∀ σ, PassesAt CX X σ (E σ)) (ha : PA X (e :: es) t)
    (hst : starEach (e :: es) X.env = (false, eval e X.env) :: starEach es X.env := by rfl) (hpl : (backTo pos (starEach es X.env)).any (·.1) = false := by rfl)
    (ht : eval (.Call (.Attribute o m apos) (e :: es) [] pos) X.env = (do
      let ov ← eval o X.env
      standAt apos.atName
      let (f, first) ← holding [ov] (getMethod ov m pl)
      callWith pos f first (backTo pos (starEach (e :: es) X.env)) (backToKw pos (keywordEach [] X.env))) := by rfl) :
    PE X (.Call (.Attribute o m apos) (e :: es) [] pos) (tMthS C m sp E ta t) := by
  refine ⟨fun pins s σ H Q I h => ?_⟩
  refine PySem.W.methodCall_KW (pl := pl) (thn (he.run pins s σ H _ I h) fun u s1 ⟨x, H1, I1, rx, a, dx, fs, ex, ea, l, q⟩ => ?_) ht
  subst ex
  obtain rfl : u = Value.ref a := rx
  refine getmeth_ok I1 ea c hm l ?_
  refine PySem.W.callWith_K (first := [.ref a]) (h₀ := X.base) I.ok.mod.kin hm.kp (thn (ha.run pos pins s1 σ H1 _ I1 q) fun us s2 ⟨vs, H2, I2, r, q2⟩ => ⟨I2.kIn, ?_⟩) hst hpl
  exact run_fnS (us := .ref a :: us) (vs := .ref a :: vs) F hr hb (hx σ) I2 (.cons rfl r) q2
theorem pe_mth0S {pl : Sem Bool} (he : PE X o ta) (c : Cls X.K C) (hm : Meth X.K C m f) (F : FnOk X.prog X.w X.K X.mg X.base CX k f fd ps sp) (hr : Room k X.A) (hb : Binds X.K fd ps []) (hx : ∀ σ, PassesAt CX X σ (E σ))
    (ht : eval (.Call (.Attribute o m apos) [] [] pos) X.env = (do
      let ov ← eval o X.env
      standAt apos.atName
      let (f, first) ← holding [ov] (getMethod ov m pl)
      callWith pos f first (backTo pos (starEach [] X.env)) (backToKw pos (keywordEach [] X.env))) := by rfl) :
    PE X (.Call (.Attribute o m apos) [] [] pos) (tMthS C m sp E ta tNil) := by
  refine ⟨fun pins s σ H Q I h => ?_⟩
  refine PySem.W.methodCall_KW (pl := pl) (thn (he.run pins s σ H _ I h) fun u s1 ⟨x, H1, I1, rx, a, dx, fs, ex, ea, l, q⟩ => ?_) ht
  subst ex
  obtain rfl : u = Value.ref a := rx
  refine getmeth_ok I1 ea c hm l ?_
  exact PySem.W.callWith_K0 (first := [.ref a]) I1.kIn hm.kp (run_fnS (us := [.ref a]) (vs := [.ref a]) F hr hb (hx σ) I1 (.cons rfl .nil) q)
/-! a new instance -/
def tMkS (C : Addr) (sp : Sp) (E : L2.St → XK) (t : TA) : TE := fun σ H Q => t σ H fun vs H1 => ∀ x dx, H1 x = none → H1 dx = none → dx ≠ x →
  sp (.ref x :: vs) (upd (upd H1 dx (.own x)) x (.ins C dx [])) (fun v H2 => v = .non ∧ Q (.ref x) H2) (E σ)
theorem run_mkS {pins : List (Addr × Obj)} {σ : L2.St} {H : Hp} {s : Shared} {Q : VK} {us : List Value} {vs : List V} (M : Mk X.K C f) (F : FnOk X.prog X.w X.K X.mg X.base CX k f fd ps sp) (hr : Room (k + 1) X.A) (hb : Binds X.K fd ps [])
    (hx : PassesAt CX X σ (E σ)) (I : Inv X pins σ H s) (r : Vals vs us)
    (h : ∀ x dx, H x = none → H dx = none → dx ≠ x → sp (.ref x :: vs) (upd (upd H dx (.own x)) x (.ins C dx [])) (fun v H2 => v = .non ∧ Q (.ref x) H2) (E σ)) :
    wpAny (model X.prog X.w) X.A (call (.ref C) us) (EP X pins σ Q) X.xe s := by
  have hq := h (s.heap.objs.size + 1) s.heap.objs.size (I.hok.fresh (Nat.le_succ _)) (I.hok.fresh (Nat.le_refl _)) (Nat.ne_of_lt (Nat.lt_succ_self _))
  have I2 := Inv.made (C := C) I
  have r2 : Vals (V.ref (s.heap.objs.size + 1) :: vs) (Value.ref (s.heap.objs.size + 1) :: us) := .cons rfl r
  have hl : (Value.ref (s.heap.objs.size + 1) :: us).length = ps.length := by
    have e := r2.length
    rw [F.len _ _ _ _ hq] at e
    exact e.symm
  have b := hb _ (Value.ref (s.heap.objs.size + 1) :: us) I2.kIn (by rw [List.append_nil]; exact hl)
  rw [List.append_nil] at b
  refine wpAny_call (make_map (f := f) I.kIn M.makes M.init (beq_iff_eq.mp M.fn) (codeAny_mono (F.run _ X.stack _ _ ⟨Value.ref (s.heap.objs.size + 1) :: us, []⟩ (Value.ref (s.heap.objs.size + 1) :: us) _ _ (E σ) (hr.make C us [])
    (I2.env0.make C us []) b r2 hq) fun r s' hq' => ?_))
  cases r with
  | error e => exact hx pins _ _ e s' I2 hq'
  | ok fl =>
    cases fl with
    | ret u =>
      obtain ⟨v, H', I3, rv, ev, q3⟩ := I2.after hq'
      subst ev
      exact ⟨rv, ⟨V.ref (s.heap.objs.size + 1), H', I3, rfl, q3⟩⟩
    | next => exact False.elim hq'
    | brk => exact False.elim hq'
    | cont => exact False.elim hq'
theorem pe_mkS (M : Mk X.K C f) (F : FnOk X.prog X.w X.K X.mg X.base CX k f fd ps sp) (hr : Room (k + 1) X.A) (hg : Gl X x) (hm : X.mg x = some (.ref C)) (hb : Binds X.K fd ps []) (hx : ∀ σ, PassesAt CX X σ (E σ))
    (ha : PA X (e :: es) t) (hdb : (x == ("__debug__" : Str)) = false := by decide) (he : starEach (e :: es) X.env = (false, eval e X.env) :: starEach es X.env := by rfl) (hpl : (backTo pos (starEach es X.env)).any (·.1) = false := by rfl) :
    PE X (.Call (.Name x p) (e :: es) [] pos) (tMkS C sp E t) := by
  refine ⟨fun pins s σ H Q I h => ?_⟩
  refine wpAny_Call_Name_kw (ld_glob I hg hm ?_ hdb)
  refine PySem.W.callWith_K (h₀ := X.base) I.ok.mod.kin M.kp (thn (ha.run pos pins s σ H _ I h) fun us s1 ⟨vs, H1, I1, r, q⟩ => ⟨I1.kIn, ?_⟩) he hpl
  exact run_mkS M F hr hb (hx σ) I1 r q
theorem pe_mk0S (M : Mk X.K C f) (F : FnOk X.prog X.w X.K X.mg X.base CX k f fd ps sp) (hr : Room (k + 1) X.A) (hg : Gl X x) (hm : X.mg x = some (.ref C)) (hb : Binds X.K fd ps []) (hx : ∀ σ, PassesAt CX X σ (E σ))
    (hdb : (x == ("__debug__" : Str)) = false := by decide) : PE X (.Call (.Name x p) [] [] pos) (tMkS C sp E tNil) := by
  refine ⟨fun pins s σ H Q I h => ?_⟩
  refine wpAny_Call_Name_kw (ld_glob I hg hm ?_ hdb)
  exact PySem.W.callWith_K0 I.kIn M.kp (run_mkS (us := []) M F hr hb (hx σ) I .nil h)
end
/-- a method that is read, its level -/
structure Mtd (P : Program) (w : World) (K : PySem.W.Frag) (mg : Str → Option Value) (base : Heap) (G : Cf) (c m : Str) (k n : Nat) (fm : MF) : Prop where
  ex : ∃ f fd ps, FnOk P w K mg base (L2.CX P w) k f fd ps (FSp G n fm) ∧ Cls K (G.C c) ∧ Meth K (G.C c) m f ∧ Binds K fd ps []
/-- a class that can be made, its __init__ -/
structure Mkd (P : Program) (w : World) (K : PySem.W.Frag) (mg : Str → Option Value) (base : Heap) (G : Cf) (c : Str) (k n : Nat) (fm : MF) : Prop where
  ex : ∃ f fd ps, FnOk P w K mg base (L2.CX P w) k f fd ps (FSp G n fm) ∧ Mk K (G.C c) f ∧ mg c = some (.ref (G.C c)) ∧ Binds K fd ps []
def noLook (m : Str) (fs : List (Str × D)) : Bool := (fs.lookup m).isNone
noncomputable def mMth (c m : Str) (n : Nat) (fm : MF) (mo : ME) (ma : MA) : ME := fun env h => (mo env h).bind fun x h1 => match insAt c h1 x with
  | some fs => if noLook m fs = true then (ma env h1).bind fun ds h2 => callC n fm (x :: ds) h2 else .no
  | none => .no
noncomputable def mNew (c : Str) (n : Nat) (fm : MF) (ma : MA) : ME := fun env h => (ma env h).bind fun ds h1 => (callC n fm (.ref h1.length :: ds) (h1 ++ [.ins c []])).bind fun d h2 => match d with
  | .non => .ok (.ref h1.length) h2
  | _ => .no
theorem Pst.from_old {A : Type} {G : Cf} {et et1 : List Addr} {H H1 : Hp} (p : et <+: et1) (e : Ext H H1) {r : R A} {F : List Addr → Hp → IH → A → Prop} {W : Value → Option Addr → Hp → Prop} (x : Pst G et H r F W) : Pst G et1 H1 r F W := by
  cases r with
  | ok a h => exact fun et' H' p2 e2 hr => x et' H' (p.trans p2) (e.trans e2) hr
  | ex c d h => exact fun et' H' cls dd p2 e2 hr hx => x et' H' cls dd (p.trans p2) (e.trans e2) hr hx
  | no => exact x.elim
section
variable {X : Cx} {G : Cf} {W : WX} {k j n : Nat} {fm : MF} {c m : Str} {p pos apos : Pos} {e o : Expr} {es : List Expr} {mo : ME} {mt : MA}
theorem mth_ok {σ : L2.St} {H : Hp} {Q : VK} {t : TA} (ht : t = tA G W mt) (hx : tE G W (mMth c m n fm mo mt) σ H Q) : tMthS (G.C c) m (FSp G n fm) (WE W) (tE G W mo) t σ H Q := by
  subst ht
  obtain ⟨et, env, h, hE, hH, hP⟩ := hx
  refine ⟨et, env, h, hE, hH, (Pst.of_bind hP).imp fun et1 H1 h1 x p e hr q v hv => ?_⟩
  cases hi : insAt c h1 x with
  | none =>
    rw [hi] at q
    exact q.elim
  | some fs =>
    rw [hi] at q
    dsimp only at q
    split at q
    · rename_i nl
      obtain ⟨i, a, dx, ws, rfl, hn, ha, rfl, h3, h4⟩ := insAt_den hr hv hi
      have hl := h4.look m
      have nl : fs.lookup m = none := by
        unfold noLook at nl
        simpa using nl
      rw [nl] at hl
      refine ⟨a, dx, ws, rfl, h3, hl, et1, env, h1, hE.mono p e, hr, (Pst.of_bind q).imp fun et2 H2 h2 ds p2 e2 hr2 q2 vs hvs => ?_⟩
      refine FSp.of_call (ds := .ref i :: ds) ?_ hr2 q2
      rw [DenL]
      exact ⟨_, _, rfl, hv.mono p2 e2, hvs⟩
    · exact q.elim
theorem me_mth (F : Mtd X.prog X.w X.K X.mg X.base G c m k n fm) (hr : Room j X.A) (hj : k ≤ j) (tk : Takes X W) (ho : PE X o (tE G W mo)) (ha : PA X (e :: es) (tA G W mt)) {pl : Sem Bool}
    (hst : starEach (e :: es) X.env = (false, eval e X.env) :: starEach es X.env := by rfl) (hpl : (backTo pos (starEach es X.env)).any (·.1) = false := by rfl)
    (ht : eval (.Call (.Attribute o m apos) (e :: es) [] pos) X.env = (do
      let ov ← eval o X.env
      standAt apos.atName
      let (f, first) ← holding [ov] (getMethod ov m pl)
      callWith pos f first (backTo pos (starEach (e :: es) X.env)) (backToKw pos (keywordEach [] X.env))) := by rfl) : PE X (.Call (.Attribute o m apos) (e :: es) [] pos) (tE G W (mMth c m n fm mo mt)) := by
  obtain ⟨f, fd, ps, h1, h2, h3, h4⟩ := F.ex
  exact PE.imp (pe_mthS (pl := pl) ho h2 h3 h1 (hr.mono hj) h4 (passAt tk) ha hst hpl ht) fun σ H Q x => mth_ok rfl x
theorem me_mth0 (F : Mtd X.prog X.w X.K X.mg X.base G c m k n fm) (hr : Room j X.A) (hj : k ≤ j) (tk : Takes X W) (ho : PE X o (tE G W mo)) {pl : Sem Bool}
    (ht : eval (.Call (.Attribute o m apos) [] [] pos) X.env = (do
      let ov ← eval o X.env
      standAt apos.atName
      let (f, first) ← holding [ov] (getMethod ov m pl)
      callWith pos f first (backTo pos (starEach [] X.env)) (backToKw pos (keywordEach [] X.env))) := by rfl) : PE X (.Call (.Attribute o m apos) [] [] pos) (tE G W (mMth c m n fm mo mNil)) := by
  obtain ⟨f, fd, ps, h1, h2, h3, h4⟩ := F.ex
  refine PE.imp (pe_mth0S (pl := pl) ho h2 h3 h1 (hr.mono hj) h4 (passAt tk) ht) fun σ H Q x => ?_
  have := mth_ok (t := tA G W mNil) rfl x
  unfold tMthS at this ⊢
  obtain ⟨et, env, h, hE, hH, hP⟩ := this
  refine ⟨et, env, h, hE, hH, hP.imp fun et1 H1 h1 x p e hr q v hv => ?_⟩
  obtain ⟨a, dx, fs, e1, e2, e3, et2, env2, h2, hE2, hH2, hP2⟩ := q v hv
  exact ⟨a, dx, fs, e1, e2, e3, hP2 et2 H1 List.prefix_rfl (Ext.refl _) hH2 [] (by rw [DenL])⟩
theorem mk_ok {σ : L2.St} {H : Hp} {Q : VK} (hx : tE G W (mNew c n fm mt) σ H Q) : tMkS (G.C c) (FSp G n fm) (WE W) (tA G W mt) σ H Q := by
  obtain ⟨et, env, h, hE, hH, hP⟩ := hx
  refine ⟨et, env, h, hE, hH, (Pst.of_bind hP).imp fun et1 H1 h1 ds p e hr q vs hvs => ?_⟩
  intro x dx hx hdx ne
  have ex1 : Ext H1 (upd H1 dx (.own x)) := Ext.new hdx
  have r1 : HRel G et1 h1 (upd H1 dx (.own x)) := hr.new hdx
  have hx1 : (upd H1 dx (.own x)) x = none := by rw [upd_ne (Ne.symm ne)]; exact hx
  have ex2 : Ext (upd H1 dx (.own x)) (upd (upd H1 dx (.own x)) x (.ins (G.C c) dx [])) := Ext.new hx1
  have r2 : HRel G (et1 ++ [x]) (h1 ++ [.ins c []]) (upd (upd H1 dx (.own x)) x (.ins (G.C c) dx [])) := r1.push hx1 ⟨dx, [], upd_same, rfl, by
    show DenL G _ _ [] []
    rw [DenL]⟩
  have pf : et1 <+: et1 ++ [x] := List.prefix_append _ _
  have hvs2 := (hvs.mono (List.prefix_rfl (l := et1)) ex1).mono pf ex2
  refine FSp.of_call (ds := .ref h1.length :: ds) (et := et1 ++ [x]) ?_ r2 ?_
  · rw [DenL]
    refine ⟨_, _, rfl, ?_, hvs2⟩
    rw [Den]
    refine ⟨x, ?_, rfl⟩
    rw [← hr.len, List.getElem?_append_right (Nat.le_refl _), Nat.sub_self]
    rfl
  · have q : Pst G et1 H1 ((callC n fm (.ref h1.length :: ds) (h1 ++ [.ins c []])).bind fun d h2 => match d with | .non => R.ok (D.ref h1.length) h2 | _ => .no) _ _ := q
    have q2 := Pst.from_old pf (ex1.trans ex2) (Pst.of_bind q)
    refine q2.imp fun et2 H2 h2 d p2 e2 hr2 q3 v hv => ?_
    cases d with
    | non =>
      have : v = .non := by
        rw [Den] at hv
        exact hv
      refine ⟨this, ?_⟩
      refine q3 et2 H2 List.prefix_rfl (Ext.refl _) hr2 _ ?_
      rw [Den]
      refine ⟨x, ?_, rfl⟩
      obtain ⟨t, rfl⟩ := p2
      rw [← hr.len, List.append_assoc, List.getElem?_append_right (Nat.le_refl _), Nat.sub_self]
      rfl
    | _ => exact q3.elim
theorem me_mk (F : Mkd X.prog X.w X.K X.mg X.base G c k n fm) (hr : Room j X.A) (hj : k + 1 ≤ j) (tk : Takes X W) (ha : PA X (e :: es) (tA G W mt)) (hg : Gl X c := by rfl) (hdb : (c == ("__debug__" : Str)) = false := by decide)
    (he : starEach (e :: es) X.env = (false, eval e X.env) :: starEach es X.env := by rfl) (hpl : (backTo pos (starEach es X.env)).any (·.1) = false := by rfl) : PE X (.Call (.Name c p) (e :: es) [] pos) (tE G W (mNew c n fm mt)) := by
  obtain ⟨f, fd, ps, h1, h2, h3, h4⟩ := F.ex
  exact PE.imp (pe_mkS h2 h1 (hr.mono hj) hg h3 h4 (passAt tk) ha hdb he hpl) fun σ H Q x => mk_ok x
theorem me_mk0 (F : Mkd X.prog X.w X.K X.mg X.base G c k n fm) (hr : Room j X.A) (hj : k + 1 ≤ j) (tk : Takes X W) (hg : Gl X c := by rfl) (hdb : (c == ("__debug__" : Str)) = false := by decide) : PE X (.Call (.Name c p) [] [] pos) (tE G W (mNew c n fm mNil)) := by
  obtain ⟨f, fd, ps, h1, h2, h3, h4⟩ := F.ex
  refine PE.imp (pe_mk0S h2 h1 (hr.mono hj) hg h3 h4 (passAt tk) hdb) fun σ H Q x => ?_
  obtain ⟨et, env, h, hE, hH, hP⟩ := mk_ok (mt := mNil) x
  exact hP et H List.prefix_rfl (Ext.refl _) hH [] (by rw [DenL])
end
/-- what the written part tells of a method, of an __init__ -/
structure MthAt (K : PySem.W.Frag) (C : Addr) (q m : Str) (st : Stmt) (ps : List Str) : Prop where
  ex : ∃ f fd, Fun K m q st f fd ∧ Cls K C ∧ Meth K C m f ∧ Binds K fd ps []
structure InitAt (K : PySem.W.Frag) (mg : Str → Option Value) (C : Addr) (c q : Str) (st : Stmt) (ps : List Str) : Prop where
  ex : ∃ f fd, Fun K "__init__" q st f fd ∧ Mk K C f ∧ mg c = some (.ref C) ∧ Binds K fd ps []
theorem MthAt.mtd {P : Program} {w : World} {K : PySem.W.Frag} {mg : Str → Option Value} {base : Heap} {G : Cf} {c q m : Str} {st : Stmt} {ps : List Str} {k n : Nat} {fm : MF} (d : MthAt K (G.C c) q m st ps) (h : ∀ f fd, Fun K m q st f fd → FnOk P w K mg base (L2.CX P w) k f fd ps (FSp G n fm)) : Mtd P w K mg base G c m k n fm := by
  obtain ⟨f, fd, h1, h2, h3, h4⟩ := d.ex
  exact ⟨f, fd, ps, h f fd h1, h2, h3, h4⟩
theorem InitAt.mkd {P : Program} {w : World} {K : PySem.W.Frag} {mg : Str → Option Value} {base : Heap} {G : Cf} {c q : Str} {st : Stmt} {ps : List Str} {k n : Nat} {fm : MF} (d : InitAt K mg (G.C c) c q st ps) (h : ∀ f fd, Fun K "__init__" q st f fd → FnOk P w K mg base (L2.CX P w) k f fd ps (FSp G n fm)) : Mkd P w K mg base G c k n fm := by
  obtain ⟨f, fd, h1, h2, h3, h4⟩ := d.ex
  exact ⟨f, fd, ps, h f fd h1, h2, h3, h4⟩
/-! ### op= on a field, several fields at once -/
def msAugF (c f : Str) (g : D → D → IH → R D) (mo me : ME) : MS := fun env h => (mo env h).bindS env fun x h1 => match (insAt c h1 x).bind (List.lookup f) with
  | some v => (me env h1).bindS env fun y h2 => (g v y h2).bindS env fun z h3 => match putAtF c f z h3 x with
    | some h4 => .nx env h4
    | none => .no
  | none => .no
section
variable {X : Cx} {G : Cf} {W : WX} {o e value : Expr} {c f : Str} {pos pos' tpos : Pos} {mo me : ME} {r : R2} {g : D → D → IH → R D}
/-- a field is written -/
theorem putAtF_ok {et : List Addr} {H : Hp} {h h' : IH} {x d : D} {u v : V} (hr : HRel G et h H) (hu : Den G et H x u) (hv : Den G et H d v) (q : putAtF c f d h x = some h') : ∃ a dx ws, u = .ref a ∧ H a = some (.ins (G.C c) dx ws) ∧ ws.length < 1000 ∧
    Ext H (upd H a (.ins (G.C c) dx (putF f v ws))) ∧ HRel G et h' (upd H a (.ins (G.C c) dx (putF f v ws))) := by
  unfold putAtF at q
  cases x with
  | ref n =>
    dsimp only at q
    cases hi : insAt c h (.ref n) with
    | none => rw [hi] at q; cases q
    | some fs =>
      rw [hi] at q
      dsimp only at q
      split at q
      · rename_i hl
        cases q
        obtain ⟨n', a, dx, ws, en, hn, ha, rfl, h3, h4⟩ := insAt_den hr hu hi
        cases en
        have ex : Ext H (upd H a (.ins (G.C c) dx (putF f v ws))) := Ext.mut h3 True.intro
        exact ⟨a, dx, ws, rfl, h3, (by rw [h4.len]; omega), ex, hr.set hn ha rfl h3 True.intro ⟨dx, _, upd_same, ((DenK.put hv f h4).mono List.prefix_rfl ex)⟩⟩
      · cases q
  | _ => cases q
theorem ms_augF {op : Operator} (hK : X.K = G.K) (k : Cls X.K (G.C c)) (na : NoAttr X.K (G.C c) f) (hop : OpR X (inplaceOp op) r) (hs : OpS G r g) (ho : PE X o (tE G W mo)) (hv : PE X value (tE G W me)) : PS X (.AugAssign (.Attribute o f tpos) op value pos) (tS G W (msAugF c f g mo me)) := PS.imp (ps_fldaug ho hv hop) fun D σ H ⟨et, env, h, hE, hH, hP⟩ => by
  refine ⟨et, env, h, hE, hH, (PstS.of_bind hE hP).imp fun et1 H1 h1 x p e hr q v hv => ?_⟩
  cases hi : insAt c h1 x with
  | none => rw [hi] at q; exact q.elim
  | some fs =>
    rw [hi] at q
    obtain ⟨n, a, dx, ws, rfl, hn, ha, rfl, h3, h4⟩ := insAt_den hr hv hi
    have hl := h4.look f
    cases hf : fs.lookup f with
    | none =>
      have q : PstS G et1 H1 (match fs.lookup f with | some v => _ | none => RS.no) _ _ := q
      rw [hf] at q
      exact q.elim
    | some d =>
      have q : PstS G et1 H1 (match fs.lookup f with | some v => _ | none => RS.no) _ _ := q
      rw [hf] at q hl
      obtain ⟨w, e1, e2⟩ := hl
      refine ⟨a, _, dx, ws, w, rfl, h3, k, na, e1, et1, env, h1, hE.mono p e, hr, (PstS.of_bind (hE.mono p e) q).imp fun et2 H2 h2 y p2 e2' hr2 q2 u hu => ?_⟩
      refine hs et2 H2 h2 d y w u _ _ (e2.mono p2 e2') hu hr2 ((PstS.of_bind ((hE.mono p e).mono p2 e2') q2).imp fun et3 H3 h3' z p3 e3 hr3 q3 t ht => ?_)
      cases hp : putAtF c f z h3' (.ref n) with
      | none => rw [hp] at q3; exact q3.elim
      | some h5 =>
        rw [hp] at q3
        obtain ⟨a', dx', ws', ea, h6, hl', ex, hr5⟩ := putAtF_ok hr3 ((hv.mono p2 e2').mono p3 e3) ht hp
        cases ea
        exact ⟨dx', ws', h6, hl', q3 et3 _ σ List.prefix_rfl ex hr5 ((((hE.mono p e).mono p2 e2').mono p3 e3).mono List.prefix_rfl ex)⟩
end
/-- fields of the instance in a slot -/
def setFs (c : Str) (i : Nat) : List Str → List D → EV → IH → RS
  | [], [], env, h => .nx env h
  | f :: fs, d :: ds, env, h => match env[i]? with
    | some (some x) => match putAtF c f d h x with
      | some h1 => setFs c i fs ds env h1
      | none => .no
    | _ => .no
  | _, _, _, _ => .no
def msSetTF (c : Str) (fs : List Str) (i : Nat) (me : ME) : MS := fun env h => (me env h).bindS env fun d h1 => match d with
  | .tup ds => if ds.length = fs.length then setFs c i fs ds env h1 else .no
  | _ => .no
def gFld (K : PySem.W.Frag) (to : TE) (f : Str) : TG := fun v σ H Q => to σ H fun x H1 => ∃ a C dx ws, x = .ref a ∧ H1 a = some (.ins C dx ws) ∧ Cls K C ∧ NoAttr K C f ∧ ws.length < 1000 ∧ Q σ (upd H1 a (.ins C dx (putF f v ws)))
section
variable {X : Cx} {G : Cf} {W : WX} {o e value : Expr} {c f : Str} {pos pos' tpos : Pos} {mo me : ME} {to : TE}
theorem pg_fld (ho : PE X o to)
    (ha : ∀ v, assign (.Attribute o f pos) X.env v = (do
      let ov ← holding [v] (eval o X.env)
      standAt pos.atName
      holding [v, ov] (setAttr ov f v)
      release [v, ov] []) := by intro _; rfl) : PG X (.Attribute o f pos) (gFld X.K to f) := by
  refine ⟨fun pins s σ H v u Q I r h => ?_⟩
  rw [ha]
  refine wpAny_bind (wpAny_holding (thn (ho.run pins s σ H _ I h) fun ov s1 ⟨x, H1, I1, r1, a, C, dx, ws, ex, ea, k, n, l, q1⟩ => ?_))
  subst ex
  obtain rfl : ov = Value.ref a := r1
  refine wpAny_bind (wpAny_standAt (wpAny_bind (wpAny_holding (setattr_ok I1 ea k n l r fun s3 I3 => ?_))))
  exact wpAny_release ⟨σ, _, I3, q1⟩
inductive PGF (X : Cx) (G : Cf) (c : Str) (i : Nat) (W : WX) : List Str → List Expr → TGs → Prop
  | nil : PGF X G c i W [] [] gNil
  | cons {f : Str} {fs : List Str} {e : Expr} {es : List Expr} {t : TGs} : NoAttr X.K (G.C c) f → PG X e (gFld X.K (tE G W (mVar i)) f) → PGF X G c i W fs es t → (assignEach (e :: es) X.env).map (·.2) = assign e X.env :: (assignEach es X.env).map (·.2) → PGF X G c i W (f :: fs) (e :: es) (gCons (gFld X.K (tE G W (mVar i)) f) t)
theorem PGF.pgs {i : Nat} {fs : List Str} {es : List Expr} {t : TGs} (h : PGF X G c i W fs es t) : PGs X es t := by
  induction h with
  | nil => exact pgs_nil
  | cons h1 h2 h3 h4 ih => exact pgs_cons h2 ih h4
theorem PGF.run {i : Nat} {fs : List Str} {es : List Expr} {t : TGs} (hK : X.K = G.K) (k : Cls X.K (G.C c)) (h : PGF X G c i W fs es t) {et : List Addr} {H : Hp} {env : EV} {hh : IH} {σ : L2.St} {ds : List D} {vs : List V} {D' : Ends} (hE : EnvR G et H env σ) (hR : HRel G et hh H) (hD : DenL G et H ds vs)
    (q : PstS G et H (setFs c i fs ds env hh) D' W) : t vs σ H D'.nx := by
  induction h generalizing et H hh ds vs with
  | nil =>
    cases ds with
    | nil => rw [denL_nil] at hD; exact ⟨hD, q et H σ List.prefix_rfl (Ext.refl H) hR hE⟩
    | cons _ _ => exact q.elim
  | cons h1 h2 h3 h4 ih =>
    cases ds with
    | nil => exact q.elim
    | cons d ds =>
      obtain ⟨v, ws, rfl, r1, r2⟩ := denL_cons.mp hD
      refine ⟨v, ws, rfl, et, env, hh, hE, hR, ?_⟩
      unfold setFs at q
      unfold mVar
      split at q
      · rename_i x hx
        try rw [hx]
        intro et1 H1 p1 e1 hR1 u hu
        split at q
        · rename_i g hp
          obtain ⟨a, dx, ws', rfl, h6, hl', ex, hr5⟩ := putAtF_ok hR1 hu (r1.mono p1 e1) hp
          exact ⟨a, _, dx, ws', rfl, h6, k, h1, hl', ih ((hE.mono p1 e1).mono List.prefix_rfl ex) hr5 ((r2.mono p1 e1).mono List.prefix_rfl ex) (PstS.weak p1 (e1.trans ex) q)⟩
        · exact q.elim
      · exact q.elim
theorem ms_setTF {i n kk : Nat} {fs : List Str} {es : List Expr} {t : TGs} (hK : X.K = G.K) (hc : X.calm = true) (k : Cls X.K (G.C c)) (h : PGF X G c i W fs es t) (hv : PE X value (tE G W me)) (hln : fs.length = n := by rfl) (hn : (assignEach es X.env).length = n := by rfl) (hst : (assignEach es X.env).findIdx? (·.1) = none := by rfl)
    (hs : swapsWithSole [.Tuple es kk pos'] value pos.line X.env = pure false := by rfl) (hw : swappedStores [.Tuple es kk pos'] value X.env = pure none := by rfl) (h1 : (assignEach [.Tuple es kk pos'] X.env).map (·.2) = [assign (.Tuple es kk pos') X.env] := by rfl) :
    PS X (.Assign [.Tuple es kk pos'] value pos) (tS G W (msSetTF c fs i me)) := PS.imp (ps_asg hv (pg_tup hc h.pgs hn hst) hs hw h1) fun D σ H ⟨et, env, h0, hE, hH, hP⟩ => by
  refine ⟨et, env, h0, hE, hH, (PstS.of_bind hE hP).imp fun et1 H1 h1 d p e hr q v hv => ?_⟩
  cases d with
  | tup ds =>
    obtain ⟨a, vs, rfl, r1, r2⟩ := den_tup.mp hv
    have q : PstS G et1 H1 (if ds.length = fs.length then setFs c i fs ds env h1 else .no) D W := q
    split at q
    · rename_i l
      exact ⟨a, vs, rfl, r1.sq, by rw [r2.len, l, hln], h.run hK k (hE.mono p e) hr r2 q⟩
    · exact q.elim
  | _ => exact q.elim
end
/-- list.clear -/
theorem fClear_ok {G : Cf} : MethS G rClear fClear := by
  intro et H h x v xs vs W Q rx rv R p
  unfold fClear at p
  split at p
  · split at p
    · rename_i n _ ys hx
      obtain ⟨a, us, h2, rfl, h3, h4⟩ := den_list R hx rx
      refine ⟨a, us, rfl, by simpa using rv, h3, ?_⟩
      have ex : Ext H (upd H a (.lst [])) := Ext.mut h3 True.intro
      exact p et _ List.prefix_rfl ex (R.set hx h2 rfl h3 True.intro ⟨_, upd_same, by rw [DenL]⟩) _ (by simp)
    · exact p.elim
  · exact p.elim
end NR

set_option Elab.async false
set_option linter.all false
set_option maxRecDepth 100000
set_option maxHeartbeats 1000000
namespace NR
open PySem PySem.Spec PyProof.Rows L2
/-! ### the law's looks at a least table (k29) -/
section
variable {T U : Tb} {h : IH}
/-! in order -/
def lioH (h : IH) (rs : List Nat) : IH := h ++ [.lst (rs.map nD)]
theorem lioH_0 {rs : List Nat} : (lioH h rs)[h.length]? = some (.lst (rs.map nD)) := get_app0
theorem lio_turn {g : D} {rs : List Nat} {s : Nat} {k x : Option D} (rl : rs.length ≤ 1000) : b__law_in_order_1 [some g, some (.ref h.length), k, some (nD s)] (lioH h rs) = .nx [some g, some (.ref h.length), k, some (nD s)] (lioH h (if s ∈ rs then rs else rs ++ [s])) := by
  have di := dIn_nats (neg := true) (a := s) (y := .ref h.length) (h := lioH h rs) (ns := rs) (seqOf_ref lioH_0)
  have ty := tyD_ref (lioH_0 (h := h) (rs := rs))
  have ap : fAppend (.ref h.length) [.int (s : Nat)] (lioH h rs) = .ok .non (lioH h (rs ++ [s])) := by
    rw [append_at lioH_0 (by rw [List.length_map]; omega)]
    unfold lioH
    rw [set_app0, List.map_append]
    rfl
  unfold b__law_in_order_1
  by_cases q : s ∈ rs
  · rw [if_pos q]
    generalize lioH h rs = H1 at *
    simp [nD, di, q]
  · rw [if_neg q]
    generalize lioH h (rs ++ [s]) = H2 at *
    generalize lioH h rs = H1 at *
    simp [nD, di, q, ty, ap]
theorem lio_row {g : D} {k : Option D} : ∀ (row rs : List Nat) (x : Option D), rs.length + row.length ≤ 1000 → ∃ x', forL (gSet 3) b__law_in_order_1 (row.map nD) [some g, some (.ref h.length), k, x] (lioH h rs) = .nx [some g, some (.ref h.length), k, x'] (lioH h (addNi rs row))
  | [], rs, x, _ => ⟨x, rfl⟩
  | s :: row, rs, x, l => by
    rw [List.length_cons] at l
    obtain ⟨x', e⟩ := lio_row (g := g) (k := k) row (if s ∈ rs then rs else rs ++ [s]) (some (nD s)) (by
      split
      · omega
      · rw [List.length_append, List.length_singleton]; omega)
    refine ⟨x', ?_⟩
    rw [List.map_cons, forL_cons (e1 := [some g, some (.ref h.length), k, some (nD s)]) rfl, lio_turn (x := x) (by omega), on_nx, e, addNi_cons]
theorem lin_order_call (ok : U.Ok) (od : U.order = List.range U.goes.length) (h : IH) : callC 1 m__law_in_order [.tup (U.goes.map gT)] h = .ok (.bl true) h := by
  have n32 : U.n ≤ 32 := ok.g2
  obtain ⟨m, _, _, e, ⟨k, x, rfl, rfl, hk, rfl⟩, e2⟩ := while_nx (c := t__law_in_order_2) (s := b__law_in_order_3) (fun m env h' => ∃ (k : Nat) (x : Option D), env = [some (.tup (U.goes.map gT)), some (.ref h.length), some (.int (k : Nat)), x] ∧ h' = lioH h (U.ord k) ∧ k ≤ U.n ∧ m = U.n - k) U.n _ (lioH h (U.ord 0)) ⟨0, none, rfl, rfl, by omega, by omega⟩ (by
    rintro m _ _ ⟨k, x, rfl, rfl, hk, rfl⟩
    have ol := ok.ord_len k
    have bl : bLen [.ref h.length] (lioH h (U.ord k)) = .ok (.int ((U.ord k).length : Nat)) (lioH h (U.ord k)) := by
      rw [bLen_ref lioH_0, List.length_map]
    by_cases q : k < (U.ord k).length
    · refine .inl ?_
      have hr : (U.ord k)[k]? = some (U.ord k)[k] := List.getElem?_eq_getElem q
      generalize (U.ord k)[k] = r at hr
      have hrn := ok.ord_lt (List.mem_of_getElem? hr)
      obtain ⟨row, e1, e3, e4⟩ := ok.rowAt hrn
      have rl : row.length ≤ 6 := by rw [e3]; exact ok.tg.l2
      have i1 : dIx (.ref h.length) (.int (k : Nat)) (lioH h (U.ord k)) = .ok (nD r) (lioH h (U.ord k)) := dIx_nat (seqOf_ref lioH_0) (by simp [hr])
      have i2 := ix_row (h := lioH h (U.ord k)) e1
      obtain ⟨x', e5⟩ := lio_row (h := h) (g := .tup (U.goes.map gT)) (k := some (.int (k : Nat))) row (U.ord k) x (by omega)
      refine ⟨[some (.tup (U.goes.map gT)), some (.ref h.length), some (.int ((k : Nat) + 1)), x'], lioH h (U.ord (k + 1)), ?_, ?_, U.n - (k + 1), by omega, k + 1, x', rfl, rfl, by omega, rfl⟩
      · unfold t__law_in_order_2
        simp [bl, q]
      · have er : U.ord (k + 1) = addNi (U.ord k) row := by
          rw [Tb.ord, hr]
          simp [List.getD_eq_getElem?_getD, e1]
        have it : iSeq (mOp dIx (mVar 0) (mOp dIx (mVar 1) (mVar 2))) [some (.tup (U.goes.map gT)), some (.ref h.length), some (.int (k : Nat)), x] (lioH h (U.ord k)) = .ok (.st (row.map nD)) (lioH h (U.ord k)) := by
          simp [i1, nD, i2, gT]
        unfold b__law_in_order_3
        rw [ap_msCons, ap_msFor, it, bindS_ok, forM_forL, e5, er]
        simp
    · refine .inr ?_
      unfold t__law_in_order_2
      simp [bl, q])
  have bl : bLen [.ref h.length] (lioH h (U.ord k)) = .ok (.int ((U.ord k).length : Nat)) (lioH h (U.ord k)) := by
    rw [bLen_ref lioH_0, List.length_map]
  have q : (U.ord k).length ≤ k := by
    unfold t__law_in_order_2 at e2
    simp [bl] at e2
    omega
  have oe : U.ord k = List.range U.goes.length := by rw [← order_of q hk]; exact od
  rw [oe] at e
  refine callC_pure rfl (g := [.lst ((List.range U.goes.length).map nD)]) ?_ rfl
  have bg : ∀ h : IH, bLen [.tup (U.goes.map gT)] h = .ok (.int (U.goes.length : Nat)) h := fun h => by rw [bLen_tup, List.length_map]
  have g2 := ok.g2
  have rg : (List.range U.goes.length).map nD = intsFrom 0 U.goes.length := by
    unfold intsFrom
    refine List.map_congr_left fun i _ => ?_
    show D.int (i : Nat) = D.int (0 + (i : Nat))
    congr 1
    omega
  have dq : dEq false (.ref h.length) (.fl (intsFrom 0 U.goes.length)) (lioH h (List.range U.goes.length)) = .ok (.bl true) (lioH h (List.range U.goes.length)) := by
    rw [dEq_ref lioH_0, rg, dEq_self (by
      rw [show (50 : Nat) = 49 + 1 from rfl, pl_fl]
      refine pl_all fun d hd => ?_
      obtain ⟨i, _, rfl⟩ := List.mem_map.mp hd
      rfl)]
    rfl
  have fz : fzD (lioH h (List.range U.goes.length)) (lioH h (List.range U.goes.length)) (intsFrom 0 U.goes.length) = .ok (.fl (intsFrom 0 U.goes.length)) (lioH h (List.range U.goes.length)) := fzD_same (loL_of fun d hd => by
    obtain ⟨i, _, rfl⟩ := List.mem_map.mp hd
    rfl)
  have bg' := bg (lioH h (List.range U.goes.length))
  have fzl : ∀ x y : Option D, mFz (mLstR (mC (.int 0)) (mB bLen (mCons (mVar 0) (mNil)))) [some (.tup (U.goes.map gT)), some (.ref h.length), x, y] (lioH h (List.range U.goes.length)) = .ok (.fl (intsFrom 0 U.goes.length)) (lioH h (List.range U.goes.length)) := fun x y => by
    rw [ap_mFz0, ap_mLstR, show (mC (.int 0)) [some (.tup (U.goes.map gT)), some (.ref h.length), x, y] (lioH h (List.range U.goes.length)) = .ok (.int 0) (lioH h (List.range U.goes.length)) from rfl, bind_ok, show (mB bLen (mCons (mVar 0) (mNil))) [some (.tup (U.goes.map gT)), some (.ref h.length), x, y] (lioH h (List.range U.goes.length)) = bLen [.tup (U.goes.map gT)] (lioH h (List.range U.goes.length)) from rfl, bg', bind_ok]
    dsimp only
    rw [if_pos (by omega), show (((U.goes.length : Nat) : Int) - 0).toNat = U.goes.length by omega]
    exact fz
  unfold m__law_in_order
  rw [ap_fnM]
  simp only [List.map_cons, List.map_nil, List.length_cons, List.length_nil, List.cons_append, List.nil_append, Nat.reduceAdd, Nat.reduceSub, List.replicate]
  refine stN (env2 := [some (.tup (U.goes.map gT)), some (.ref h.length), none, none]) (h2 := lioH h (U.ord 0)) (by
    show _ = RS.nx _ (h ++ [.lst [.int 0]])
    generalize U.goes.map gT = GG at *
    simp [newL]) ?_
  refine stN (env2 := [some (.tup (U.goes.map gT)), some (.ref h.length), some (.int 0), none]) (h2 := lioH h (U.ord 0)) (by simp) ?_
  refine stN e ?_
  have fzl := fzl (some (.int (k : Nat))) x
  show _ = R.ok (D.bl true) (lioH h (List.range U.goes.length))
  clear e e2 bl
  generalize mFz (mLstR (mC (.int 0)) (mB bLen (mCons (mVar 0) (mNil)))) = CC at *
  generalize lioH h (List.range U.goes.length) = H2 at *
  generalize intsFrom 0 U.goes.length = II at *
  generalize U.goes.map gT = GG at *
  simp [fzl, dq]
/-! the same kinds, pair by pair -/
def kPL (p : Nat × Nat) : List DKey := [.inl (p.1 : Nat), .inl (p.2 : Nat)]
def tPL (p : Nat × Nat) : D := .tup [.int (p.1 : Nat), .int (p.2 : Nat)]
theorem kPL_inj {p q : Nat × Nat} (h : kPL p = kPL q) : p = q := by
  unfold kPL at h
  simp at h
  exact Prod.ext (by have := h.1; omega) (by have := h.2; omega)
variable {f : Nat → Nat}
def skD (f : Nat → Nat) (rs : List Nat) : List (List DKey × D) := rs.map fun r => (kPL (r, f r), D.bl true)
def skH (h : IH) (f : Nat → Nat) (rs : List Nat) : IH := h ++ [.lst (rs.map fun r => tPL (r, f r)), .dt (skD f rs)]
theorem skH_0 {rs : List Nat} : (skH h f rs)[h.length]? = some (.lst (rs.map fun r => tPL (r, f r))) := get_app0
theorem skH_1 {rs : List Nat} : (skH h f rs)[h.length + 1]? = some (.dt (skD f rs)) := get_app
theorem skD_val {t : Nat} : ∀ {rs : List Nat}, valKD (skD f rs) (kPL (t, f t)) = if t ∈ rs then some (.bl true) else none
  | [] => rfl
  | r :: rs => by
    have ih := skD_val (t := t) (rs := rs)
    unfold valKD at ih ⊢
    rw [show skD f (r :: rs) = (kPL (r, f r), D.bl true) :: skD f rs from rfl, List.find?_cons]
    by_cases q : r = t
    · subst q
      simp
    · have : ¬ kPL (r, f r) = kPL (t, f t) := fun z => q (by have := kPL_inj z; injection this)
      simp only [this, decide_false]
      rw [ih]
      by_cases q2 : t ∈ rs
      · rw [if_pos q2, if_pos (List.mem_cons_of_mem _ q2)]
      · rw [if_neg q2, if_neg (fun z => by
          rcases List.mem_cons.mp z with z | z
          · exact q z.symm
          · exact q2 z)]
theorem skD_put {t : Nat} {rs : List Nat} (q : t ∉ rs) : putKD (skD f rs) (kPL (t, f t)) (.bl true) = skD f (rs ++ [t]) := by
  have h : ((skD f rs).any fun p => decide (p.1 = kPL (t, f t))) = false := by
    rw [List.any_eq_false]
    intro p hp
    simp only [decide_eq_true_eq]
    obtain ⟨r, hr, rfl⟩ := List.mem_map.mp hp
    intro z
    have := kPL_inj z
    injection this with z1
    exact q (z1 ▸ hr)
  unfold putKD
  rw [h, if_neg Bool.false_ne_true]
  unfold skD
  rw [List.map_append]
  rfl
theorem sk_turn {a b : D} {rs : List Nat} {s : Nat} {x4 x5 x6 x : Option D} (rl : rs.length ≤ 1000) : b__law_same_kinds_1 [some a, some b, some (.ref h.length), some (.ref (h.length + 1)), x4, x5, x6, some (tPL (s, f s))] (skH h f rs) = .nx [some a, some b, some (.ref h.length), some (.ref (h.length + 1)), x4, x5, x6, some (tPL (s, f s))] (skH h f (if s ∈ rs then rs else rs ++ [s])) := by
  have kt : keyT? (tPL (s, f s)) = some (kPL (s, f s)) := rfl
  have di : dDIn true (tPL (s, f s)) (.ref (h.length + 1)) (skH h f rs) = .ok (.bl (!decide (s ∈ rs))) (skH h f rs) := by
    unfold dDIn
    rw [kyT.get skH_1 kt, skD_val]
    by_cases q : s ∈ rs
    · rw [if_pos q, decide_eq_true q]; rfl
    · rw [if_neg q, decide_eq_false q]; rfl
  unfold b__law_same_kinds_1
  by_cases q : s ∈ rs
  · rw [if_pos q]
    rw [decide_eq_true q] at di
    generalize skH h f rs = H1 at *
    simp [di]
  · rw [if_neg q]
    rw [decide_eq_false q] at di
    have pd : putDD (.ref (h.length + 1)) (tPL (s, f s)) (.bl true) (skH h f rs) = some (h ++ [.lst (rs.map fun r => tPL (r, f r)), .dt (skD f (rs ++ [s]))]) := by
      rw [kyT.put skH_1 kt (by unfold skD; rw [List.length_map]; omega), skD_put q]
      unfold skH
      rw [set_app]
      rfl
    have c0 : (h ++ [Cell.lst (rs.map fun r => tPL (r, f r)), .dt (skD f (rs ++ [s]))])[h.length]? = some (.lst (rs.map fun r => tPL (r, f r))) := get_app0
    have ty := tyD_ref c0
    have ap : fAppend (.ref h.length) [tPL (s, f s)] (h ++ [.lst (rs.map fun r => tPL (r, f r)), .dt (skD f (rs ++ [s]))]) = .ok .non (skH h f (rs ++ [s])) := by
      rw [append_at c0 (by rw [List.length_map]; omega), set_app0]
      unfold skH
      rw [List.map_append]
      rfl
    clear c0 kt
    generalize skH h f (rs ++ [s]) = H2 at *
    generalize h ++ [Cell.lst (rs.map fun r => tPL (r, f r)), .dt (skD f (rs ++ [s]))] = H3 at *
    generalize skH h f rs = H1 at *
    simp [di, pd, ty, ap]
theorem sk_row {a b : D} {x4 x5 x6 : Option D} : ∀ (row rs : List Nat) (x : Option D), rs.length + row.length ≤ 1000 → ∃ x', forL (gSet 7) b__law_same_kinds_1 (row.map fun t => tPL (t, f t)) [some a, some b, some (.ref h.length), some (.ref (h.length + 1)), x4, x5, x6, x] (skH h f rs) = .nx [some a, some b, some (.ref h.length), some (.ref (h.length + 1)), x4, x5, x6, x'] (skH h f (addNi rs row))
  | [], rs, x, _ => ⟨x, rfl⟩
  | s :: row, rs, x, l => by
    rw [List.length_cons] at l
    obtain ⟨x', e⟩ := sk_row (a := a) (b := b) (x4 := x4) (x5 := x5) (x6 := x6) row (if s ∈ rs then rs else rs ++ [s]) (some (tPL (s, f s))) (by
      split
      · omega
      · rw [List.length_append, List.length_singleton]; omega)
    refine ⟨x', ?_⟩
    rw [List.map_cons, forL_cons (e1 := [some a, some b, some (.ref h.length), some (.ref (h.length + 1)), x4, x5, x6, some (tPL (s, f s))]) rfl, sk_turn (x := x) (by omega), on_nx, e, addNi_cons]
theorem lsame_kinds_call (ok : T.Ok) (okU : U.Ok) (f0 : f 0 = 0) (fk : ∀ r, r < T.goes.length → U.kinds[f r]? = some (T.kinds.getD r 0)) (fg : ∀ r, r < T.goes.length → U.goes[f r]? = some ((T.goes.getD r []).map f)) (h : IH) : callC 2 m__law_same_kinds [T.enc, U.enc] h = .ok (.bl true) h := by
  have n32 : T.n ≤ 32 := ok.g2
  have tl := ok.kl
  obtain ⟨m, _, _, e, ⟨k, x5, x6, x, rfl, rfl, hk, rfl⟩, e2⟩ := while_nx (c := t__law_same_kinds_2) (s := b__law_same_kinds_3) (fun m env h' => ∃ (k : Nat) (x5 x6 x : Option D), env = [some T.enc, some U.enc, some (.ref h.length), some (.ref (h.length + 1)), some (.int (k : Nat)), x5, x6, x] ∧ h' = skH h f (T.ord k) ∧ k ≤ T.n ∧ m = T.n - k) T.n _ (skH h f (T.ord 0)) ⟨0, none, none, none, rfl, rfl, by omega, by omega⟩ (by
    rintro m _ _ ⟨k, x5, x6, x, rfl, rfl, hk, rfl⟩
    have ol := ok.ord_len k
    have bl : bLen [.ref h.length] (skH h f (T.ord k)) = .ok (.int ((T.ord k).length : Nat)) (skH h f (T.ord k)) := by
      rw [bLen_ref skH_0, List.length_map]
    by_cases q : k < (T.ord k).length
    · refine .inl ?_
      have q' : (k : Int) < ((T.ord k).length : Nat) := by omega
      have hr : (T.ord k)[k]? = some (T.ord k)[k] := List.getElem?_eq_getElem q
      generalize (T.ord k)[k] = r at hr
      have hrn := ok.ord_lt (List.mem_of_getElem? hr)
      obtain ⟨row, e1, e3, e4⟩ := ok.rowAt hrn
      have rl : row.length ≤ 6 := by rw [e3]; exact ok.tg.l2
      have i1 : dIx (.ref h.length) (.int (k : Nat)) (skH h f (T.ord k)) = .ok (.tup [.int (r : Nat), .int (f r : Nat)]) (skH h f (T.ord k)) := dIx_nat (seqOf_ref skH_0) (by rw [List.getElem?_map, hr]; rfl)
      have rowD : T.goes.getD r [] = row := by rw [List.getD_eq_getElem?_getD, e1]; rfl
      have ug := fg r hrn
      rw [rowD] at ug
      have i2 := ix_row (h := skH h f (T.ord k)) e1
      have i3 := ix_row (T := U) (h := skH h f (T.ord k)) ug
      have j1 : dIx (.tup (T.kinds.map D.int)) (.int (r : Nat)) (skH h f (T.ord k)) = .ok (.int (T.kinds.getD r 0)) (skH h f (T.ord k)) := dIx_nat (xs := T.kinds.map D.int) rfl (by
        have hrn : r < T.goes.length := hrn
        rw [List.getElem?_map, List.getElem?_eq_getElem (by omega), List.getD_eq_getElem?_getD, List.getElem?_eq_getElem (by omega)]
        rfl)
      have j2 : dIx (.tup (U.kinds.map D.int)) (.int (f r : Nat)) (skH h f (T.ord k)) = .ok (.int (T.kinds.getD r 0)) (skH h f (T.ord k)) := dIx_nat (xs := U.kinds.map D.int) rfl (by rw [List.getElem?_map, fk r hrn]; rfl)
      have t1 := tT1 (T := T) (h := skH h f (T.ord k))
      have t2 := tT2 (T := T) (h := skH h f (T.ord k))
      have u1 := tT1 (T := U) (h := skH h f (T.ord k))
      have u2 := tT2 (T := U) (h := skH h f (T.ord k))
      obtain ⟨x', e5⟩ := sk_row (h := h) (f := f) (a := T.enc) (b := U.enc) (x4 := some (.int (k : Nat))) (x5 := some (.int (r : Nat))) (x6 := some (.int (f r : Nat))) row (T.ord k) x (by omega)
      refine ⟨[some T.enc, some U.enc, some (.ref h.length), some (.ref (h.length + 1)), some (.int ((k : Nat) + 1)), some (.int (r : Nat)), some (.int (f r : Nat)), x'], skH h f (T.ord (k + 1)), ?_, ?_, T.n - (k + 1), by omega, k + 1, _, _, x', rfl, rfl, by omega, rfl⟩
      · unfold t__law_same_kinds_2
        generalize skH h f (T.ord k) = H1 at *
        generalize T.enc = TE at *
        generalize U.enc = UE at *
        simp [bl, q, q']
      · have er : T.ord (k + 1) = addNi (T.ord k) row := by
          rw [Tb.ord, hr]
          simp [List.getD_eq_getElem?_getD, e1]
        have it : iZip (mCons (mOp dIx (mOp dIx (mVar 0) (mC (.int 1))) (mVar 5)) (mCons (mOp dIx (mOp dIx (mVar 1) (mC (.int 1))) (mVar 6)) (mNil))) [some T.enc, some U.enc, some (.ref h.length), some (.ref (h.length + 1)), some (.int (k : Nat)), some (.int (r : Nat)), some (.int (f r : Nat)), x] (skH h f (T.ord k)) = .ok (.st (row.map fun t => tPL (t, f t))) (skH h f (T.ord k)) := by
          have zw : List.zipWith (fun x y => D.tup [x, y]) (row.map nD) ((row.map f).map nD) = row.map fun t => tPL (t, f t) := by
            rw [List.map_map, List.zipWith_map, List.zipWith_self]
            rfl
          rw [← zw]
          have i2 : dIx (.tup (T.goes.map gT)) (.int (r : Nat)) (skH h f (T.ord k)) = .ok (.tup (row.map nD)) (skH h f (T.ord k)) := i2
          have i3 : dIx (.tup (U.goes.map gT)) (.int (f r : Nat)) (skH h f (T.ord k)) = .ok (.tup ((row.map f).map nD)) (skH h f (T.ord k)) := i3
          clear e5 er zw j1 j2
          generalize skH h f (T.ord k) = H1 at *
          generalize row.map nD = r1 at *
          generalize (row.map f).map nD = r2 at *
          generalize T.goes.map gT = g1 at *
          generalize U.goes.map gT = g2 at *
          generalize T.enc = TE at *
          generalize U.enc = UE at *
          simp [iZip, stOf, t1, u1, i2, i3]
        unfold b__law_same_kinds_3
        rw [er]
        refine stS (env2 := [some T.enc, some U.enc, some (.ref h.length), some (.ref (h.length + 1)), some (.int (k : Nat)), some (.int (r : Nat)), some (.int (f r : Nat)), x]) (h2 := skH h f (T.ord k)) (by
          clear it e5 er
          generalize skH h f (T.ord k) = H1 at *
          generalize T.enc = TE at *
          generalize U.enc = UE at *
          simp [i1, gSets]) ?_
        refine stS (env2 := [some T.enc, some U.enc, some (.ref h.length), some (.ref (h.length + 1)), some (.int (k : Nat)), some (.int (r : Nat)), some (.int (f r : Nat)), x]) (h2 := skH h f (T.ord k)) (by
          clear it e5 er
          generalize skH h f (T.ord k) = H1 at *
          generalize T.kinds.getD r 0 = kr at *
          generalize T.kinds.map D.int = k1 at *
          generalize U.kinds.map D.int = k2 at *
          generalize T.enc = TE at *
          generalize U.enc = UE at *
          simp [t2, u2, j1, j2]) ?_
        refine stS ((for_st it).trans e5) ?_
        simp
    · refine .inr ?_
      have q' : ¬ (k : Int) < ((T.ord k).length : Nat) := by omega
      unfold t__law_same_kinds_2
      generalize skH h f (T.ord k) = H1 at *
      generalize T.enc = TE at *
      generalize U.enc = UE at *
      simp [bl, q, q'])
  refine callC_pure rfl (g := [.lst ((T.ord k).map fun r => tPL (r, f r)), .dt (skD f (T.ord k))]) ?_ rfl
  have h0 : skH h f (T.ord 0) = h ++ [.lst [.tup [.int 0, .int 0]], .dt [([.inl 0, .inl 0], .bl true)]] := by
    unfold skH
    rw [show T.ord 0 = [0] from rfl]
    show h ++ [Cell.lst [tPL (0, f 0)], .dt [(kPL (0, f 0), D.bl true)]] = _
    rw [f0]
    rfl
  unfold m__law_same_kinds
  rw [ap_fnM]
  simp only [List.map_cons, List.map_nil, List.length_cons, List.length_nil, List.cons_append, List.nil_append, Nat.reduceAdd, Nat.reduceSub, List.replicate]
  have md : mDictP (mTup (mCons (mC (.int 0)) (mCons (mC (.int 0)) (mNil)))) (mC (.bl true)) [some T.enc, some U.enc, some (.ref h.length), none, none, none, none, none] (h ++ [.lst [.tup [.int 0, .int 0]]]) = .ok (.ref (h.length + 1)) (skH h f (T.ord 0)) := by
    rw [h0]
    rw [ap_mDictP]
    have g1 : ((h ++ [Cell.lst [D.tup [.int 0, .int 0]]]) ++ [.dt []])[(h ++ [Cell.lst [D.tup [.int 0, .int 0]]]).length]? = some (.dt []) := get_app0
    have kt : keyT? (.tup [.int 0, .int 0]) = some [.inl 0, .inl 0] := rfl
    have l1 : (h ++ [Cell.lst [D.tup [.int 0, .int 0]]]).length = h.length + 1 := by simp
    simp only [ap_mTup, ap_mCons, ap_mNil, ap_mC, bind_ok]
    rw [if_pos (by simp)]
    simp only [bind_ok]
    rw [kt]
    simp
  refine stN (env2 := [some T.enc, some U.enc, some (.ref h.length), none, none, none, none, none]) (h2 := h ++ [.lst [.tup [.int 0, .int 0]]]) (by
    generalize T.enc = TE at *
    generalize U.enc = UE at *
    simp [newL]) ?_
  refine stN (env2 := [some T.enc, some U.enc, some (.ref h.length), some (.ref (h.length + 1)), none, none, none, none]) (h2 := skH h f (T.ord 0)) (by rw [ap_msSet, md, bindS_ok]; rfl) ?_
  refine stN (env2 := [some T.enc, some U.enc, some (.ref h.length), some (.ref (h.length + 1)), some (.int 0), none, none, none]) (h2 := skH h f (T.ord 0)) (by simp) ?_
  refine stN e ?_
  show _ = R.ok (D.bl true) (skH h f (T.ord k))
  simp
end
end NR

set_option Elab.async false
set_option linter.all false
set_option maxRecDepth 100000
set_option maxHeartbeats 1000000
namespace NR
open PySem PySem.Spec PyProof.Rows L2
/-! ### no two rooms alike (k29) -/
def keyI (goes : List (List Nat)) (V : List Int) : List (List Int) := goes.mapIdx fun i row => V.getD i 0 :: row.map fun t => V.getD t 0
def kDI (l : List Int) : List DKey := l.map Sum.inl
theorem kDI_inj : ∀ (a b : List Int), kDI a = kDI b → a = b := fun a b h => (List.map_inj_right (fun x y z => by injection z)).mp h
theorem keyT_ints : ∀ (l : List Int), allM keyD? (l.map D.int) = some (kDI l)
  | [] => rfl
  | n :: l => by
    rw [List.map_cons]
    unfold allM
    rw [keyT_ints l]
    rfl
theorem keyI_len {goes : List (List Nat)} {V : List Int} : (keyI goes V).length = goes.length := List.length_mapIdx
theorem keyI_get {goes : List (List Nat)} {V : List Int} {i : Nat} {row : List Nat} (h : goes[i]? = some row) : (keyI goes V)[i]? = some (V.getD i 0 :: row.map fun t => V.getD t 0) := by
  unfold keyI
  rw [List.getElem?_mapIdx, h]
  rfl
/-- the same marks, in other words -/
theorem keyI_nat {goes : List (List Nat)} {W : List Nat} : numB (keyI goes (W.map fun (x : Nat) => (x : Int))) = finB goes W ∧ nCls (keyI goes (W.map fun (x : Nat) => (x : Int))) = nCls (finB goes W) := by
  have g : ∀ i, (W.map fun (x : Nat) => (x : Int)).getD i 0 = ((W.getD i 0 : Nat) : Int) := fun i => by
    rw [List.getD_eq_getElem?_getD, List.getD_eq_getElem?_getD, List.getElem?_map]
    cases W[i]? <;> rfl
  have e : keyI goes (W.map fun (x : Nat) => (x : Int)) = (keyL goes W).map fun l => l.map fun (x : Nat) => (x : Int) := by
    apply List.ext_getElem?
    intro i
    unfold keyI keyL
    rw [List.getElem?_mapIdx, List.getElem?_map, List.getElem?_mapIdx]
    cases goes[i]? with
    | none => rfl
    | some row =>
      simp only [Option.map_some, Option.some.injEq, List.map_cons, List.map_map, List.cons.injEq]
      exact ⟨g i, List.map_congr_left fun t _ => g t⟩
  have m := numB_map (f := fun l : List Nat => l.map fun (x : Nat) => (x : Int)) (fun a b z => (List.map_inj_right (fun x y z => by omega)).mp z) (ks := keyL goes W)
  rw [e]
  refine ⟨m.1, m.2.trans ?_⟩
  exact (numB_can (keyL goes W)).2.symm
theorem keyI_kinds {goes : List (List Nat)} {K : List Int} (kl : K.length = goes.length) (row : ∀ r ∈ goes, ∀ t ∈ r, t < goes.length) : numB (keyI goes K) = finB goes (numB K) ∧ nCls (keyI goes K) = nCls (finB goes (numB K)) := by
  have at_ : ∀ i, i < K.length → K[i]? = some (K.getD i 0) := fun i hi => by
    rw [List.getD_eq_getElem?_getD, List.getElem?_eq_getElem hi]
    rfl
  have eqv : ∀ i j, i < goes.length → j < goes.length → ((numB K).getD i 0 = (numB K).getD j 0 ↔ K.getD i 0 = K.getD j 0) := fun i j hi hj => numB_eq (at_ i (by omega)) (at_ j (by omega))
  have rows : ∀ (a b : List Nat), (∀ t ∈ a, t < goes.length) → (∀ t ∈ b, t < goes.length) → (a.map (fun t => K.getD t 0) = b.map (fun t => K.getD t 0) ↔ a.map (fun t => (numB K).getD t 0) = b.map fun t => (numB K).getD t 0) := by
    intro a
    induction a with
    | nil => intro b _ _; cases b <;> simp
    | cons x a ih =>
      intro b ha hb
      cases b with
      | nil => simp
      | cons y b =>
        simp only [List.map_cons, List.cons.injEq]
        rw [eqv x y (ha x List.mem_cons_self) (hb y List.mem_cons_self), ih b (fun t ht => ha t (List.mem_cons_of_mem _ ht)) fun t ht => hb t (List.mem_cons_of_mem _ ht)]
  have c := numB_congr (ks := keyI goes K) (ks' := keyL goes (numB K)) (by rw [keyI_len, keyL_len]) (fun i j a b a' b' h1 h2 h3 h4 => by
    have il : i < goes.length := by have := (List.getElem?_eq_some_iff.mp h1).1; rwa [keyI_len] at this
    have jl : j < goes.length := by have := (List.getElem?_eq_some_iff.mp h2).1; rwa [keyI_len] at this
    have gi : goes[i]? = some (goes.getD i []) := by rw [List.getD_eq_getElem?_getD, List.getElem?_eq_getElem il]; rfl
    have gj : goes[j]? = some (goes.getD j []) := by rw [List.getD_eq_getElem?_getD, List.getElem?_eq_getElem jl]; rfl
    rw [keyI_get gi] at h1
    rw [keyI_get gj] at h2
    rw [keyL_get il] at h3
    rw [keyL_get jl] at h4
    cases h1
    cases h2
    cases h3
    cases h4
    simp only [List.cons.injEq]
    rw [eqv i j il jl, rows _ _ (row _ (List.mem_of_getElem? gi)) (row _ (List.mem_of_getElem? gj))])
  refine ⟨c.1, c.2.trans ?_⟩
  exact (numB_can (keyL goes (numB K))).2.symm
section
variable {goes : List (List Nat)} {V : List Int} {H : IH} {S : Nat} {mv : D}
def ksI (goes : List (List Nat)) (V : List Int) : List (List DKey) := (keyI goes V).map kDI
theorem au_turn {κ : Type} [DecidableEq κ] {cK : List (κ × D) → Cell} {kf : D → Option κ} (ky : KyOk cK kf) (btl : ∀ {h : IH} {n : Nat} {kvs : List (κ × D)}, h[n]? = some (cK kvs) → bLenT [.ref n] h = .ok (.int (kvs.length : Nat)) h) {k : κ} {x0 x1 x3 x8 x9 : Option D} (mvx : ∀ (j : Nat) (G : IH), j < V.length → dIx mv (.int (j : Nat)) (H ++ G) = .ok (.int (V.getD j 0)) (H ++ G)) {ks : List κ} (hl : ks.length ≤ 6000) {i : Nat} {row : List Nat} (hi : i < V.length) (hr : ∀ t ∈ row, t < V.length) (s10 : row.length ≤ 10) (hk : kf (.tup ((V.getD i 0 :: row.map fun t => V.getD t 0).map D.int)) = some k) :
    ∃ y8, b__law_all_unlike_2 [x0, x1, some mv, x3, some (.ref H.length), some (.ref (H.length + 1)), some (.int (i : Nat)), some (gT row), x8, x9] (nuH cK H ks) = .nx [x0, x1, some mv, x3, some (.ref H.length), some (.ref (H.length + 1)), some (.int (i : Nat)), some (gT row), y8, x9] (nuH cK H (ks ++ [k])) := by
  generalize hk0 : V.getD i 0 :: row.map (fun t => V.getD t 0) = kl at *
  have nd : (ddp [] ks).Nodup := ddp_nodup List.nodup_nil
  have cl : (ddp [] ks).length ≤ 6000 := Nat.le_trans nCls_le hl
  have c0 : ∀ (S : List κ) (N : List Nat), (H ++ [cK (tabK S), .lst (N.map nD)])[H.length]? = some (cK (tabK S)) := fun S N => get_app0
  have c1 : ∀ (S : List κ) (N : List Nat), (H ++ [cK (tabK S), .lst (N.map nD)])[H.length + 1]? = some (.lst (N.map nD)) := fun S N => get_app
  have mm : k ∈ ddp [] ks ↔ k ∈ ks := by rw [ddp_mem]; simp
  -- the key
  have st0 : (msSet 8 (mB bTupleX (mCons (mFz (mOp dAdd (mFz (mLst (mCons (mOp dIx (mVar 2) (mVar 6)) (mNil)))) (mFz (mLc (iSeq (mVar 7)) (gSet 9) mYes e__law_all_unlike_1 [9])))) (mNil)))) [x0, x1, some mv, x3, some (.ref H.length), some (.ref (H.length + 1)), some (.int (i : Nat)), some (gT row), x8, x9] (nuH cK H ks) = .nx [x0, x1, some mv, x3, some (.ref H.length), some (.ref (H.length + 1)), some (.int (i : Nat)), some (gT row), some (.tup (kl.map D.int)), x9] (nuH cK H ks) := by
    have comp := lcF_map (it := iSeq (mVar 7)) (ws := [9]) (gg := gSet 9) (m := e__law_all_unlike_1) (ds := row.map nD) (h := nuH cK H ks) (env := [x0, x1, some mv, x3, some (.ref H.length), some (.ref (H.length + 1)), some (.int (i : Nat)), some (gT row), x8, x9]) (fun d => match d with | .int i => .int (V.getD i.toNat 0) | d => d) rfl (by rw [List.length_map]; omega) (fun d hd => by
      obtain ⟨q, _, rfl⟩ := List.mem_map.mp hd
      rfl) (fun d hd => by
      obtain ⟨q, hq, rfl⟩ := List.mem_map.mp hd
      refine ⟨_, rfl, fun w => ?_⟩
      have ix := mvx q ([cK (tabK (ddp [] ks)), .lst ((numB ks).map nD)] ++ [w]) (hr q hq)
      rw [← List.append_assoc] at ix
      unfold e__law_all_unlike_1
      show _ = NR.R.ok (D.int (V.getD q 0)) _
      show mOp dIx (mVar 2) (mVar 9) _ (H ++ [cK (tabK (ddp [] ks)), .lst ((numB ks).map nD)] ++ [w]) = NR.R.ok (D.int (V.getD q 0)) (H ++ [cK (tabK (ddp [] ks)), .lst ((numB ks).map nD)] ++ [w])
      generalize H ++ [cK (tabK (ddp [] ks)), .lst ((numB ks).map nD)] ++ [w] = H1 at *
      simp [wipeE, nD, ix])
    have em : (row.map nD).map (fun d => match d with | .int i => .int (V.getD i.toNat 0) | d => d) = (row.map fun t => V.getD t 0).map D.int := by
      rw [List.map_map, List.map_map]
      rfl
    rw [em] at comp
    have i3 := mvx i [cK (tabK (ddp [] ks)), .lst ((numB ks).map nD)] hi
    have i3 : dIx mv (.int (i : Nat)) (nuH cK H ks) = .ok (.int (V.getD i 0)) (nuH cK H ks) := i3
    have fz1 : fzD (nuH cK H ks) (nuH cK H ks) [.int (V.getD i 0)] = .ok (.fl [.int (V.getD i 0)]) (nuH cK H ks) := fzD_same (by simp)
    have ad : fzR (nuH cK H ks) (dAdd (.fl [.int (V.getD i 0)]) (.fl ((row.map fun t => V.getD t 0).map D.int)) (nuH cK H ks)) = .ok (.fl (kl.map D.int)) (nuH cK H ks) := by
      rw [dAdd_fl, if_pos (by rw [List.length_singleton, List.length_map, List.length_map]; omega), fz_newL, ← hk0]
      exact fzD_same (by simp)
    have bt : bTupleX [.fl (kl.map D.int)] (nuH cK H ks) = .ok (.tup (kl.map D.int)) (nuH cK H ks) := rfl
    clear hk mm c0 c1 em
    generalize mFz (mLc (iSeq (mVar 7)) (gSet 9) mYes e__law_all_unlike_1 [9]) = CC at *
    generalize (row.map fun t => V.getD t 0).map D.int = RM at *
    generalize V.getD i 0 = vi at *
    generalize kl.map D.int = KK at *
    generalize nuH cK H ks = H1 at *
    simp [i3, newL_bind, fz_newL, fz1, comp, ad, bt, -bTupleX_fl]
  have d1 : dDIn true (.tup (kl.map D.int)) (.ref H.length) (nuH cK H ks) = .ok (.bl (!decide (k ∈ ks))) (nuH cK H ks) := by
    unfold dDIn
    rw [ky.get (c0 _ _) hk, valKD_tab nd]
    by_cases q : k ∈ ks
    · rw [if_pos (mm.mpr q), decide_eq_true q]; rfl
    · rw [if_neg (fun z => q (mm.mp z)), decide_eq_false q]; rfl
  have st1 : msIf (mTb (mOp (dDIn true) (mVar 8) (mVar 4))) (msSetD (mVar 4) (mVar 8) (mB bLenT (mCons (mVar 4) (mNil)))) (msNil) [x0, x1, some mv, x3, some (.ref H.length), some (.ref (H.length + 1)), some (.int (i : Nat)), some (gT row), some (.tup (kl.map D.int)), x9] (nuH cK H ks) = .nx [x0, x1, some mv, x3, some (.ref H.length), some (.ref (H.length + 1)), some (.int (i : Nat)), some (gT row), some (.tup (kl.map D.int)), x9] (H ++ [cK (tabK (ddp [] (ks ++ [k]))), .lst ((numB ks).map nD)]) := by
    clear st0
    rw [ddp_snoc]
    by_cases q : k ∈ ks
    · rw [if_pos q]
      rw [decide_eq_true q] at d1
      show _ = RS.nx _ (nuH cK H ks)
      generalize nuH cK H ks = H1 at *
      generalize kl.map D.int = KK at *
      generalize H.length = n at *
      simp [d1]
    · rw [if_neg q]
      rw [decide_eq_false q] at d1
      have bl : bLenT [.ref H.length] (nuH cK H ks) = .ok (.int ((ddp [] ks).length : Nat)) (nuH cK H ks) := by rw [btl (c0 _ _), tabK_len]
      have pd : putDD (.ref H.length) (.tup (kl.map D.int)) (.int ((ddp [] ks).length : Nat)) (nuH cK H ks) = some (H ++ [cK (tabK (ddp [] ks ++ [k])), .lst ((numB ks).map nD)]) := by
        rw [ky.put (c0 _ _) hk (by rw [tabK_len]; omega), putKD_tab (fun z => q (mm.mp z)), set_app0]
        rfl
      generalize H ++ [cK (tabK (ddp [] ks ++ [k])), .lst ((numB ks).map nD)] = H2 at *
      generalize nuH cK H ks = H1 at *
      generalize kl.map D.int = KK at *
      generalize H.length = n at *
      simp [d1, bl, pd]
  have nd2 : (ddp [] (ks ++ [k])).Nodup := ddp_nodup List.nodup_nil
  have km : k ∈ ddp [] (ks ++ [k]) := mem_ddp (by simp)
  have g1 : dDGet (.ref H.length) (.tup (kl.map D.int)) (H ++ [cK (tabK (ddp [] (ks ++ [k]))), .lst ((numB ks).map nD)]) = .ok (.int ((ddp [] (ks ++ [k])).idxOf (k) : Nat)) (H ++ [cK (tabK (ddp [] (ks ++ [k]))), .lst ((numB ks).map nD)]) := by
    unfold dDGet
    rw [ky.get (c0 _ _) hk, valKD_tab nd2, if_pos km]
  have ex : (numB (ks ++ [k])) = numB ks ++ [(ddp [] (ks ++ [k])).idxOf (k)] := by
    have h1 : (numB (ks ++ [k])).length = (numB ks).length + 1 := by rw [numB_len, numB_len, List.length_append]; rfl
    have h2 := numB_get (ks := ks ++ [k]) (i := ks.length) (a := k) (by simp)
    rw [numB_snoc] at h2 ⊢
    rw [List.getElem?_append_right (by rw [numB_len]; omega), numB_len, Nat.sub_self] at h2
    simp only [List.getElem?_cons_zero, Option.some.injEq] at h2
    rw [h2]
  have ty := tyD_ref (c1 (ddp [] (ks ++ [k])) (numB ks))
  have ap : fAppend (.ref (H.length + 1)) [.int ((ddp [] (ks ++ [k])).idxOf (k) : Nat)] (H ++ [cK (tabK (ddp [] (ks ++ [k]))), .lst ((numB ks).map nD)]) = .ok .non (nuH cK H (ks ++ [k])) := by
    have := append_at (y := nD ((ddp [] (ks ++ [k])).idxOf (k))) (c1 (ddp [] (ks ++ [k])) (numB ks)) (by rw [List.length_map, numB_len]; omega)
    rw [show (numB ks).map nD ++ [nD ((ddp [] (ks ++ [k])).idxOf (k))] = (numB (ks ++ [k])).map nD by rw [ex, List.map_append]; rfl, set_app] at this
    exact this
  refine ⟨some (.tup (kl.map D.int)), ?_⟩
  unfold b__law_all_unlike_2
  refine stS st0 ?_
  refine stS st1 ?_
  clear st0 st1 d1 c0 c1 ex
  generalize nuH cK H (ks ++ [k]) = H3 at *
  generalize H ++ [cK (tabK (ddp [] (ks ++ [k]))), .lst ((numB ks).map nD)] = H2 at *
  generalize kl.map D.int = KK at *
  generalize H.length = n at *
  simp [g1, ty, ap]
/-- one refining -/
theorem au_round {x1 x3 x9 : Option D} (mvx : ∀ (j : Nat) (G : IH), j < V.length → dIx mv (.int (j : Nat)) (H ++ G) = .ok (.int (V.getD j 0)) (H ++ G)) (vl : V.length = goes.length) (g2 : goes.length ≤ 5000) (s10 : S ≤ 10) (row : ∀ r ∈ goes, r.length = S ∧ ∀ t ∈ r, t < goes.length) (x4 x5 x6 x7 x8 : Option D) :
    ∃ (y6 y7 y8 : Option D), b__law_all_unlike_3 [some (.tup (goes.map gT)), x1, some mv, x3, x4, x5, x6, x7, x8, x9] H = (if nCls (keyI goes V) = goes.length then .rt (.bl true) (nuH Cell.dt H (ksI goes V)) else .nx [some (.tup (goes.map gT)), x1, some (.ref (H.length + 1)), x3, some (.ref H.length), some (.ref (H.length + 1)), y6, y7, y8, x9] (nuH Cell.dt H (ksI goes V))) := by
  have kl : (ksI goes V).length = goes.length := by unfold ksI; rw [List.length_map, keyI_len]
  have main : ∀ (n i : Nat) (x6 x7 x8 : Option D), i + n = goes.length → ∃ y6 y7 y8, forL (gSets [6, 7]) b__law_all_unlike_2 (((goes.drop i).map gT).mapIdx fun j x => .tup [.int ((i + j : Nat) : Int), x]) [some (.tup (goes.map gT)), x1, some mv, x3, some (.ref H.length), some (.ref (H.length + 1)), x6, x7, x8, x9] (nuH Cell.dt H ((ksI goes V).take i)) = .nx [some (.tup (goes.map gT)), x1, some mv, x3, some (.ref H.length), some (.ref (H.length + 1)), y6, y7, y8, x9] (nuH Cell.dt H (ksI goes V)) := by
    intro n
    induction n with
    | zero =>
      intro i x6 x7 x8 e
      rw [List.drop_of_length_le (by omega), List.take_of_length_le (by omega)]
      exact ⟨x6, x7, x8, rfl⟩
    | succ n ih =>
      intro i x6 x7 x8 e
      have hi : i < goes.length := by omega
      have er : goes[i]? = some goes[i] := List.getElem?_eq_getElem hi
      have ro := row _ (List.getElem_mem hi)
      have ek := keyI_get (V := V) er
      rw [List.drop_eq_getElem_cons hi]
      generalize goes[i] = r at *
      obtain ⟨w8, tn⟩ := au_turn kyT bLenT_ref (k := kDI (V.getD i 0 :: r.map fun t => V.getD t 0)) (x0 := some (.tup (goes.map gT))) (x1 := x1) (x3 := x3) (x8 := x8) (x9 := x9) mvx (ks := (ksI goes V).take i) (by rw [List.length_take]; omega) (i := i) (row := r) (by omega) (by rw [vl]; exact ro.2) (by omega) (keyT_ints _)
      obtain ⟨y6, y7, y8, ih⟩ := ih (i + 1) (some (.int (i : Nat))) (some (gT r)) w8 (by omega)
      refine ⟨y6, y7, y8, ?_⟩
      have sh : (fun (j : Nat) (x : D) => D.tup [.int ((i + (j + 1) : Nat) : Int), x]) = fun j x => D.tup [.int ((i + 1 + j : Nat) : Int), x] := by
        funext j x
        rw [show i + (j + 1) = i + 1 + j by omega]
      rw [List.map_cons, List.mapIdx_cons, sh, forL_cons (e1 := [some (.tup (goes.map gT)), x1, some mv, x3, some (.ref H.length), some (.ref (H.length + 1)), some (.int (i : Nat)), some (gT r), x8, x9]) rfl, tn, on_nx]
      have ek2 : (ksI goes V).take i ++ [kDI (V.getD i 0 :: r.map fun t => V.getD t 0)] = (ksI goes V).take (i + 1) := by
        unfold ksI
        rw [List.take_add_one, List.getElem?_map, ek]
        rfl
      rw [ek2]
      exact ih
  obtain ⟨y6, y7, y8, fl⟩ := main goes.length 0 x6 x7 x8 (by omega)
  refine ⟨y6, y7, y8, ?_⟩
  rw [List.drop_zero] at fl
  have c0 : (nuH Cell.dt H (ksI goes V))[H.length]? = some (Cell.dt (tabK (ddp [] (ksI goes V)))) := get_app0
  have nc : nCls (ksI goes V) = nCls (keyI goes V) := (numB_map kDI_inj).2
  have bt : bLenT [.ref H.length] (nuH Cell.dt H (ksI goes V)) = .ok (.int (nCls (keyI goes V) : Nat)) (nuH Cell.dt H (ksI goes V)) := by
    rw [bLenT_ref c0, tabK_len, ← nc]
    rfl
  have bg : ∀ h : IH, bLen [.tup (goes.map gT)] h = .ok (.int (goes.length : Nat)) h := fun h => by rw [bLen_tup, List.length_map]
  have bg' := bg (nuH Cell.dt H (ksI goes V))
  have it : iEnum (mCons (mVar 0) (mNil)) [some (.tup (goes.map gT)), x1, some mv, x3, some (.ref H.length), some (.ref (H.length + 1)), x6, x7, x8, x9] (nuH Cell.dt H ((ksI goes V).take 0)) = .ok (.st ((goes.map gT).mapIdx fun j x => .tup [.int ((0 + j : Nat) : Int), x])) (nuH Cell.dt H ((ksI goes V).take 0)) := by
    simp only [Nat.zero_add]
    rfl
  unfold b__law_all_unlike_3
  refine stS (env2 := [some (.tup (goes.map gT)), x1, some mv, x3, some (.ref H.length), x5, x6, x7, x8, x9]) (h2 := H ++ [.dt []]) (by
    generalize goes.map gT = GG at *
    simp) ?_
  refine stS (env2 := [some (.tup (goes.map gT)), x1, some mv, x3, some (.ref H.length), some (.ref (H.length + 1)), x6, x7, x8, x9]) (h2 := nuH Cell.dt H ((ksI goes V).take 0)) (by
    show _ = RS.nx _ (H ++ [.dt [], .lst []])
    generalize goes.map gT = GG at *
    simp [newL]) ?_
  refine stS ((for_st it).trans fl) ?_
  refine stS (env2 := [some (.tup (goes.map gT)), x1, some (.ref (H.length + 1)), x3, some (.ref H.length), some (.ref (H.length + 1)), y6, y7, y8, x9]) (h2 := nuH Cell.dt H (ksI goes V)) (by
    clear fl it bt bg bg' c0
    generalize nuH Cell.dt H (ksI goes V) = H1 at *
    generalize goes.map gT = GG at *
    simp) ?_
  clear fl it bg c0
  generalize nuH Cell.dt H (ksI goes V) = H1 at *
  generalize goes.map gT = GG at *
  by_cases q : nCls (keyI goes V) = goes.length
  · rw [if_pos q]
    have q' : ((nCls (keyI goes V) : Nat) : Int) = (goes.length : Nat) := by omega
    generalize ((nCls (keyI goes V) : Nat) : Int) = a at *
    generalize ((goes.length : Nat) : Int) = b at *
    simp [bt, bg', q', -bLen_tup]
  · rw [if_neg q]
    have q' : ¬ ((nCls (keyI goes V) : Nat) : Int) = (goes.length : Nat) := by omega
    generalize ((nCls (keyI goes V) : Nat) : Int) = a at *
    generalize ((goes.length : Nat) : Int) = b at *
    simp [bt, bg', q', -bLen_tup]
end
/-- the whole -/
theorem au_loop {goes : List (List Nat)} {kinds : List Int} {S : Nat} {x1 : Option D} (g2 : goes.length ≤ 5000) (s10 : S ≤ 10) (row : ∀ r ∈ goes, r.length = S ∧ ∀ t ∈ r, t < goes.length) (apart : ∀ W, MkM goes kinds W → finB goes W = W → nCls W = goes.length) :
    ∀ (m k : Nat) (H : IH) (mv : D) (V : List Int) (W : List Nat) (x3 x4 x5 x6 x7 x8 : Option D), k + m = goes.length → V.length = goes.length → (∀ (j : Nat) (G : IH), j < V.length → dIx mv (.int (j : Nat)) (H ++ G) = .ok (.int (V.getD j 0)) (H ++ G)) → numB (keyI goes V) = finB goes W ∧ nCls (keyI goes V) = nCls (finB goes W) → MkM goes kinds W → k + 1 ≤ nCls W →
    ∃ g, ((forL (gSet 3) b__law_all_unlike_3 (intsFrom k m) [some (.tup (goes.map gT)), x1, some mv, x3, x4, x5, x6, x7, x8, none] H).then (msRet (mC (.bl false)))).fin = .ok (.bl true) (H ++ g)
  | 0, k, H, mv, V, W, x3, x4, x5, x6, x7, x8, km, vl, mvx, e, mk, kn => by
    have := nCls_le (ks := W)
    have := mk.len
    omega
  | m + 1, k, H, mv, V, W, x3, x4, x5, x6, x7, x8, km, vl, mvx, e, mk, kn => by
    obtain ⟨y6, y7, y8, rd⟩ := au_round (goes := goes) (x1 := x1) (x3 := some (.int (k : Nat))) (x9 := none) mvx vl g2 s10 row x4 x5 x6 x7 x8
    have hd : intsFrom (k : Nat) (m + 1) = .int (k : Nat) :: intsFrom ((k + 1 : Nat) : Int) m := by
      rw [intsFrom_succ]
      congr 2
    rw [hd, forL_cons (e1 := [some (.tup (goes.map gT)), x1, some mv, some (.int (k : Nat)), x4, x5, x6, x7, x8, none]) rfl, rd]
    by_cases q : nCls (keyI goes V) = goes.length
    · rw [if_pos q, on_rt, then_rt, fin_rt]
      exact ⟨[Cell.dt (tabK (ddp [] (ksI goes V))), .lst ((numB (ksI goes V)).map nD)], rfl⟩
    · rw [if_neg q, on_nx]
      have ml := mk.len
      have ge := fin_ge (goes := goes) (M := W) ml
      have ne : nCls (finB goes W) ≠ nCls W := fun z => by
        have st := fin_same mk.can ml z
        have := apart W mk st
        exact q (by rw [e.2, z, this])
      have mk2 : MkM goes kinds (finB goes W) := mk_finer (S := S) (fun r hr => (row r hr).1) mk
      have nb : numB (ksI goes V) = finB goes W := by rw [← e.1]; exact (numB_map kDI_inj).1
      obtain ⟨g, ih⟩ := au_loop (x1 := x1) g2 s10 row apart m (k + 1) (nuH Cell.dt H (ksI goes V)) (.ref (H.length + 1)) ((finB goes W).map fun (x : Nat) => (x : Int)) (finB goes W) (some (.int (k : Nat))) (some (.ref H.length)) (some (.ref (H.length + 1))) y6 y7 y8 (by omega) (by rw [List.length_map, finB_len]) (fun j G hj => by
        rw [List.length_map] at hj
        refine dIx_nat (xs := (finB goes W).map nD) (seqOf_ref ?_) ?_
        · rw [← nb]
          refine get_old ?_
          exact get_app
        · have a1 : (finB goes W)[j]? = some ((finB goes W).getD j 0) := get_getD hj
          have a2 : ((finB goes W).map fun (x : Nat) => (x : Int)).getD j 0 = (((finB goes W).getD j 0 : Nat) : Int) := by
            rw [List.getD_eq_getElem?_getD, List.getElem?_map, a1]
            rfl
          rw [List.getElem?_map, a1, a2]
          rfl) keyI_nat mk2 (by omega)
      refine ⟨[Cell.dt (tabK (ddp [] (ksI goes V))), .lst ((numB (ksI goes V)).map nD)] ++ g, ?_⟩
      rw [ih, ← List.append_assoc]
theorem lall_unlike_call {U : Tb} (ok : U.Ok) (apart : ∀ W, MkM U.goes U.kinds W → finB U.goes W = W → nCls W = U.goes.length) (h : IH) : callC 2 m__law_all_unlike [.tup (U.goes.map gT), .tup (U.kinds.map D.int)] h = .ok (.bl true) h := by
  have g1 := ok.g1
  have g2 := ok.g2
  have kl := ok.kl
  have t6 := ok.tg.l2
  have row : ∀ r ∈ U.goes, r.length = U.sig.length ∧ ∀ t ∈ r, t < U.goes.length := ok.row
  obtain ⟨g, lp⟩ := au_loop (goes := U.goes) (kinds := U.kinds) (S := U.sig.length) (x1 := some (.tup (U.kinds.map D.int))) (by omega) (by omega) row apart U.goes.length 0 h (.fl (U.kinds.map D.int)) U.kinds (numB U.kinds) none none none none none none (by omega) (by omega) (fun j G hj => dIx_nat (xs := U.kinds.map D.int) rfl (by rw [List.getElem?_map, List.getD_eq_getElem?_getD, List.getElem?_eq_getElem hj]; rfl)) (keyI_kinds kl fun r hr => (row r hr).2) (mk_first kl) (by
    have := nCls_pos (ks := numB U.kinds) (by
      intro z
      have := numB_len (ks := U.kinds)
      rw [z, List.length_nil] at this
      omega)
    omega)
  refine callC_pure rfl (g := g) ?_ rfl
  have bg : bLen [.tup (U.goes.map gT)] h = .ok (.int (U.goes.length : Nat)) h := by rw [bLen_tup, List.length_map]
  have fz : fzD h h (U.kinds.map D.int) = .ok (.fl (U.kinds.map D.int)) h := fzD_same (by simp)
  unfold m__law_all_unlike
  rw [ap_fnM]
  simp only [List.map_cons, List.map_nil, List.length_cons, List.length_nil, List.cons_append, List.nil_append, Nat.reduceAdd, Nat.reduceSub, List.replicate]
  refine stN (env2 := [some (.tup (U.goes.map gT)), some (.tup (U.kinds.map D.int)), some (.fl (U.kinds.map D.int)), none, none, none, none, none, none, none]) (h2 := h) (by
    clear lp
    generalize U.goes.map gT = GG at *
    generalize U.kinds.map D.int = KK at *
    simp [bListX_tup, newL_bind, fz_newL, fz]) ?_
  rw [ap_msCons, for_st (ds := intsFrom 0 U.goes.length) (h2 := h) (iRange1_of (j := (U.goes.length : Nat)) (k := U.goes.length) (by
    clear lp
    generalize U.goes.map gT = GG at *
    generalize U.kinds.map D.int = KK at *
    generalize ((U.goes.length : Nat) : Int) = gl at *
    simp [bg, -bLen_tup]) rfl (by omega))]
  exact lp
end NR

set_option Elab.async false
set_option linter.all false
set_option maxRecDepth 100000
set_option maxHeartbeats 4000000
namespace NR
open PySem PySem.Spec PyProof.Rows L2
/-! equations for fields, methods; comprehensions over lists in the heap -/
section
variable {c f : Str} {m mo me : ME} {ma : MA} {env : EV} {h : IH} {g : D → D → IH → R D} {n : Nat} {fm : MF}
@[simp] theorem ap_mFld : mFld c f mo env h = (mo env h).bind fun x h1 => match (insAt c h1 x).bind (List.lookup f) with
  | some d => .ok d h1
  | none => .no := rfl
@[simp] theorem ap_msSetF : msSetF c f mo me env h = (me env h).bindS env fun d h1 => (mo env h1).bindS env fun x h2 => match putAtF c f d h2 x with
  | some h3 => .nx env h3
  | none => .no := rfl
@[simp] theorem ap_msAugF : msAugF c f g mo me env h = (mo env h).bindS env fun x h1 => match (insAt c h1 x).bind (List.lookup f) with
  | some v => (me env h1).bindS env fun y h2 => (g v y h2).bindS env fun z h3 => match putAtF c f z h3 x with
    | some h4 => .nx env h4
    | none => .no
  | none => .no := rfl
@[simp] theorem ap_mMth : mMth c f n fm mo ma env h = (mo env h).bind fun x h1 => match insAt c h1 x with
  | some fs => if noLook f fs = true then (ma env h1).bind fun ds h2 => callC n fm (x :: ds) h2 else .no
  | none => .no := rfl
@[simp] theorem ap_mNew : mNew c n fm ma env h = (ma env h).bind fun ds h1 => (callC n fm (.ref h1.length :: ds) (h1 ++ [.ins c []])).bind fun d h2 => match d with
  | .non => .ok (.ref h1.length) h2
  | _ => .no := rfl
@[simp] theorem ap_msSetTF {fs : List Str} {i : Nat} : msSetTF c fs i me env h = (me env h).bindS env fun d h1 => match d with
  | .tup ds => if ds.length = fs.length then setFs c i fs ds env h1 else .no
  | _ => .no := rfl
theorem insAt_ref {k : Nat} {fs : List (Str × D)} (e : h[k]? = some (.ins c fs)) : insAt c h (.ref k) = some fs := by
  unfold insAt
  dsimp only
  rw [e]
  exact if_pos rfl
theorem putAtF_ref {k : Nat} {fs : List (Str × D)} {d : D} (e : h[k]? = some (.ins c fs)) (l : fs.length ≤ 100) : putAtF c f d h (.ref k) = some (h.set k (.ins c (putFD f d fs))) := by
  unfold putAtF
  dsimp only
  rw [insAt_ref e]
  exact if_pos l
/-- a comprehension over a source that stays -/
theorem lcF_mapS {it : MI} {gg : MG} {ws : List Nat} {src : Src} {ds : List D} (F : D → D) (hi : it env h = .ok src h) (so : ∀ x, src.ok (h ++ [x]) = true) (sg : ∀ x i, src.get (h ++ [x]) i = ds[i]?) (sm : src.many h = ds.length) (hl : ds.length ≤ 9000000) (lo : ∀ d ∈ ds, D.lo h.length (F d) = true)
    (step : ∀ d ∈ ds, ∃ e1, gg d (wipeE env ws) = some e1 ∧ ∀ x, m e1 (h ++ [x]) = .ok (F d) (h ++ [x])) : mFz (mLc it gg mYes m ws) env h = .ok (.fl (ds.map F)) h := by
  have main : ∀ k i, i + k = ds.length + 1 → i ≤ ds.length → lcM src gg mYes m h.length k i (wipeE env ws) (h ++ [Cell.lst ((ds.take i).map F)]) = .ok (.ref h.length) (h ++ [Cell.lst (ds.map F)]) := by
    intro k
    induction k with
    | zero =>
      intro i e l
      omega
    | succ k ih =>
      intro i e l
      unfold lcM
      rw [if_pos (so _), sg]
      cases hd : ds[i]? with
      | none =>
        have := List.getElem?_eq_none_iff.mp hd
        rw [List.take_of_length_le this]
      | some d =>
        have hi' := (List.getElem?_eq_some_iff.mp hd).1
        obtain ⟨e1, g1, st⟩ := step d (List.mem_of_getElem? hd)
        dsimp only
        rw [g1]
        dsimp only
        unfold mYes
        dsimp only
        rw [st]
        dsimp only
        rw [get_last]
        dsimp only
        rw [if_pos (by rw [List.length_map, List.length_take]; omega), set_app0]
        have : (ds.take i).map F ++ [F d] = (ds.take (i + 1)).map F := by
          rw [List.take_add_one, hd, List.map_append]
          rfl
        rw [this]
        exact ih (i + 1) (by omega) hi'
  rw [ap_mFz0, ap_mLc, hi]
  show fzR h (lcM _ _ _ _ _ _ _ _ _) = _
  have := main (ds.length + 1) 0 (by omega) (Nat.zero_le _)
  rw [List.take_zero, List.map_nil] at this
  rw [sm, this, fzR_at get_last (Nat.le_refl _) (loL_of fun x hx => by obtain ⟨d, hd, rfl⟩ := List.mem_map.mp hx; exact lo d hd) okB_self]
  simp
/-- a list in the heap as a source -/
theorem src_ls {k : Nat} {ds : List D} (e : h[k]? = some (.lst ds)) : (Src.ls k).ok h = true ∧ (∀ i, (Src.ls k).get h i = ds[i]?) ∧ (Src.ls k).many h = ds.length := by
  have l := lstOf_ref e
  refine ⟨?_, fun i => ?_, ?_⟩
  · show (lstOf h (.ref k)).isSome = true
    rw [l]; rfl
  · show (lstOf h (.ref k)).bind _ = _
    rw [l]; rfl
  · show ((lstOf h (.ref k)).getD []).length = _
    rw [l]; rfl
theorem iSeq_ls {k : Nat} {ds : List D} (e1 : me env h = .ok (.ref k) h) (e : h[k]? = some (.lst ds)) : iSeq me env h = .ok (.ls k) h := by
  rw [ap_iSeq, e1, bind_ok]
  dsimp only
  rw [lstOf_ref e]
  rfl
/-- a for over a source that is read of the heap, whose turns leave the heap -/
theorem for_src_nx {it : MI} {gg : MG} {b : MS} {h2 : IH} {src : Src} {ds : List D} (Q : EV → Prop) (e : it env h = .ok src h2) (o : src.ok h2 = true) (ge : ∀ i, src.get h2 i = ds[i]?) (mn : src.many h2 = ds.length) (q0 : Q env)
    (turn : ∀ (i : Nat) (d : D) (env : EV), ds[i]? = some d → Q env → ∃ e1 e2, gg d env = some e1 ∧ b e1 h2 = .nx e2 h2 ∧ Q e2) : ∃ e2, msFor it gg b env h = .nx e2 h2 ∧ Q e2 := by
  have go : ∀ (m i : Nat) (env : EV), Q env → ds.length < m + i → i ≤ ds.length → ∃ e2, forM src gg b m i env h2 = .nx e2 h2 ∧ Q e2 := by
    intro m
    induction m with
    | zero =>
      intro i env q l l2
      omega
    | succ m ih =>
      intro i env q l l2
      unfold forM
      rw [if_pos o, ge i]
      cases hd : ds[i]? with
      | none => exact ⟨env, rfl, q⟩
      | some d =>
        obtain ⟨e1, e2, g1, g2, q2⟩ := turn i d env hd q
        dsimp only
        rw [g1]
        dsimp only
        rw [g2]
        exact ih (i + 1) e2 q2 (by omega) (List.getElem?_eq_some_iff.mp hd).1
  rw [ap_msFor, e, bindS_ok, mn]
  exact go _ 0 env q0 (by omega) (Nat.zero_le _)
end
end NR

set_option Elab.async false
set_option linter.all false
set_option maxRecDepth 100000
set_option maxHeartbeats 4000000
namespace NR
open PySem PySem.Spec PyProof.Rows L2
/-- a comprehension with a test over a source that is read of the heap -/
theorem lcF_filterS {env : EV} {h : IH} {it : MI} {gg : MG} {t : MT} {m : ME} {ws : List Nat} {src : Src} {ds : List D} (F : D → D) (p : D → Bool) (hi : it env h = .ok src h) (so : ∀ x, src.ok (h ++ [x]) = true) (sg : ∀ x i, src.get (h ++ [x]) i = ds[i]?) (sm : src.many h = ds.length) (hl : ds.length ≤ 9000000) (lo : ∀ d ∈ ds, p d = true → D.lo h.length (F d) = true)
    (step : ∀ d ∈ ds, ∃ e1, gg d (wipeE env ws) = some e1 ∧ (∀ x, t e1 (h ++ [x]) = .ok (p d) (h ++ [x])) ∧ ∀ x, p d = true → m e1 (h ++ [x]) = .ok (F d) (h ++ [x])) : mFz (mLc it gg t m ws) env h = .ok (.fl ((ds.filter p).map F)) h := by
  have main : ∀ k i, i + k = ds.length + 1 → i ≤ ds.length → lcM src gg t m h.length k i (wipeE env ws) (h ++ [Cell.lst (((ds.take i).filter p).map F)]) = .ok (.ref h.length) (h ++ [Cell.lst ((ds.filter p).map F)]) := by
    intro k
    induction k with
    | zero =>
      intro i e l
      omega
    | succ k ih =>
      intro i e l
      unfold lcM
      rw [if_pos (so _), sg]
      cases hd : ds[i]? with
      | none =>
        have := List.getElem?_eq_none_iff.mp hd
        rw [List.take_of_length_le this]
      | some d =>
        have hi' := (List.getElem?_eq_some_iff.mp hd).1
        obtain ⟨e1, g1, s1, s2⟩ := step d (List.mem_of_getElem? hd)
        have nx : ((ds.take (i + 1)).filter p) = (ds.take i).filter p ++ (if p d = true then [d] else []) := by
          rw [List.take_add_one, hd, List.filter_append]
          congr 1
          show [d].filter p = _
          rw [List.filter_cons, List.filter_nil]
        dsimp only
        rw [g1]
        dsimp only
        rw [s1]
        cases hp : p d with
        | true =>
          dsimp only
          rw [s2 _ hp]
          dsimp only
          rw [get_last]
          dsimp only
          have fl := List.length_filter_le p (ds.take i)
          rw [List.length_take] at fl
          rw [if_pos (by rw [List.length_map]; omega), set_app0]
          have := ih (i + 1) (by omega) hi'
          rw [nx, hp, if_pos rfl, List.map_append] at this
          exact this
        | false =>
          dsimp only
          have := ih (i + 1) (by omega) hi'
          rw [nx, hp, if_neg (by simp), List.append_nil] at this
          exact this
  rw [ap_mFz0, ap_mLc, hi]
  show fzR h (lcM _ _ _ _ _ _ _ _ _) = _
  have := main (ds.length + 1) 0 (by omega) (Nat.zero_le _)
  rw [List.take_zero, List.filter_nil, List.map_nil] at this
  rw [sm, this, fzR_at get_last (Nat.le_refl _) (loL_of fun x hx => by
    obtain ⟨d, hd, rfl⟩ := List.mem_map.mp hx
    rw [List.mem_filter] at hd
    exact lo d hd.1 hd.2) okB_self]
  simp
/-! ### split -/
def miss (R : Nat) (B : List Nat) : Nat := ((List.range R).filter fun r => decide (r ∉ B)).length
theorem miss_le {R : Nat} {B : List Nat} (h0 : 0 ∈ B) (r1 : 1 ≤ R) : miss R B + 1 ≤ R := by
  unfold miss
  have h := (List.length_filter_lt_length_iff_exists (p := fun r => decide (r ∉ B)) (l := List.range R)).mpr ⟨0, List.mem_range.mpr (by omega), by simpa using h0⟩
  rw [List.length_range] at h
  omega
theorem miss_add {R t : Nat} {B : List Nat} : miss R (B ++ [t]) ≤ miss R B := by
  unfold miss
  have e : ((List.range R).filter fun r => decide (r ∉ B ++ [t])) = ((List.range R).filter fun r => decide (r ∉ B)).filter fun r => decide (r ≠ t) := by
    rw [List.filter_filter]
    refine List.filter_congr fun r _ => ?_
    simp [not_or, Bool.and_comm]
  rw [e]
  exact List.length_filter_le _ _
theorem miss_new {R t : Nat} {B : List Nat} (ht : t < R) (hn : t ∉ B) : miss R (B ++ [t]) + 1 ≤ miss R B := by
  unfold miss
  have e : ((List.range R).filter fun r => decide (r ∉ B ++ [t])) = ((List.range R).filter fun r => decide (r ∉ B)).filter fun r => decide (r ≠ t) := by
    rw [List.filter_filter]
    refine List.filter_congr fun r _ => ?_
    simp [not_or, Bool.and_comm]
  rw [e]
  exact (List.length_filter_lt_length_iff_exists (p := fun r => decide (r ≠ t))).mpr ⟨t, List.mem_filter.mpr ⟨List.mem_range.mpr ht, by simpa using hn⟩, by simp⟩
/-- the bases so far -/
structure BI (R : Nat) (B : List Nat) : Prop where
  b0 : B[0]? = some 0
  lt : ∀ x ∈ B, x < R
  m : B.length + miss R B ≤ 32
theorem BI.h0 {R : Nat} {B : List Nat} (I : BI R B) : 0 ∈ B := List.mem_of_getElem? I.b0
theorem BI.le {R : Nat} {B : List Nat} (I : BI R B) : B.length ≤ 32 := by have := I.m; omega
theorem BI.push {R t : Nat} {B : List Nat} (I : BI R B) (ht : t < R) (h : t ∉ B ∨ B.length + R ≤ 32) : BI R (B ++ [t]) := by
  refine ⟨?_, fun x hx => ?_, ?_⟩
  · rw [List.getElem?_append_left (List.getElem?_eq_some_iff.mp I.b0).1]
    exact I.b0
  · rcases List.mem_append.mp hx with hx | hx
    · exact I.lt x hx
    · rw [List.mem_singleton] at hx
      subst hx
      exact ht
  · rw [List.length_append, List.length_singleton]
    rcases h with h | h
    · have := miss_new ht h
      have := I.m
      omega
    · have := miss_add (R := R) (t := t) (B := B)
      have := miss_le (R := R) I.h0 (by omega)
      omega
section
variable {z : Cell} {g : IH} {G : List (List Nat)} {K : List Int} {R S : Nat}
abbrev spE (n : Nat) (G : List (List Nat)) (K : List Int) (x5 x6 x7 x8 x9 : Option D) : EV := [some (.ref 1), some (.fl (G.map rF)), some (.fl (K.map D.int)), some (.ref (n + 2)), some (.ref (n + 3)), x5, x6, x7, x8, x9]
abbrev spH (g : IH) (B : List Nat) (RW : List (List Nat)) (J : IH) (acc : List Nat) : IH := g ++ .lst (B.map nD) :: .lst (RW.map rF) :: (J ++ [.lst (acc.map nD)])
theorem ix_eq (B : List Nat) (t : Nat) : ((((B.map nD).mapIdx fun i x => D.tup [.int (i : Nat), x]).filter (fun d => match d with | .tup [_, .int v] => decide (v = (t : Int)) | _ => false)).map (fun d => match d with | .tup [a, _] => a | d => d)) = ((List.range B.length).filter fun i => decide (B[i]? = some t)).map nD := by
  have e : (B.map nD).mapIdx (fun i x => D.tup [.int (i : Nat), x]) = (List.range B.length).map fun i => D.tup [.int (i : Nat), nD (B.getD i 0)] := by
    apply List.ext_getElem?
    intro i
    rw [List.getElem?_mapIdx, List.getElem?_map, List.getElem?_map]
    by_cases h : i < B.length
    · rw [List.getElem?_eq_getElem h, List.getElem?_range h]
      have e0 : B.getD i 0 = B[i] := by rw [List.getD_eq_getElem?_getD, List.getElem?_eq_getElem h]; rfl
      show some (D.tup [D.int (i : Nat), nD B[i]]) = some (D.tup [D.int (i : Nat), nD (B.getD i 0)])
      rw [e0]
    · rw [List.getElem?_eq_none (by omega), List.getElem?_eq_none (by rw [List.length_range]; omega)]
      rfl
  rw [e, List.filter_map, List.map_map]
  have e2 : (List.range B.length).filter ((fun d => match d with | .tup [_, .int v] => decide (v = (t : Int)) | _ => false) ∘ fun i => D.tup [.int (i : Nat), nD (B.getD i 0)]) = (List.range B.length).filter fun i => decide (B[i]? = some t) := by
    refine List.filter_congr fun i hi => ?_
    rw [List.mem_range] at hi
    show decide (((B.getD i 0 : Nat) : Int) = (t : Int)) = _
    rw [List.getD_eq_getElem?_getD, List.getElem?_eq_getElem hi]
    rw [decide_eq_decide]
    simp
    omega
  rw [e2]
  rfl
theorem sp_turn (gk : GOk S R G) (gl : G.length = R) (r32 : R ≤ 32) {b : Nat} {c : Cell} {B : List Nat} {RW : List (List Nat)} {J : IH} {acc : List Nat} (I : BI R B) {t : Nat} (ht : t < R) (al : acc.length ≤ 1000) {x7 x8 x9 : Option D} (hp : Pn (b + 2) c) :
    ∃ (c' : Cell) (B' : List Nat) (a : Nat) (y7 : Option D), b__law_split_3 (spE g.length G K (some (.ref (g.length + 4 + J.length))) (some (nD t)) x7 x8 x9) (z :: c :: spH g B RW J acc) = .nx (spE g.length G K (some (.ref (g.length + 4 + J.length))) (some (nD t)) y7 x8 x9) (z :: c' :: spH g B' RW J (acc ++ [a])) ∧ BI R B' ∧ B.length ≤ B'.length ∧ a < B'.length ∧ (B' = B ∨ B' = B ++ [t] ∧ a = B.length) ∧ Pn b c' := by
  have bl32 := I.le
  generalize hsome : ((List.range B.length).filter fun i => decide (B[i]? = some t)) = SM
  have sm : ∀ x ∈ SM, x < B.length := fun x hx => by
    rw [← hsome, List.mem_filter, List.mem_range] at hx
    exact hx.1
  have sl : SM.length ≤ 32 := by
    rw [← hsome]
    have := List.length_filter_le (fun i => decide (B[i]? = some t)) (List.range B.length)
    rw [List.length_range] at this
    omega
  have se : SM = [] → t ∉ B := fun e hm => by
    obtain ⟨i, hi⟩ := List.mem_iff_getElem?.mp hm
    have : i ∈ SM := by
      rw [← hsome, List.mem_filter, List.mem_range]
      exact ⟨(List.getElem?_eq_some_iff.mp hi).1, by simpa using hi⟩
    rw [e] at this
    cases this
  -- the rooms that are copies of it
  have comp : ∀ c, mFz (mLc (iEnum (mCons (mVar 3) (mNil))) (gSets [8, 9]) t__law_split_1 e__law_split_2 [8, 9]) (spE g.length G K (some (.ref (g.length + 4 + J.length))) (some (nD t)) x7 x8 x9) (z :: c :: spH g B RW J acc) = .ok (.fl (SM.map nD)) (z :: c :: spH g B RW J acc) := fun c => by
    have hb : ∀ X : IH, qOf (z :: c :: (spH g B RW J acc ++ X)) (.ref (g.length + 2)) = some (B.map nD) := fun X => by
      have : (z :: c :: (spH g B RW J acc ++ X))[g.length + 2]? = some (.lst (B.map nD)) := by
        show (spH g B RW J acc ++ X)[g.length]? = _
        unfold spH
        rw [List.append_assoc, get_app0]
        rfl
      exact qOf_ref this
    have en : ∀ X : IH, enumQ (.ref (g.length + 2)) (B.map nD).length (z :: c :: (spH g B RW J acc ++ X)) = some ((B.map nD).mapIdx fun i x => .tup [.int (i : Nat), x]) := fun X => by
      unfold enumQ
      rw [hb]
      dsimp only
      rw [if_pos rfl]
    have := lcF_filterS (env := spE g.length G K (some (.ref (g.length + 4 + J.length))) (some (nD t)) x7 x8 x9) (h := z :: c :: spH g B RW J acc) (it := iEnum (mCons (mVar 3) (mNil))) (gg := gSets [8, 9]) (t := t__law_split_1) (m := e__law_split_2) (ws := [8, 9]) (src := .dy (enumQ (.ref (g.length + 2)) (B.map nD).length)) (ds := (B.map nD).mapIdx fun i x => .tup [.int (i : Nat), x]) (fun d => match d with | .tup [a, _] => a | d => d) (fun d => match d with | .tup [_, .int v] => decide (v = (t : Int)) | _ => false) (by
      unfold iEnum
      have hb0 := hb []
      rw [List.append_nil] at hb0
      rw [ap_mCons]
      show ((NR.R.ok [D.ref (g.length + 2)] (z :: c :: spH g B RW J acc)).bind _) = _
      rw [bind_ok]
      dsimp only [stOf]
      rw [hb0]) (fun x => by
      show (enumQ _ _ (z :: c :: (spH g B RW J acc ++ [x]))).isSome = true
      rw [en]
      rfl) (fun x i => by
      show (enumQ _ _ (z :: c :: (spH g B RW J acc ++ [x]))).bind _ = _
      rw [en]
      rfl) (by
      have en0 := en []
      rw [List.append_nil] at en0
      show ((enumQ _ _ (z :: c :: spH g B RW J acc)).getD []).length = _
      rw [en0]
      rfl) (by rw [List.length_mapIdx, List.length_map]; omega) (fun d hd _ => by
      obtain ⟨j, hj⟩ := List.mem_iff_getElem?.mp hd
      rw [List.getElem?_mapIdx, List.getElem?_map] at hj
      cases q : B[j]? with
      | none => rw [q] at hj; cases hj
      | some x => rw [q] at hj; cases hj; rfl) (fun d hd => by
      obtain ⟨j, hj⟩ := List.mem_iff_getElem?.mp hd
      rw [List.getElem?_mapIdx, List.getElem?_map] at hj
      cases q : B[j]? with
      | none => rw [q] at hj; cases hj
      | some x =>
        rw [q] at hj
        cases hj
        refine ⟨spE g.length G K (some (.ref (g.length + 4 + J.length))) (some (nD t)) x7 (some (.int (j : Nat))) (some (nD x)), rfl, fun w => ?_, fun w _ => ?_⟩
        · show _ = NR.R.ok (decide ((x : Int) = (t : Int))) _
          unfold t__law_split_1 spE
          generalize z :: c :: spH g B RW J acc ++ [w] = H1 at *
          generalize G.map rF = GG at *
          generalize K.map D.int = KK at *
          by_cases q : x = t
          · subst q
            simp [nD]
          · have q' : ¬ (x : Int) = (t : Int) := by omega
            simp [nD, q, q']
        · unfold e__law_split_2 spE
          generalize z :: c :: spH g B RW J acc ++ [w] = H1 at *
          simp)
    rw [this, ix_eq, hsome]
  have lG : (G.map rF).length = R := by rw [List.length_map]; exact gl
  have hB : ∀ c acc', (z :: c :: spH g B RW J acc')[g.length + 2]? = some (.lst (B.map nD)) := fun c acc' => by
    show (spH g B RW J acc')[g.length]? = _
    unfold spH
    rw [get_app0]
    rfl
  have hA : ∀ c B' acc', (z :: c :: spH g B' RW J acc')[g.length + 4 + J.length]? = some (.lst (acc'.map nD)) := fun c B' acc' => by
    rw [show g.length + 4 + J.length = (g.length + 2 + J.length) + 2 by omega]
    show (g ++ Cell.lst (B'.map nD) :: Cell.lst (RW.map rF) :: (J ++ [Cell.lst (acc'.map nD)]))[g.length + 2 + J.length]? = _
    rw [List.getElem?_append_right (by omega), show g.length + 2 + J.length - g.length = J.length + 2 by omega]
    show (J ++ [Cell.lst (acc'.map nD)])[J.length]? = _
    rw [List.getElem?_append_right (Nat.le_refl _), Nat.sub_self]
    rfl
  have sA : ∀ c B' acc' (X : List Nat), (z :: c :: spH g B' RW J acc').set (g.length + 4 + J.length) (.lst (X.map nD)) = z :: c :: spH g B' RW J X := fun c B' acc' X => by
    rw [show g.length + 4 + J.length = (g.length + 2 + J.length) + 2 by omega]
    show z :: c :: (g ++ Cell.lst (B'.map nD) :: Cell.lst (RW.map rF) :: (J ++ [Cell.lst (acc'.map nD)])).set (g.length + 2 + J.length) _ = _
    rw [List.set_append, if_neg (by omega), show g.length + 2 + J.length - g.length = J.length + 2 by omega]
    show z :: c :: (g ++ Cell.lst (B'.map nD) :: Cell.lst (RW.map rF) :: (J ++ [Cell.lst (acc'.map nD)]).set J.length _) = _
    rw [List.set_append, if_neg (by omega), Nat.sub_self]
    rfl
  have sB : ∀ c acc' (X : List Nat), (z :: c :: spH g B RW J acc').set (g.length + 2) (.lst (X.map nD)) = z :: c :: spH g X RW J acc' := fun c acc' X => by
    show z :: c :: (g ++ Cell.lst (B.map nD) :: Cell.lst (RW.map rF) :: (J ++ [Cell.lst (acc'.map nD)])).set g.length _ = _
    rw [set_app0]
    rfl
  have apA : ∀ c B' (a : Nat), fAppend (.ref (g.length + 4 + J.length)) [.int (a : Nat)] (z :: c :: spH g B' RW J acc) = .ok .non (z :: c :: spH g B' RW J (acc ++ [a])) := fun c B' a => by
    have := append_at (y := nD a) (hA c B' acc) (by rw [List.length_map]; omega)
    rw [show acc.map nD ++ [nD a] = (acc ++ [a]).map nD by rw [List.map_append]; rfl, sA] at this
    exact this
  have apB : ∀ c acc', fAppend (.ref (g.length + 2)) [nD t] (z :: c :: spH g B RW J acc') = .ok .non (z :: c :: spH g (B ++ [t]) RW J acc') := fun c acc' => by
    have := append_at (y := nD t) (hB c acc') (by rw [List.length_map]; omega)
    rw [show B.map nD ++ [nD t] = (B ++ [t]).map nD by rw [List.map_append]; rfl, sB] at this
    exact this
  have tyA : ∀ c B' acc', tyD "list" (z :: c :: spH g B' RW J acc') (.ref (g.length + 4 + J.length)) = true := fun c B' acc' => tyD_ref (hA c B' acc')
  have tyB : ∀ c acc', tyD "list" (z :: c :: spH g B RW J acc') (.ref (g.length + 2)) = true := fun c acc' => tyD_ref (hB c acc')
  have bB : ∀ c acc', bLen [.ref (g.length + 2)] (z :: c :: spH g B RW J acc') = .ok (.int (B.length : Nat)) (z :: c :: spH g B RW J acc') := fun c acc' => by
    rw [bLen_ref (hB c acc'), List.length_map]
  have lS : (SM.map nD).length = SM.length := List.length_map ..
  -- a new one
  have newB : ∀ c1, (t ∉ B ∨ B.length + R ≤ 32) → Pn b c1 → (msCons (msExpr (mMeth "list" fAppend (mVar 5) (mCons (mB bLen (mCons (mVar 3) (mNil))) (mNil)))) (msExpr (mMeth "list" fAppend (mVar 3) (mCons (mVar 6) (mNil))))) (spE g.length G K (some (.ref (g.length + 4 + J.length))) (some (nD t)) (some (.fl (SM.map nD))) x8 x9) (z :: c1 :: spH g B RW J acc) = .nx (spE g.length G K (some (.ref (g.length + 4 + J.length))) (some (nD t)) (some (.fl (SM.map nD))) x8 x9) (z :: c1 :: spH g (B ++ [t]) RW J (acc ++ [B.length])) := fun c1 _ _ => by
    have t1 := tyA c1 B acc
    have t2 := tyB c1 (acc ++ [B.length])
    have b1 := bB c1 acc
    have a1 := apA c1 B B.length
    have a2 := apB c1 (acc ++ [B.length])
    unfold spE
    generalize z :: c1 :: spH g (B ++ [t]) RW J (acc ++ [B.length]) = H3 at *
    generalize z :: c1 :: spH g B RW J (acc ++ [B.length]) = H2 at *
    generalize z :: c1 :: spH g B RW J acc = H1 at *
    generalize G.map rF = GG at *
    generalize K.map D.int = KK at *
    generalize SM.map nD = SS at *
    generalize g.length + 4 + J.length = n4 at *
    generalize g.length + 2 = n2 at *
    generalize nD t = TD at *
    simp [t1, t2, b1, a1, a2]
  have head : ∀ (rest : RS), (msIf (mOr (mTb (mOp (dEq false) (mB bLen (mCons (mVar 7) (mNil))) (mC (.int 0)))) (mAnd (mTb (mOp dLe (mOp dAdd (mB bLen (mCons (mVar 3) (mNil))) (mB bLen (mCons (mVar 1) (mNil)))) (mC (.int 32)))) (mTb (mOp (dEq false) (mCall 2 (m__law_take) (mCons (mVar 0) (mCons (mC (.int 4)) (mNil)))) (mC (.int 0)))))) (msCons (msExpr (mMeth "list" fAppend (mVar 5) (mCons (mB bLen (mCons (mVar 3) (mNil))) (mNil))))
    (msExpr (mMeth "list" fAppend (mVar 3) (mCons (mVar 6) (mNil))))) (msExpr (mMeth "list" fAppend (mVar 5) (mCons (mOp dIx (mVar 7) (mCall 2 (m__law_take) (mCons (mVar 0) (mCons (mB bLen (mCons (mVar 7) (mNil))) (mNil))))) (mNil))))) (spE g.length G K (some (.ref (g.length + 4 + J.length))) (some (nD t)) (some (.fl (SM.map nD))) x8 x9) (z :: c :: spH g B RW J acc) = rest → b__law_split_3 (spE g.length G K (some (.ref (g.length + 4 + J.length))) (some (nD t)) x7 x8 x9) (z :: c :: spH g B RW J acc) = rest := fun rest e => by
    unfold b__law_split_3
    refine stS (env2 := spE g.length G K (some (.ref (g.length + 4 + J.length))) (some (nD t)) (some (.fl (SM.map nD))) x8 x9) (h2 := z :: c :: spH g B RW J acc) (by
      have cc := comp c
      generalize mFz (mLc (iEnum (mCons (mVar 3) (mNil))) (gSets [8, 9]) t__law_split_1 e__law_split_2 [8, 9]) = CC at *
      rw [ap_msSet, cc]
      rfl) ?_
    exact e
  -- the three ends
  by_cases s0 : SM = []
  · refine ⟨c, B ++ [t], B.length, some (.fl (SM.map nD)), head _ ?_, I.push ht (.inl (se s0)), by rw [List.length_append]; omega, by rw [List.length_append, List.length_singleton]; omega, .inr ⟨rfl, rfl⟩, hp.mono (by omega)⟩
    have nb := newB c (.inl (se s0)) (hp.mono (by omega))
    generalize (msCons (msExpr (mMeth "list" fAppend (mVar 5) (mCons (mB bLen (mCons (mVar 3) (mNil))) (mNil)))) (msExpr (mMeth "list" fAppend (mVar 3) (mCons (mVar 6) (mNil))))) = NB at *
    have ct : (mOr (mTb (mOp (dEq false) (mB bLen (mCons (mVar 7) (mNil))) (mC (.int 0)))) (mAnd (mTb (mOp dLe (mOp dAdd (mB bLen (mCons (mVar 3) (mNil))) (mB bLen (mCons (mVar 1) (mNil)))) (mC (.int 32)))) (mTb (mOp (dEq false) (mCall 2 (m__law_take) (mCons (mVar 0) (mCons (mC (.int 4)) (mNil)))) (mC (.int 0)))))) (spE g.length G K (some (.ref (g.length + 4 + J.length))) (some (nD t)) (some (.fl (SM.map nD))) x8 x9) (z :: c :: spH g B RW J acc) = .ok true (z :: c :: spH g B RW J acc) := by
      unfold spE
      rw [s0]
      generalize z :: c :: spH g B RW J acc = H1 at *
      simp
    rw [ap_msIf, ct, bindS_ok, if_pos rfl]
    exact nb
  · have sp : 0 < SM.length := List.length_pos_iff.mpr s0
    -- the copy
    have old : ∀ c1, Pn (b + 1) c1 → ∃ c2 a, (msExpr (mMeth "list" fAppend (mVar 5) (mCons (mOp dIx (mVar 7) (mCall 2 (m__law_take) (mCons (mVar 0) (mCons (mB bLen (mCons (mVar 7) (mNil))) (mNil))))) (mNil)))) (spE g.length G K (some (.ref (g.length + 4 + J.length))) (some (nD t)) (some (.fl (SM.map nD))) x8 x9) (z :: c1 :: spH g B RW J acc) = .nx (spE g.length G K (some (.ref (g.length + 4 + J.length))) (some (nD t)) (some (.fl (SM.map nD))) x8 x9) (z :: c2 :: spH g B RW J (acc ++ [a])) ∧ a < B.length ∧ Pn b c2 := fun c1 p1 => by
      obtain ⟨v, c2, e2, v1, p2⟩ := draw_call (b := b) (z := z) (x := c1) (t := spH g B RW J acc) (m := (SM.length : Nat)) p1 (by omega) (by omega)
      have hv : v < SM.length := by omega
      have ix : dIx (.fl (SM.map nD)) (.int (v : Nat)) (z :: c2 :: spH g B RW J acc) = .ok (.int (SM[v] : Nat)) (z :: c2 :: spH g B RW J acc) := dIx_nat (xs := SM.map nD) rfl (by rw [List.getElem?_map, List.getElem?_eq_getElem hv]; rfl)
      have lt := sm _ (List.getElem_mem hv)
      generalize SM[v] = a at *
      refine ⟨c2, a, ?_, lt, p2⟩
      have t1 := tyA c1 B acc
      have a1 := apA c2 B a
      unfold spE
      generalize z :: c2 :: spH g B RW J (acc ++ [a]) = H3 at *
      generalize z :: c2 :: spH g B RW J acc = H2 at *
      generalize z :: c1 :: spH g B RW J acc = H1 at *
      generalize G.map rF = GG at *
      generalize K.map D.int = KK at *
      generalize SM.map nD = SS at *
      generalize SM.length = SL at *
      generalize g.length + 4 + J.length = n4 at *
      simp [t1, lS, e2, ix, a1]
    by_cases lim : B.length + R ≤ 32
    · obtain ⟨w, c1, e1, w1, p1⟩ := draw_call (b := b + 1) (z := z) (x := c) (t := spH g B RW J acc) (m := 4) hp (by omega) (by omega)
      have lim' : ((B.length : Nat) : Int) + ((R : Nat) : Int) ≤ 32 := by omega
      have sp' : ¬ SM.length = 0 := by omega
      have ct : (mOr (mTb (mOp (dEq false) (mB bLen (mCons (mVar 7) (mNil))) (mC (.int 0)))) (mAnd (mTb (mOp dLe (mOp dAdd (mB bLen (mCons (mVar 3) (mNil))) (mB bLen (mCons (mVar 1) (mNil)))) (mC (.int 32)))) (mTb (mOp (dEq false) (mCall 2 (m__law_take) (mCons (mVar 0) (mCons (mC (.int 4)) (mNil)))) (mC (.int 0)))))) (spE g.length G K (some (.ref (g.length + 4 + J.length))) (some (nD t)) (some (.fl (SM.map nD))) x8 x9) (z :: c :: spH g B RW J acc) = .ok (decide (w = 0)) (z :: c1 :: spH g B RW J acc) := by
        have b1 := bB c acc
        unfold spE
        generalize z :: c1 :: spH g B RW J acc = H2 at *
        generalize z :: c :: spH g B RW J acc = H1 at *
        generalize G.map rF = GG at *
        generalize K.map D.int = KK at *
        generalize SM.map nD = SS at *
        generalize g.length + 2 = n2 at *
        by_cases w0 : w = 0
        · subst w0
          rw [show ((0 : Nat) : Int) = 0 from rfl] at e1
          simp [lS, sp', b1, lG, lim', e1]
        · have w0' : ¬ (w : Int) = 0 := by omega
          simp [lS, sp', b1, lG, lim', e1, w0, w0']
      by_cases w0 : w = 0
      · refine ⟨c1, B ++ [t], B.length, some (.fl (SM.map nD)), head _ ?_, I.push ht (.inr lim), by rw [List.length_append]; omega, by rw [List.length_append, List.length_singleton]; omega, .inr ⟨rfl, rfl⟩, p1.mono (by omega)⟩
        have nb := newB c1 (.inr lim) (p1.mono (by omega))
        rw [ap_msIf, ct, bindS_ok, decide_eq_true w0, if_pos rfl]
        exact nb
      · obtain ⟨c2, a, e2, lt, p2⟩ := old c1 p1
        refine ⟨c2, B, a, some (.fl (SM.map nD)), head _ ?_, I, Nat.le_refl _, lt, .inl rfl, p2⟩
        rw [ap_msIf, ct, bindS_ok, decide_eq_false w0, if_neg (by simp)]
        exact e2
    · have lim' : ¬ ((B.length : Nat) : Int) + ((R : Nat) : Int) ≤ 32 := by omega
      have sp' : ¬ SM.length = 0 := by omega
      have ct : (mOr (mTb (mOp (dEq false) (mB bLen (mCons (mVar 7) (mNil))) (mC (.int 0)))) (mAnd (mTb (mOp dLe (mOp dAdd (mB bLen (mCons (mVar 3) (mNil))) (mB bLen (mCons (mVar 1) (mNil)))) (mC (.int 32)))) (mTb (mOp (dEq false) (mCall 2 (m__law_take) (mCons (mVar 0) (mCons (mC (.int 4)) (mNil)))) (mC (.int 0)))))) (spE g.length G K (some (.ref (g.length + 4 + J.length))) (some (nD t)) (some (.fl (SM.map nD))) x8 x9) (z :: c :: spH g B RW J acc) = .ok false (z :: c :: spH g B RW J acc) := by
        have b1 := bB c acc
        unfold spE
        generalize z :: c :: spH g B RW J acc = H1 at *
        generalize G.map rF = GG at *
        generalize K.map D.int = KK at *
        generalize SM.map nD = SS at *
        generalize g.length + 2 = n2 at *
        simp [lS, sp', b1, lG, lim']
      obtain ⟨c2, a, e2, lt, p2⟩ := old c (hp.mono (by omega))
      refine ⟨c2, B, a, some (.fl (SM.map nD)), head _ ?_, I, Nat.le_refl _, lt, .inl rfl, p2⟩
      rw [ap_msIf, ct, bindS_ok, if_neg (by simp)]
      exact e2
end
end NR

set_option Elab.async false
set_option linter.all false
set_option maxRecDepth 100000
set_option maxHeartbeats 4000000
namespace NR
open PySem PySem.Spec PyProof.Rows L2
section
variable {z : Cell} {g : IH} {G : List (List Nat)} {K : List Int} {R S : Nat}
/-- each base but the first is led to of an earlier row -/
def RI (n : Nat) (RW : List (List Nat)) : Prop := ∀ i, 0 < i → i < n → ∃ j row, j < i ∧ RW[j]? = some row ∧ i ∈ row
theorem sp_row (gk : GOk S R G) (gl : G.length = R) (r32 : R ≤ 32) {RW : List (List Nat)} {J : IH} {x8 x9 : Option D} : ∀ (row : List Nat) (b : Nat) (c : Cell) (B acc : List Nat) (x6 x7 : Option D), BI R B → RW.length < B.length → RI B.length (RW ++ [acc]) → (∀ t ∈ row, t < R) → acc.length + row.length ≤ 1000 → (∀ a ∈ acc, a < B.length) → Pn (b + 2 * row.length) c →
    ∃ (c' : Cell) (B' acc' : List Nat) (y6 y7 : Option D), forL (gSet 6) b__law_split_3 (row.map nD) (spE g.length G K (some (.ref (g.length + 4 + J.length))) x6 x7 x8 x9) (z :: c :: spH g B RW J acc) = .nx (spE g.length G K (some (.ref (g.length + 4 + J.length))) y6 y7 x8 x9) (z :: c' :: spH g B' RW J acc') ∧ BI R B' ∧ B.length ≤ B'.length ∧ acc'.length = acc.length + row.length ∧ (∀ a ∈ acc', a < B'.length) ∧ RI B'.length (RW ++ [acc']) ∧ Pn b c'
  | [], b, c, B, acc, x6, x7, I, _, ri, _, _, ha, hp => ⟨c, B, acc, x6, x7, rfl, I, Nat.le_refl _, rfl, ha, ri, hp⟩
  | t :: row, b, c, B, acc, x6, x7, I, wl, ri, ht, hl, ha, hp => by
    rw [List.length_cons] at hl hp
    obtain ⟨c1, B1, a, y7, e1, I1, l1, a1, bb, p1⟩ := sp_turn (z := z) (g := g) (K := K) gk gl r32 (b := b + 2 * row.length) (c := c) (RW := RW) (J := J) (acc := acc) I (ht t List.mem_cons_self) (by omega) (x7 := x7) (x8 := x8) (x9 := x9) (hp.mono (by omega))
    have ri1 : RI B1.length (RW ++ [acc ++ [a]]) := fun i i0 hi => by
      by_cases q : i < B.length
      · obtain ⟨j, row', h1, h2, h3⟩ := ri i i0 q
        by_cases qj : j < RW.length
        · rw [List.getElem?_append_left qj] at h2
          exact ⟨j, row', h1, by rw [List.getElem?_append_left qj]; exact h2, h3⟩
        · rw [List.getElem?_append_right (by omega)] at h2
          have j0 : j - RW.length = 0 := by
            have := (List.getElem?_eq_some_iff.mp h2).1
            rw [List.length_singleton] at this
            omega
          rw [j0] at h2
          cases h2
          exact ⟨j, acc ++ [a], h1, by rw [List.getElem?_append_right (by omega), j0]; rfl, List.mem_append_left _ h3⟩
      · rcases bb with rfl | ⟨rfl, rfl⟩
        · omega
        · rw [List.length_append, List.length_singleton] at hi
          have : i = B.length := by omega
          subst this
          exact ⟨RW.length, acc ++ [B.length], wl, by rw [List.getElem?_append_right (Nat.le_refl _), Nat.sub_self]; rfl, by simp⟩
    obtain ⟨c2, B2, acc2, y6, y7', e2, I2, l2, l3, a2, ri2, p2⟩ := sp_row gk gl r32 row b c1 B1 (acc ++ [a]) (some (nD t)) y7 I1 (by omega) ri1 (fun q hq => ht q (List.mem_cons_of_mem _ hq)) (by rw [List.length_append, List.length_singleton]; omega) (fun q hq => by
      rcases List.mem_append.mp hq with hq | hq
      · have := ha q hq; omega
      · rw [List.mem_singleton] at hq; omega) p1
    refine ⟨c2, B2, acc2, y6, y7', ?_, I2, by omega, by rw [l3, List.length_append, List.length_singleton, List.length_cons]; omega, a2, ri2, p2⟩
    rw [List.map_cons, forL_cons (e1 := spE g.length G K (some (.ref (g.length + 4 + J.length))) (some (nD t)) x7 x8 x9) rfl, e1, on_nx, e2]
abbrev spW (g : IH) (B : List Nat) (RW : List (List Nat)) (J : IH) : IH := g ++ .lst (B.map nD) :: .lst (RW.map rF) :: J
theorem sp_loop (gk : GOk S R G) (gl : G.length = R) (r32 : R ≤ 32) (s6 : S ≤ 6) {x8 x9 : Option D} : ∀ (n b : Nat) (c : Cell) (B : List Nat) (RW : List (List Nat)) (J : IH) (x5 x6 x7 : Option D), 32 ≤ RW.length + n → RW.length ≤ B.length → BI R B → RI B.length RW → GOk S B.length RW → Pn (b + 12 * n) c →
    ∃ (c' : Cell) (B' : List Nat) (RW' : List (List Nat)) (J' : IH) (y5 y6 y7 : Option D), msWhile t__law_split_4 b__law_split_5 (spE g.length G K x5 x6 x7 x8 x9) (z :: c :: spW g B RW J) = .nx (spE g.length G K y5 y6 y7 x8 x9) (z :: c' :: spW g B' RW' J') ∧ BI R B' ∧ RW'.length = B'.length ∧ RI B'.length RW' ∧ GOk S B'.length RW' ∧ Pn b c' := by
  have t4 : ∀ (c : Cell) (B : List Nat) (RW : List (List Nat)) (J : IH) (x5 x6 x7 : Option D), t__law_split_4 (spE g.length G K x5 x6 x7 x8 x9) (z :: c :: spW g B RW J) = .ok (decide (RW.length < B.length)) (z :: c :: spW g B RW J) := fun c B RW J x5 x6 x7 => by
    have b1 : bLen [.ref (g.length + 3)] (z :: c :: spW g B RW J) = .ok (.int (RW.length : Nat)) (z :: c :: spW g B RW J) := by
      rw [bLen_ref (n := g.length + 3) (xs := RW.map rF) (by
        show (spW g B RW J)[g.length + 1]? = _
        unfold spW
        rw [get_app]
        rfl), List.length_map]
    have b2 : bLen [.ref (g.length + 2)] (z :: c :: spW g B RW J) = .ok (.int (B.length : Nat)) (z :: c :: spW g B RW J) := by
      rw [bLen_ref (n := g.length + 2) (xs := B.map nD) (by
        show (spW g B RW J)[g.length]? = _
        unfold spW
        rw [get_app0]
        rfl), List.length_map]
    unfold t__law_split_4 spE
    generalize z :: c :: spW g B RW J = H1 at *
    generalize G.map rF = GG at *
    generalize K.map D.int = KK at *
    generalize g.length + 3 = n3 at *
    generalize g.length + 2 = n2 at *
    simp [b1, b2]
  intro n
  induction n with
  | zero =>
    intro b c B RW J x5 x6 x7 hn hl I ri gw hp
    have := I.le
    refine ⟨c, B, RW, J, x5, x6, x7, ?_, I, by omega, ri, gw, hp⟩
    rw [msWhile_eq, t4, decide_eq_false (by omega)]
  | succ n ih =>
    intro b c B RW J x5 x6 x7 hn hl I ri gw hp
    by_cases q : RW.length < B.length
    · have hb : B[RW.length]? = some B[RW.length] := List.getElem?_eq_getElem q
      have lt := I.lt _ (List.getElem_mem q)
      generalize B[RW.length] = base at *
      have hg : G[base]? = some G[base] := List.getElem?_eq_getElem (by omega)
      have rok := gk _ (List.getElem_mem (show base < G.length by omega))
      generalize G[base] = row at *
      obtain ⟨c1, B1, acc, y6, y7, e1, I1, l1, l2, a1, ri1, p1⟩ := sp_row (z := z) (g := g) (K := K) gk gl r32 (RW := RW) (J := J) (x8 := x8) (x9 := x9) row (b + 12 * n) c B [] x6 x7 I q (fun i i0 hi => by
        obtain ⟨j, row', h1, h2, h3⟩ := ri i i0 hi
        exact ⟨j, row', h1, by rw [List.getElem?_append_left (List.getElem?_eq_some_iff.mp h2).1]; exact h2, h3⟩) rok.2 (by rw [List.length_nil]; omega) (by simp) (hp.mono (by omega))
      rw [List.length_nil, Nat.zero_add] at l2
      have gw1 : GOk S B1.length (RW ++ [acc]) := fun r hr => by
        rcases List.mem_append.mp hr with hr | hr
        · exact ⟨(gw r hr).1, fun x hx => by have := (gw r hr).2 x hx; omega⟩
        · rw [List.mem_singleton] at hr
          subst hr
          exact ⟨by omega, a1⟩
      obtain ⟨c2, B2, RW2, J2, z5, z6, z7, e2, I2, k1, ri2, gw2, p2⟩ := ih b c1 B1 (RW ++ [acc]) (J ++ [.frz (acc.map nD)]) (some (.fl (acc.map nD))) y6 y7 (by rw [List.length_append, List.length_singleton]; omega) (by rw [List.length_append, List.length_singleton]; omega) I1 ri1 gw1 p1
      refine ⟨c2, B2, RW2, J2, z5, z6, z7, ?_, I2, k1, ri2, gw2, p2⟩
      rw [msWhile_eq, t4, decide_eq_true q]
      dsimp only
      have body : b__law_split_5 (spE g.length G K x5 x6 x7 x8 x9) (z :: c :: spW g B RW J) = .nx (spE g.length G K (some (.fl (acc.map nD))) y6 y7 x8 x9) (z :: c1 :: spW g B1 (RW ++ [acc]) (J ++ [.frz (acc.map nD)])) := by
        unfold b__law_split_5
        refine stS (env2 := spE g.length G K (some (.ref (g.length + 4 + J.length))) x6 x7 x8 x9) (h2 := z :: c :: spH g B RW J []) (by
          have lh : (z :: c :: spW g B RW J).length = g.length + 4 + J.length := by
            simp only [spW, List.length_cons, List.length_append]
            omega
          have eh : (z :: c :: spW g B RW J) ++ [.lst []] = z :: c :: spH g B RW J [] := by
            simp [spW, spH]
          rw [ap_msSet, ap_mLst, ap_mNil, bind_ok]
          rw [if_pos (by simp), newL_bindS, lh, eh]
          rfl) ?_
        refine stS (env2 := spE g.length G K (some (.ref (g.length + 4 + J.length))) y6 y7 x8 x9) (h2 := z :: c1 :: spH g B1 RW J acc) ?_ ?_
        · refine (for_st (ds := row.map nD) (h2 := z :: c :: spH g B RW J []) ?_).trans e1
          have b1 : bLen [.ref (g.length + 3)] (z :: c :: spH g B RW J []) = .ok (.int (RW.length : Nat)) (z :: c :: spH g B RW J []) := by
            rw [bLen_ref (n := g.length + 3) (xs := RW.map rF) (by
              show (spH g B RW J [])[g.length + 1]? = _
              unfold spH
              rw [get_app]
              rfl), List.length_map]
          have i1 : dIx (.ref (g.length + 2)) (.int (RW.length : Nat)) (z :: c :: spH g B RW J []) = .ok (.int (base : Nat)) (z :: c :: spH g B RW J []) := dIx_nat (xs := B.map nD) (seqOf_ref (by
            show (spH g B RW J [])[g.length]? = _
            unfold spH
            rw [get_app0]
            rfl)) (by rw [List.getElem?_map, hb]; rfl)
          have i2 : dIx (.fl (G.map rF)) (.int (base : Nat)) (z :: c :: spH g B RW J []) = .ok (.fl (row.map nD)) (z :: c :: spH g B RW J []) := dIx_nat (xs := G.map rF) rfl (by rw [List.getElem?_map, hg]; rfl)
          unfold spE
          generalize z :: c :: spH g B RW J [] = H1 at *
          generalize G.map rF = GG at *
          generalize K.map D.int = KK at *
          generalize row.map nD = RR at *
          generalize g.length + 3 = n3 at *
          generalize g.length + 2 = n2 at *
          simp [b1, i1, i2]
        · have hA : (z :: c1 :: spH g B1 RW J acc)[g.length + 4 + J.length]? = some (.lst (acc.map nD)) := by
            rw [show g.length + 4 + J.length = (g.length + 2 + J.length) + 2 by omega]
            show (g ++ Cell.lst (B1.map nD) :: Cell.lst (RW.map rF) :: (J ++ [Cell.lst (acc.map nD)]))[g.length + 2 + J.length]? = _
            rw [List.getElem?_append_right (by omega), show g.length + 2 + J.length - g.length = J.length + 2 by omega]
            show (J ++ [Cell.lst (acc.map nD)])[J.length]? = _
            rw [List.getElem?_append_right (Nat.le_refl _), Nat.sub_self]
            rfl
          rw [ap_msFz (n := g.length + 4 + J.length) (xs := acc.map nD) rfl hA]
          have sA : (z :: c1 :: spH g B1 RW J acc).set (g.length + 4 + J.length) (.frz (acc.map nD)) = z :: c1 :: spW g B1 RW (J ++ [.frz (acc.map nD)]) := by
            rw [show g.length + 4 + J.length = (g.length + 2 + J.length) + 2 by omega]
            show z :: c1 :: (g ++ Cell.lst (B1.map nD) :: Cell.lst (RW.map rF) :: (J ++ [Cell.lst (acc.map nD)])).set (g.length + 2 + J.length) _ = _
            rw [List.set_append, if_neg (by omega), show g.length + 2 + J.length - g.length = J.length + 2 by omega]
            show z :: c1 :: (g ++ Cell.lst (B1.map nD) :: Cell.lst (RW.map rF) :: (J ++ [Cell.lst (acc.map nD)]).set J.length _) = _
            rw [List.set_append, if_neg (by omega), Nat.sub_self]
            rfl
          rw [sA]
          have hR : (z :: c1 :: spW g B1 RW (J ++ [.frz (acc.map nD)]))[g.length + 3]? = some (.lst (RW.map rF)) := by
            show (spW g B1 RW (J ++ [.frz (acc.map nD)]))[g.length + 1]? = _
            unfold spW
            rw [get_app]
            rfl
          have lb1 := I1.le
          have apR : fAppend (.ref (g.length + 3)) [.fl (acc.map nD)] (z :: c1 :: spW g B1 RW (J ++ [.frz (acc.map nD)])) = .ok .non (z :: c1 :: spW g B1 (RW ++ [acc]) (J ++ [.frz (acc.map nD)])) := by
            have := append_at (y := rF acc) hR (by rw [List.length_map]; omega)
            rw [show RW.map rF ++ [rF acc] = (RW ++ [acc]).map rF by rw [List.map_append]; rfl] at this
            have sR : (z :: c1 :: spW g B1 RW (J ++ [.frz (acc.map nD)])).set (g.length + 3) (.lst ((RW ++ [acc]).map rF)) = z :: c1 :: spW g B1 (RW ++ [acc]) (J ++ [.frz (acc.map nD)]) := by
              show z :: c1 :: (spW g B1 RW (J ++ [.frz (acc.map nD)])).set (g.length + 1) _ = _
              unfold spW
              rw [set_app]
              rfl
            rw [sR] at this
            exact this
          have ty := tyD_ref hR
          unfold spE
          rw [show ([some (D.ref 1), some (.fl (G.map rF)), some (.fl (K.map D.int)), some (.ref (g.length + 2)), some (.ref (g.length + 3)), some (.ref (g.length + 4 + J.length)), y6, y7, x8, x9] : EV).set 5 (some (.fl (acc.map nD))) = [some (D.ref 1), some (.fl (G.map rF)), some (.fl (K.map D.int)), some (.ref (g.length + 2)), some (.ref (g.length + 3)), some (.fl (acc.map nD)), y6, y7, x8, x9] from rfl]
          generalize z :: c1 :: spW g B1 (RW ++ [acc]) (J ++ [.frz (acc.map nD)]) = H2 at *
          generalize z :: c1 :: spW g B1 RW (J ++ [.frz (acc.map nD)]) = H1 at *
          generalize G.map rF = GG at *
          generalize K.map D.int = KK at *
          generalize acc.map nD = AA at *
          generalize g.length + 3 = n3 at *
          generalize g.length + 2 = n2 at *
          simp [ty, apR]
      rw [body]
      exact e2
    · refine ⟨c, B, RW, J, x5, x6, x7, ?_, I, by omega, ri, gw, hp.mono (by omega)⟩
      rw [msWhile_eq, t4, decide_eq_false q]
/-- what split tells: rows, kinds -/
theorem split2_call (gk : GOk S R G) (gl : G.length = R) (kl : K.length = R) (r1 : 1 ≤ R) (r32 : R ≤ 32) (s6 : S ≤ 6) {b : Nat} {c : Cell} (hp : Pn (b + 400) c) :
    ∃ (B : List Nat) (RW : List (List Nat)) (c' : Cell), callC 3 m__law_split [.ref 1, .fl (G.map rF), .fl (K.map D.int)] (z :: c :: g) = .ok (.tup [.fl (RW.map rF), .fl ((B.map fun x => K.getD x 0).map D.int)]) (z :: c' :: g) ∧ BI R B ∧ RW.length = B.length ∧ RI B.length RW ∧ GOk S B.length RW ∧ Pn b c' := by
  have I0 : BI R [0] := ⟨rfl, fun x hx => by rw [List.mem_singleton] at hx; omega, by
    have := miss_le (R := R) (B := [0]) (by simp) r1
    rw [List.length_singleton]
    omega⟩
  obtain ⟨c', B, RW, J, y5, y6, y7, e, I, l, ri, gw, p⟩ := sp_loop (z := z) (g := g) (K := K) gk gl r32 s6 (x8 := none) (x9 := none) 32 b c [0] [] [] none none none (by simp) (by simp) I0 (fun i i0 hi => by rw [List.length_singleton] at hi; omega) (fun r hr => by simp at hr) (hp.mono (by omega))
  have lb := I.le
  refine ⟨B, RW, c', callC_pen (g' := Cell.lst (B.map nD) :: Cell.frz (RW.map rF) :: J) rfl ?_ (fun k _ => ?_) (fun k _ => p.lo k), I, l, ri, gw, p⟩
  · unfold m__law_split
    rw [ap_fnM]
    simp only [List.map_cons, List.map_nil, List.length_cons, List.length_nil, List.cons_append, List.nil_append, Nat.reduceAdd, Nat.reduceSub, List.replicate]
    refine stN (env2 := [some (.ref 1), some (.fl (G.map rF)), some (.fl (K.map D.int)), some (.ref (g.length + 2)), none, none, none, none, none, none]) (h2 := z :: c :: (g ++ [.lst [.int 0]])) (by
      generalize G.map rF = GG at *
      generalize K.map D.int = KK at *
      simp [newL]) ?_
    refine stN (env2 := spE g.length G K none none none none none) (h2 := z :: c :: spW g [0] [] []) (by
      unfold spE spW
      generalize G.map rF = GG at *
      generalize K.map D.int = KK at *
      simp [newL, nD]) ?_
    refine stN e ?_
    have hR : (z :: c' :: spW g B RW J)[g.length + 3]? = some (.lst (RW.map rF)) := by
      show (spW g B RW J)[g.length + 1]? = _
      unfold spW
      rw [get_app]
      rfl
    rw [ap_msFz (n := g.length + 3) (xs := RW.map rF) rfl hR]
    have s1 : (z :: c' :: spW g B RW J).set (g.length + 3) (.frz (RW.map rF)) = z :: c' :: (g ++ Cell.lst (B.map nD) :: .frz (RW.map rF) :: J) := by
      show z :: c' :: (spW g B RW J).set (g.length + 1) _ = _
      unfold spW
      rw [set_app]
      rfl
    rw [s1]
    show ((msRet _) [some (.ref 1), some (.fl (G.map rF)), some (.fl (K.map D.int)), some (.ref (g.length + 2)), some (.fl (RW.map rF)), y5, y6, y7, none, none] _).fin = _
    have hB : ∀ X : IH, (z :: c' :: (g ++ Cell.lst (B.map nD) :: .frz (RW.map rF) :: J) ++ X)[g.length + 2]? = some (.lst (B.map nD)) := fun X => by
      show (g ++ Cell.lst (B.map nD) :: .frz (RW.map rF) :: J ++ X)[g.length]? = _
      rw [List.append_assoc, get_app0]
      rfl
    have lB : ∀ X : IH, lstOf (z :: c' :: (g ++ Cell.lst (B.map nD) :: .frz (RW.map rF) :: J) ++ X) (.ref (g.length + 2)) = some (B.map nD) := fun X => lstOf_ref (hB X)
    have lB0 := lB []
    rw [List.append_nil] at lB0
    have comp := lcF_mapS (it := iSeq (mVar 3)) (ws := [9]) (gg := gSet 9) (m := e__law_split_6) (src := .ls (g.length + 2)) (ds := B.map nD) (h := z :: c' :: (g ++ Cell.lst (B.map nD) :: .frz (RW.map rF) :: J)) (env := [some (.ref 1), some (.fl (G.map rF)), some (.fl (K.map D.int)), some (.ref (g.length + 2)), some (.fl (RW.map rF)), y5, y6, y7, none, none]) (fun d => match d with | .int i => .int (K.getD i.toNat 0) | d => d) (by
      show (if (lstOf _ (.ref (g.length + 2))).isSome then _ else _) = _
      rw [lB0]
      rfl) (fun x => by
      show (lstOf _ (.ref (g.length + 2))).isSome = true
      rw [lB]
      rfl) (fun x i => by
      show (lstOf _ (.ref (g.length + 2))).bind _ = _
      rw [lB]
      rfl) (by
      show ((lstOf _ (.ref (g.length + 2))).getD []).length = _
      rw [lB0]
      rfl) (by rw [List.length_map]; omega) (fun d hd => by
      obtain ⟨q, _, rfl⟩ := List.mem_map.mp hd
      rfl) (fun d hd => by
      obtain ⟨q, hq, rfl⟩ := List.mem_map.mp hd
      refine ⟨_, rfl, fun w => ?_⟩
      have hq2 := I.lt q hq
      have ik : ∀ h : IH, dIx (.fl (K.map D.int)) (.int (q : Nat)) h = .ok (.int (K.getD q 0)) h := fun h => dIx_nat (xs := K.map D.int) rfl (by rw [List.getElem?_map, List.getElem?_eq_getElem (by omega), List.getD_eq_getElem?_getD, List.getElem?_eq_getElem (by omega)]; rfl)
      unfold e__law_split_6
      clear hB lB lB0
      generalize z :: c' :: (g ++ Cell.lst (B.map nD) :: .frz (RW.map rF) :: J) ++ [w] = H1 at *
      generalize G.map rF = GG at *
      generalize K.map D.int = KK at *
      generalize RW.map rF = RR at *
      simp [nD, wipeE, ik])
    have em : (B.map nD).map (fun d => match d with | .int i => D.int (K.getD i.toNat 0) | d => d) = (B.map fun x => K.getD x 0).map D.int := by
      rw [List.map_map, List.map_map]
      rfl
    rw [em] at comp
    clear hB lB lB0
    generalize mFz (mLc (iSeq (mVar 3)) (gSet 9) mYes e__law_split_6 [9]) = CC at *
    generalize z :: c' :: (g ++ Cell.lst (B.map nD) :: .frz (RW.map rF) :: J) = H1 at *
    generalize G.map rF = GG at *
    generalize K.map D.int = KK at *
    generalize (B.map fun x => K.getD x 0).map D.int = KB at *
    generalize RW.map rF = RR at *
    simp [comp]
  · have a1 : ∀ r : List Nat, D.lo k (rF r) = true := fun r => by unfold rF; simp
    simp [a1]
end
end NR

set_option Elab.async false
set_option linter.all false
set_option maxRecDepth 100000
set_option maxHeartbeats 4000000
namespace NR
open PySem PySem.Spec PyProof.Rows L2
/-! ### a table made by copies -/
theorem led_shT {t M : List Nat} {RW : List (List Nat)} {K : List Int} {n : Nat} (pm : M.Perm (List.range n)) (m0 : M[0]? = some 0) (rl : RW.length = n) (ri : RI n RW) : ∀ r, r < (shT t RW K M).goes.length → Led (shT t RW K M).goes r := by
  have ml : M.length = n := by rw [pm.length_eq, List.length_range]
  have nd : M.Nodup := pm.symm.nodup List.nodup_range
  have gl : (shT t RW K M).goes.length = n := by unfold shT; simp [ml]
  have ge : ∀ j, j < n → (shT t RW K M).goes[M.getD j 0]? = some (nr M (RW.getD j [])) := fun j hj => by
    have e := get_getD (l := M) (i := j) (by omega)
    have hm := List.mem_range.mp (pm.mem_iff.mp (List.mem_of_getElem? e))
    unfold shT
    rw [List.getElem?_map, List.getElem?_range (by omega)]
    show some (nr M (RW.getD (M.idxOf (M.getD j 0)) [])) = _
    rw [idx_nodup nd e]
  have main : ∀ k i, i ≤ k → i < n → Led (shT t RW K M).goes (M.getD i 0) := by
    intro k
    induction k with
    | zero =>
      intro i hi hn
      have : i = 0 := by omega
      subst this
      rw [List.getD_eq_getElem?_getD, m0]
      exact Led.zero
    | succ k ih =>
      intro i hi hn
      by_cases q : i = 0
      · exact ih i (by omega) hn
      · obtain ⟨j, row, h1, h2, h3⟩ := ri i (by omega) hn
        have lj := ih j (by omega) (by omega)
        have e := ge j (by omega)
        rw [List.getD_eq_getElem?_getD (l := RW), h2] at e
        obtain ⟨k2, hk2⟩ := List.mem_iff_getElem?.mp h3
        refine Led.step (k := k2) lj e ?_
        show (row.map fun x => M.getD x 0)[k2]? = _
        rw [List.getElem?_map, hk2]
        rfl
  intro r hr
  rw [gl] at hr
  have hm : r ∈ M := pm.mem_iff.mpr (List.mem_range.mpr hr)
  have hi := List.idxOf_lt_length_iff.mpr hm
  have := main n (M.idxOf r) (by omega) (by omega)
  have e : M.getD (M.idxOf r) 0 = r := by
    rw [List.getD_eq_getElem?_getD, List.getElem?_eq_getElem hi]
    exact List.getElem_idxOf hi
  rwa [e] at this
theorem copied_call {b : Nat} {z c : Cell} {g : IH} (hp : Pn (b + 1000) c) : ∃ (T : Tb) (c' : Cell), callC 1 m__law_copied [.ref 1] (z :: c :: g) = .ok T.enc (z :: c' :: g) ∧ T.Ok ∧ (∀ r, r < T.goes.length → Led T.goes r) ∧ Pn b c' := by
  obtain ⟨t, c1, e1, tg, p1⟩ := tongue_call (b := b + 990) (z := z) (c := c) (g := g) (hp.mono (by omega))
  obtain ⟨u, c2, e2, u1, p2⟩ := draw_call (b := b + 989) (z := z) (x := c1) (t := g) (m := 5) (p1.mono (by omega)) (by omega) (by omega)
  obtain ⟨v, c3, e3, v1, p3⟩ := draw_call (b := b + 988) (z := z) (x := c2) (t := g) (m := 6) p2 (by omega) (by omega)
  obtain ⟨w, c4, e4, w1, p4⟩ := draw_call (b := b + 987) (z := z) (x := c3) (t := g) (m := 32) p3 (by omega) (by omega)
  have t1 := tg.l1
  have t6 := tg.l2
  obtain ⟨R, c5, r1, r32, p5, eR⟩ : ∃ (R : Nat) (c5 : Cell), 1 ≤ R ∧ R ≤ 32 ∧ Pn (b + 987) c5 ∧ msIf (mTb (mOp (dEq false) (mCall 2 (m__law_take) (mCons (mVar 0) (mCons (mC (.int 6)) (mNil)))) (mC (.int 0)))) (msSet 2 (mOp dAdd (mC (.int 1)) (mCall 2 (m__law_take) (mCons (mVar 0) (mCons (mC (.int 32)) (mNil)))))) (msNil) [some (.ref 1), some (.str t), some (.int (1 + (u : Nat) : Int)), none, none, none, none] (z :: c2 :: g) = .nx [some (.ref 1), some (.str t), some (.int (R : Nat)), none, none, none, none] (z :: c5 :: g) := by
    by_cases q : v = 0
    · refine ⟨1 + w, c4, by omega, by omega, p4, ?_⟩
      simp [e3, e4, q]
    · refine ⟨1 + u, c3, by omega, by omega, p3.mono (by omega), ?_⟩
      simp [e3, q]
  obtain ⟨G, c6, k, T6, e6, d6, gk, gl, p6⟩ := goes_call (b := b + 680) (z := z) (c := c5) (g := g) (S := t.length) (R := R) t1 t6 r1 r32 (p5.mono (by omega))
  obtain ⟨K, c7, e7, kl, k0, kk, p7⟩ := kinds_call (b := b + 600) (z := z) (c := c6) (g := g) r1 r32 (p6.mono (by omega))
  obtain ⟨B, RW, c8, e8, I, lR, ri, gkR, p8⟩ := split2_call (z := z) (g := g) (K := K) gk gl kl r1 r32 t6 (b := b + 100) (c := c7) (p7.mono (by omega))
  have lb := I.le
  have lb1 : 1 ≤ B.length := by have := (List.getElem?_eq_some_iff.mp I.b0).1; omega
  have kl2 : (B.map fun x => K.getD x 0).length = B.length := List.length_map ..
  have k02 : (B.map fun x => K.getD x 0)[0]? = some (-1) := by
    rw [List.getElem?_map, I.b0]
    show some (K.getD 0 0) = _
    rw [List.getD_eq_getElem?_getD, k0]
    rfl
  have kk2 : ∀ k ∈ B.map fun x => K.getD x 0, -1 ≤ k ∧ k ≤ 5 := fun k hk => by
    obtain ⟨x, hx, rfl⟩ := List.mem_map.mp hk
    have := I.lt x hx
    refine kk _ ?_
    rw [List.getD_eq_getElem?_getD, List.getElem?_eq_getElem (by omega)]
    exact List.getElem_mem _
  obtain ⟨M, c9, e9, mm, m0, p9⟩ := shuffled_call (b := b) (z := z) (c := c8) (g := g) gkR lR kl2 lb1 lb t6 (p8.mono (by omega))
  have okG := sh_ok tg gkR lR kl2 k02 kk2 mm m0 lb1 lb
  have al := led_shT (t := t) (K := B.map fun x => K.getD x 0) mm m0 lR ri
  refine ⟨shT t RW (B.map fun x => K.getD x 0) M, c9, callC_pen0 rfl ?_, okG, al, p9⟩
  have bl : ∀ h : IH, bLen [.str t] h = .ok (.int (t.length : Nat)) h := fun h => bLen_str (by omega)
  unfold m__law_copied
  rw [ap_fnM]
  simp only [List.map_cons, List.map_nil, List.length_cons, List.length_nil, List.cons_append, List.nil_append, Nat.reduceAdd, Nat.reduceSub, List.replicate]
  refine stN (env2 := [some (.ref 1), some (.str t), none, none, none, none, none]) (h2 := z :: c1 :: g) (by simp [e1]) ?_
  refine stN (env2 := [some (.ref 1), some (.str t), some (.int (1 + (u : Nat) : Int)), none, none, none, none]) (h2 := z :: c2 :: g) (by simp [e2]) ?_
  refine stN eR ?_
  have e6' : (mDz (mCall 3 (m__law_goes) (mCons (mVar 0) (mCons (mB bLen (mCons (mVar 1) (mNil))) (mCons (mVar 2) (mNil)))))) [some (.ref 1), some (.str t), some (.int (R : Nat)), none, none, none, none] (z :: c5 :: g) = .ok (.fl (G.map rF)) (z :: c6 :: g) := by
    rw [ap_mDz_call]
    simp only [ap_mCons, ap_mVar, ap_mB, ap_mNil, List.getElem?_cons_zero, List.getElem?_cons_succ, bind_ok, bl]
    rw [e6]
    exact d6
  refine stN (env2 := [some (.ref 1), some (.str t), some (.int (R : Nat)), some (.fl (RW.map rF)), some (.fl ((B.map fun x => K.getD x 0).map D.int)), none, none]) (h2 := z :: c8 :: g) (by
    generalize mDz (mCall 3 (m__law_goes) (mCons (mVar 0) (mCons (mB bLen (mCons (mVar 1) (mNil))) (mCons (mVar 2) (mNil))))) = CC at *
    generalize (B.map fun x => K.getD x 0).map D.int = KB at *
    generalize RW.map rF = RR at *
    generalize G.map rF = GG at *
    generalize K.map D.int = KK at *
    simp [e6', e7, e8, gSets]) ?_
  have enG : (shT t RW (B.map fun x => K.getD x 0) M).enc = .tup [.str t, .tup ((List.range M.length).map fun p => gT (nr M (RW.getD (M.idxOf p) []))), .tup ((List.range M.length).map fun p => D.int ((B.map fun x => K.getD x 0).getD (M.idxOf p) 0))] := by
    unfold Tb.enc shT
    simp only [List.map_map]
    rfl
  rw [enG]
  clear enG okG al
  generalize (List.range M.length).map (fun p => gT (nr M (RW.getD (M.idxOf p) []))) = A3 at *
  generalize (List.range M.length).map (fun p => D.int ((B.map fun x => K.getD x 0).getD (M.idxOf p) 0)) = A4 at *
  generalize (B.map fun x => K.getD x 0).map D.int = KB at *
  generalize RW.map rF = RR at *
  clear e6' e6 d6
  generalize G.map rF = GG at *
  generalize K.map D.int = KK at *
  simp [e9, gSets]
end NR

set_option Elab.async false
set_option linter.all false
set_option maxRecDepth 100000
set_option maxHeartbeats 1000000
namespace NR
open PySem PySem.Spec PyProof.Rows L2
theorem range_idx {n t : Nat} (h : t < n) : (List.range n).idxOf t = t := idx_nodup List.nodup_range (by rw [List.getElem?_range h])
section
variable {U : Tb}
theorem og_range (ok : U.Ok) (od : U.order = List.range U.goes.length) : U.og = U.goes := by
  unfold Tb.og
  rw [od]
  apply List.ext_getElem?
  intro i
  rw [List.getElem?_map]
  by_cases hi : i < U.goes.length
  · rw [List.getElem?_range hi, Option.map_some, List.getD_eq_getElem?_getD, List.getElem?_eq_getElem hi]
    show some ((U.goes[i]).map _) = some U.goes[i]
    congr 1
    have ro := (ok.row _ (List.getElem_mem hi)).2
    generalize U.goes[i] = r at *
    conv => rhs; rw [← List.map_id r]
    exact List.map_congr_left fun t ht => range_idx (ro t ht)
  · rw [List.getElem?_eq_none (by rw [List.length_range]; omega), List.getElem?_eq_none (by omega)]
    rfl
theorem ok_range (ok : U.Ok) (od : U.order = List.range U.goes.length) : U.ok' = U.kinds := by
  have kl := ok.kl
  unfold Tb.ok'
  rw [od]
  apply List.ext_getElem?
  intro i
  rw [List.getElem?_map]
  by_cases hi : i < U.goes.length
  · rw [List.getElem?_range hi, Option.map_some, List.getD_eq_getElem?_getD, List.getElem?_eq_getElem (by omega)]
    rfl
  · rw [List.getElem?_eq_none (by rw [List.length_range]; omega), List.getElem?_eq_none (by omega)]
    rfl
theorem can_full {M : List Nat} (can : Can M) (h : nCls M = M.length) : M = List.range M.length := by
  have nd : M.Nodup := by
    refine List.pairwise_iff_getElem.mpr fun i j hi hj hij z => ?_
    -- two alike: fewer classes
    have hs : (ddp [] M).length ≤ (M.eraseIdx j).length := sub_len _ _ (ddp_nodup List.nodup_nil) fun x hx => by
      have hx : x ∈ M := by
        rcases ddp_mem.mp hx with h | h
        · simp at h
        · exact h
      rw [List.mem_eraseIdx_iff_getElem]
      obtain ⟨k, hk, rfl⟩ := List.mem_iff_getElem.mp hx
      by_cases q : k = j
      · subst q
        exact ⟨i, hi, by omega, z⟩
      · exact ⟨k, hk, q, rfl⟩
    rw [List.length_eraseIdx, if_pos hj] at hs
    unfold nCls at h
    omega
  have d := can_ddp can
  rw [h] at d
  have : ddp [] M = M := by
    have key : ∀ (l S : List Nat), (S ++ l).Nodup → ddp S l = S ++ l := by
      intro l
      induction l with
      | nil => intro S _; simp [ddp]
      | cons a l ih =>
        intro S hn
        have ha : a ∉ S := fun q => by
          rw [List.nodup_append] at hn
          exact hn.2.2 a q a List.mem_cons_self rfl
        rw [ddp, if_neg ha, ih (S ++ [a]) (by simpa using hn)]
        simp
    simpa using key M [] (by simpa using nd)
  rw [this] at d
  exact d
theorem join_self (ok : U.Ok) : joinT U.sig U.goes U.kinds (List.range U.goes.length) = U := by
  have kl := ok.kl
  have nr : nCls (List.range U.goes.length) = U.goes.length := by
    unfold nCls
    have h1 := nCls_le (ks := List.range U.goes.length)
    have h2 : (List.range U.goes.length).length ≤ (ddp [] (List.range U.goes.length)).length := sub_len _ _ List.nodup_range fun x hx => mem_ddp hx
    unfold nCls at h1
    rw [List.length_range] at h1 h2
    omega
  have fs : firstsL (List.range U.goes.length) U.goes.length = List.range U.goes.length := by
    unfold firstsL
    conv => rhs; rw [← List.map_id (List.range U.goes.length)]
    exact List.map_congr_left fun t ht => range_idx (List.mem_range.mp ht)
  unfold joinT
  rw [nr, fs]
  have e1 : ((List.range U.goes.length).map fun r => (U.goes.getD r []).map fun t => (List.range U.goes.length).getD t 0) = U.goes := by
    apply List.ext_getElem?
    intro i
    rw [List.getElem?_map]
    by_cases hi : i < U.goes.length
    · rw [List.getElem?_range hi, Option.map_some, List.getD_eq_getElem?_getD, List.getElem?_eq_getElem hi]
      show some ((U.goes[i]).map _) = some U.goes[i]
      congr 1
      have ro := (ok.row _ (List.getElem_mem hi)).2
      generalize U.goes[i] = r at *
      conv => rhs; rw [← List.map_id r]
      refine List.map_congr_left fun t ht => ?_
      rw [List.getD_eq_getElem?_getD, List.getElem?_range (ro t ht)]
      rfl
    · rw [List.getElem?_eq_none (by rw [List.length_range]; omega), List.getElem?_eq_none (by omega)]
      rfl
  have e2 : ((List.range U.goes.length).map fun r => U.kinds.getD r 0) = U.kinds := by
    apply List.ext_getElem?
    intro i
    rw [List.getElem?_map]
    by_cases hi : i < U.goes.length
    · rw [List.getElem?_range hi, Option.map_some, List.getD_eq_getElem?_getD, List.getElem?_eq_getElem (by omega)]
      rfl
    · rw [List.getElem?_eq_none (by rw [List.length_range]; omega), List.getElem?_eq_none (by omega)]
      rfl
  rw [e1, e2]
theorem enc_pl : U.enc.pl 50 = true := by
  unfold Tb.enc
  rw [show (50 : Nat) = 49 + 1 from rfl, pl_tup]
  rw [List.all_cons, List.all_cons, List.all_cons, List.all_nil]
  have h1 : D.pl 49 (.tup (U.goes.map gT)) = true := by
    rw [show (49 : Nat) = 48 + 1 from rfl, pl_tup]
    refine pl_all fun d hd => ?_
    obtain ⟨r, _, rfl⟩ := List.mem_map.mp hd
    unfold gT
    rw [show (48 : Nat) = 47 + 1 from rfl, pl_tup]
    refine pl_all fun d hd => ?_
    obtain ⟨r, _, rfl⟩ := List.mem_map.mp hd
    rfl
  have h2 : D.pl 49 (.tup (U.kinds.map D.int)) = true := by
    rw [show (49 : Nat) = 48 + 1 from rfl, pl_tup]
    exact pl_ints
  rw [h1, h2]
  rfl
end
theorem right_call {T : Tb} (ok : T.Ok) (al : T.All) (h : IH) : callC 1 m__law_right [T.enc] h = .ok (.bl true) h := by
  obtain ⟨M, c, lc, _⟩ := least_call ok al
  have okU := least_ok ok al c
  have alU := ls_all ok al c
  have odU := ls_order ok al c
  have gl := ls_len (T := T) (M := M)
  rw [← gl] at odU
  have apart : ∀ W, MkM (lsT T M).goes (lsT T M).kinds W → finB (lsT T M).goes W = W → nCls W = (lsT T M).goes.length := fun W k st => by rw [gl]; exact ls_apart ok al c k st
  obtain ⟨M2, c2, lc2, _⟩ := least_call okU alU
  rw [og_range okU odU, ok_range okU odU] at c2 lc2
  have m2 : M2 = List.range (lsT T M).goes.length := by
    have n2 := apart M2 c2.toMkM c2.st
    have l2 := c2.len
    have := can_full c2.can (by omega)
    rw [l2] at this
    exact this
  rw [m2, join_self okU] at lc2
  have lc := lc h
  have lc : callC 1 m_least_of [T.enc] h = .ok (lsT T M).enc h := lc
  have lc2 := lc2 h
  have it := istable_call okU h
  have sk := lsame_kinds_call (f := phi T M) ok okU (phi_zero ok al c) (fun r hr => phi_kind ok al c hr) (fun r hr => phi_goes ok al c hr) h
  have io := lin_order_call okU odU h
  have au := lall_unlike_call okU apart h
  have de := dEq_self (h := h) (neg := false) (enc_pl (U := lsT T M))
  have sg : (lsT T M).sig = T.sig := rfl
  rw [sg] at it
  have t0' := tT0 (T := T) (h := h)
  have u1 := tT1 (T := lsT T M) (h := h)
  have u2 := tT2 (T := lsT T M) (h := h)
  clear apart c c2 okU alU odU gl
  refine callC_same rfl ?_
  unfold m__law_right
  rw [ap_fnM]
  simp only [List.map_cons, List.map_nil, List.length_cons, List.length_nil, List.cons_append, List.nil_append, Nat.reduceAdd, Nat.reduceSub, List.replicate]
  generalize (lsT T M).goes.map gT = GG at *
  generalize (lsT T M).kinds.map D.int = KK at *
  generalize (lsT T M).enc = UE at *
  generalize T.enc = TE at *
  refine stN (env2 := [some TE, some UE]) (h2 := h) (by simp [lc]) ?_
  refine stN (env2 := [some TE, some UE]) (h2 := h) (by simp [t0', it, sk]) ?_
  refine stN (env2 := [some TE, some UE]) (h2 := h) (by simp [u1, u2, io, au]) ?_
  simp [lc2, de]
theorem law_true : LawOk m_law := by
  intro ns l
  obtain ⟨c0, e0, p0⟩ := source_eq ns l
  generalize Cell.frz (ns.map D.int) = z at *
  obtain ⟨T, c1, e1, okT, alT, p1⟩ := copied_call (b := 60000) (z := z) (c := c0) (g := []) (p0.mono (by omega))
  obtain ⟨U, c2, e2, okU, alU, p2⟩ := copied_call (b := 30000) (z := z) (c := c1) (g := []) (p1.mono (by omega))
  have rT := right_call okT alT [z, c2]
  have rU := right_call okU alU [z, c2]
  show ∃ h', m_law _ _ = _
  refine ⟨[z, c2], ?_⟩
  unfold m_law
  rw [ap_fnM]
  simp only [List.map_cons, List.map_nil, List.length_cons, List.length_nil, List.cons_append, List.nil_append, Nat.reduceAdd, Nat.reduceSub, List.replicate]
  generalize T.enc = TE at *
  generalize U.enc = UE at *
  refine stN (env2 := [some (.ref 0), some (.ref 1), none, none]) (h2 := [z, c0]) (by simp [e0]) ?_
  refine stN (env2 := [some (.ref 0), some (.ref 1), some TE, none]) (h2 := [z, c1]) (by simp [e1]) ?_
  refine stN (env2 := [some (.ref 0), some (.ref 1), some TE, some UE]) (h2 := [z, c2]) (by simp [e2]) ?_
  simp [rT, rU]
end NR

set_option Elab.async false
set_option linter.all false
set_option maxRecDepth 100000
set_option maxHeartbeats 4000000
namespace NR
open PySem PySem.Spec PyProof.Rows L2
theorem all_mk {l : PySem.W.OpenLaw} {w : World} {K : PySem.W.Frag} {h : Heap} {mg : Str → Option Value} {fa : Addr} (X : K.In h) (Gn : h.Ns mainGlobals mg) (hfa : mg "law" = some (.ref fa))
    (z_abs : PySem.W.nsIn K mainGlobals "abs" = some none)
    (z_all : PySem.W.nsIn K mainGlobals "all" = some none)
    (z_bool : PySem.W.nsIn K mainGlobals "bool" = some none)
    (z_enumerate : PySem.W.nsIn K mainGlobals "enumerate" = some none)
    (z_int : PySem.W.nsIn K mainGlobals "int" = some none)
    (z_isinstance : PySem.W.nsIn K mainGlobals "isinstance" = some none)
    (z_len : PySem.W.nsIn K mainGlobals "len" = some none)
    (z_list : PySem.W.nsIn K mainGlobals "list" = some none)
    (z_max : PySem.W.nsIn K mainGlobals "max" = some none)
    (z_range : PySem.W.nsIn K mainGlobals "range" = some none)
    (z_str : PySem.W.nsIn K mainGlobals "str" = some none)
    (z_tuple : PySem.W.nsIn K mainGlobals "tuple" = some none)
    (z_zip : PySem.W.nsIn K mainGlobals "zip" = some none)
    {f0 : Addr} {od0 an0 : Option Addr} {sl0 : Array (Option Value)} {oc0 kV0 dc0 pm0 cd0 ct0 : Value} (a0 : PySem.W.nsIn K mainGlobals "numbered" = some (some (.ref f0))) (l0 : K.lookup f0 = some ⟨oc0, od0, .func (PySem.W.fnOf "numbered" "numbered" (defArgs (topS 1)) (defBody (topS 1)) (defScope (topS 1)) .none kV0 dc0 pm0 an0 cd0 ct0), sl0⟩) (b0 : PySem.W.codeIn K cd0 "numbered" = true) (k0 : PySem.W.keepIn K (.ref f0) = true)
    {f1 : Addr} {od1 an1 : Option Addr} {sl1 : Array (Option Value)} {oc1 kV1 dc1 pm1 cd1 ct1 : Value} (a1 : PySem.W.nsIn K mainGlobals "joined" = some (some (.ref f1))) (l1 : K.lookup f1 = some ⟨oc1, od1, .func (PySem.W.fnOf "joined" "joined" (defArgs (topS 4)) (defBody (topS 4)) (defScope (topS 4)) .none kV1 dc1 pm1 an1 cd1 ct1), sl1⟩) (b1 : PySem.W.codeIn K cd1 "joined" = true) (k1 : PySem.W.keepIn K (.ref f1) = true)
    {f2 : Addr} {od2 an2 : Option Addr} {sl2 : Array (Option Value)} {oc2 kV2 dc2 pm2 cd2 ct2 : Value} (a2 : PySem.W.nsIn K mainGlobals "in_order" = some (some (.ref f2))) (l2 : K.lookup f2 = some ⟨oc2, od2, .func (PySem.W.fnOf "in_order" "in_order" (defArgs (topS 6)) (defBody (topS 6)) (defScope (topS 6)) .none kV2 dc2 pm2 an2 cd2 ct2), sl2⟩) (b2 : PySem.W.codeIn K cd2 "in_order" = true) (k2 : PySem.W.keepIn K (.ref f2) = true)
    {f3 : Addr} {od3 an3 : Option Addr} {sl3 : Array (Option Value)} {oc3 kV3 dc3 pm3 cd3 ct3 : Value} (a3 : PySem.W.nsIn K mainGlobals "_law_hand" = some (some (.ref f3))) (l3 : K.lookup f3 = some ⟨oc3, od3, .func (PySem.W.fnOf "_law_hand" "_law_hand" (defArgs (topS 11)) (defBody (topS 11)) (defScope (topS 11)) .none kV3 dc3 pm3 an3 cd3 ct3), sl3⟩) (b3 : PySem.W.codeIn K cd3 "_law_hand" = true) (k3 : PySem.W.keepIn K (.ref f3) = true)
    {f4 : Addr} {od4 an4 : Option Addr} {sl4 : Array (Option Value)} {oc4 kV4 dc4 pm4 cd4 ct4 : Value} (a4 : PySem.W.nsIn K mainGlobals "_law_take" = some (some (.ref f4))) (l4 : K.lookup f4 = some ⟨oc4, od4, .func (PySem.W.fnOf "_law_take" "_law_take" (defArgs (topS 12)) (defBody (topS 12)) (defScope (topS 12)) .none kV4 dc4 pm4 an4 cd4 ct4), sl4⟩) (b4 : PySem.W.codeIn K cd4 "_law_take" = true) (k4 : PySem.W.keepIn K (.ref f4) = true)
    {f5 : Addr} {od5 an5 : Option Addr} {sl5 : Array (Option Value)} {oc5 kV5 dc5 pm5 cd5 ct5 : Value} (a5 : PySem.W.nsIn K mainGlobals "_law_signs" = some (some (.ref f5))) (l5 : K.lookup f5 = some ⟨oc5, od5, .func (PySem.W.fnOf "_law_signs" "_law_signs" (defArgs (topS 13)) (defBody (topS 13)) (defScope (topS 13)) .none kV5 dc5 pm5 an5 cd5 ct5), sl5⟩) (b5 : PySem.W.codeIn K cd5 "_law_signs" = true) (k5 : PySem.W.keepIn K (.ref f5) = true)
    {f6 : Addr} {od6 an6 : Option Addr} {sl6 : Array (Option Value)} {oc6 kV6 dc6 pm6 cd6 ct6 : Value} (a6 : PySem.W.nsIn K mainGlobals "_law_number" = some (some (.ref f6))) (l6 : K.lookup f6 = some ⟨oc6, od6, .func (PySem.W.fnOf "_law_number" "_law_number" (defArgs (topS 20)) (defBody (topS 20)) (defScope (topS 20)) .none kV6 dc6 pm6 an6 cd6 ct6), sl6⟩) (b6 : PySem.W.codeIn K cd6 "_law_number" = true) (k6 : PySem.W.keepIn K (.ref f6) = true)
    {f7 : Addr} {od7 an7 : Option Addr} {sl7 : Array (Option Value)} {oc7 kV7 dc7 pm7 cd7 ct7 : Value} (a7 : PySem.W.nsIn K mainGlobals "_law_in_order" = some (some (.ref f7))) (l7 : K.lookup f7 = some ⟨oc7, od7, .func (PySem.W.fnOf "_law_in_order" "_law_in_order" (defArgs (topS 23)) (defBody (topS 23)) (defScope (topS 23)) .none kV7 dc7 pm7 an7 cd7 ct7), sl7⟩) (b7 : PySem.W.codeIn K cd7 "_law_in_order" = true) (k7 : PySem.W.keepIn K (.ref f7) = true)
    {f8 : Addr} {od8 an8 : Option Addr} {sl8 : Array (Option Value)} {oc8 kV8 dc8 pm8 cd8 ct8 : Value} (a8 : PySem.W.nsIn K mainGlobals "_law_same_kinds" = some (some (.ref f8))) (l8 : K.lookup f8 = some ⟨oc8, od8, .func (PySem.W.fnOf "_law_same_kinds" "_law_same_kinds" (defArgs (topS 24)) (defBody (topS 24)) (defScope (topS 24)) .none kV8 dc8 pm8 an8 cd8 ct8), sl8⟩) (b8 : PySem.W.codeIn K cd8 "_law_same_kinds" = true) (k8 : PySem.W.keepIn K (.ref f8) = true)
    {f9 : Addr} {od9 an9 : Option Addr} {sl9 : Array (Option Value)} {oc9 kV9 dc9 pm9 cd9 ct9 : Value} (a9 : PySem.W.nsIn K mainGlobals "_law_all_unlike" = some (some (.ref f9))) (l9 : K.lookup f9 = some ⟨oc9, od9, .func (PySem.W.fnOf "_law_all_unlike" "_law_all_unlike" (defArgs (topS 25)) (defBody (topS 25)) (defScope (topS 25)) .none kV9 dc9 pm9 an9 cd9 ct9), sl9⟩) (b9 : PySem.W.codeIn K cd9 "_law_all_unlike" = true) (k9 : PySem.W.keepIn K (.ref f9) = true)
    {f10 : Addr} {od10 an10 : Option Addr} {sl10 : Array (Option Value)} {oc10 kV10 dc10 pm10 cd10 ct10 : Value} (a10 : PySem.W.nsIn K mainGlobals "finer" = some (some (.ref f10))) (l10 : K.lookup f10 = some ⟨oc10, od10, .func (PySem.W.fnOf "finer" "finer" (defArgs (topS 2)) (defBody (topS 2)) (defScope (topS 2)) .none kV10 dc10 pm10 an10 cd10 ct10), sl10⟩) (b10 : PySem.W.codeIn K cd10 "finer" = true) (k10 : PySem.W.keepIn K (.ref f10) = true)
    {f11 : Addr} {od11 an11 : Option Addr} {sl11 : Array (Option Value)} {oc11 kV11 dc11 pm11 cd11 ct11 : Value} (a11 : PySem.W.nsIn K mainGlobals "put_in_order" = some (some (.ref f11))) (l11 : K.lookup f11 = some ⟨oc11, od11, .func (PySem.W.fnOf "put_in_order" "put_in_order" (defArgs (topS 8)) (defBody (topS 8)) (defScope (topS 8)) .none kV11 dc11 pm11 an11 cd11 ct11), sl11⟩) (b11 : PySem.W.codeIn K cd11 "put_in_order" = true) (k11 : PySem.W.keepIn K (.ref f11) = true)
    {f12 : Addr} {od12 an12 : Option Addr} {sl12 : Array (Option Value)} {oc12 kV12 dc12 pm12 cd12 ct12 : Value} (a12 : PySem.W.nsIn K mainGlobals "_law_tongue" = some (some (.ref f12))) (l12 : K.lookup f12 = some ⟨oc12, od12, .func (PySem.W.fnOf "_law_tongue" "_law_tongue" (defArgs (topS 14)) (defBody (topS 14)) (defScope (topS 14)) .none kV12 dc12 pm12 an12 cd12 ct12), sl12⟩) (b12 : PySem.W.codeIn K cd12 "_law_tongue" = true) (k12 : PySem.W.keepIn K (.ref f12) = true)
    {f13 : Addr} {od13 an13 : Option Addr} {sl13 : Array (Option Value)} {oc13 kV13 dc13 pm13 cd13 ct13 : Value} (a13 : PySem.W.nsIn K mainGlobals "_law_goes" = some (some (.ref f13))) (l13 : K.lookup f13 = some ⟨oc13, od13, .func (PySem.W.fnOf "_law_goes" "_law_goes" (defArgs (topS 15)) (defBody (topS 15)) (defScope (topS 15)) .none kV13 dc13 pm13 an13 cd13 ct13), sl13⟩) (b13 : PySem.W.codeIn K cd13 "_law_goes" = true) (k13 : PySem.W.keepIn K (.ref f13) = true)
    {f14 : Addr} {od14 an14 : Option Addr} {sl14 : Array (Option Value)} {oc14 kV14 dc14 pm14 cd14 ct14 : Value} (a14 : PySem.W.nsIn K mainGlobals "_law_kinds" = some (some (.ref f14))) (l14 : K.lookup f14 = some ⟨oc14, od14, .func (PySem.W.fnOf "_law_kinds" "_law_kinds" (defArgs (topS 16)) (defBody (topS 16)) (defScope (topS 16)) .none kV14 dc14 pm14 an14 cd14 ct14), sl14⟩) (b14 : PySem.W.codeIn K cd14 "_law_kinds" = true) (k14 : PySem.W.keepIn K (.ref f14) = true)
    {f15 : Addr} {od15 an15 : Option Addr} {sl15 : Array (Option Value)} {oc15 kV15 dc15 pm15 cd15 ct15 : Value} (a15 : PySem.W.nsIn K mainGlobals "_law_shuffled" = some (some (.ref f15))) (l15 : K.lookup f15 = some ⟨oc15, od15, .func (PySem.W.fnOf "_law_shuffled" "_law_shuffled" (defArgs (topS 17)) (defBody (topS 17)) (defScope (topS 17)) .none kV15 dc15 pm15 an15 cd15 ct15), sl15⟩) (b15 : PySem.W.codeIn K cd15 "_law_shuffled" = true) (k15 : PySem.W.keepIn K (.ref f15) = true)
    {f16 : Addr} {od16 an16 : Option Addr} {sl16 : Array (Option Value)} {oc16 kV16 dc16 pm16 cd16 ct16 : Value} (a16 : PySem.W.nsIn K mainGlobals "_law_split" = some (some (.ref f16))) (l16 : K.lookup f16 = some ⟨oc16, od16, .func (PySem.W.fnOf "_law_split" "_law_split" (defArgs (topS 18)) (defBody (topS 18)) (defScope (topS 18)) .none kV16 dc16 pm16 an16 cd16 ct16), sl16⟩) (b16 : PySem.W.codeIn K cd16 "_law_split" = true) (k16 : PySem.W.keepIn K (.ref f16) = true)
    {f17 : Addr} {od17 an17 : Option Addr} {sl17 : Array (Option Value)} {oc17 kV17 dc17 pm17 cd17 ct17 : Value} (a17 : PySem.W.nsIn K mainGlobals "_law_is_row" = some (some (.ref f17))) (l17 : K.lookup f17 = some ⟨oc17, od17, .func (PySem.W.fnOf "_law_is_row" "_law_is_row" (defArgs (topS 21)) (defBody (topS 21)) (defScope (topS 21)) .none kV17 dc17 pm17 an17 cd17 ct17), sl17⟩) (b17 : PySem.W.codeIn K cd17 "_law_is_row" = true) (k17 : PySem.W.keepIn K (.ref f17) = true)
    {f18 : Addr} {od18 an18 : Option Addr} {sl18 : Array (Option Value)} {oc18 kV18 dc18 pm18 cd18 ct18 : Value} (a18 : PySem.W.nsIn K mainGlobals "classes_of" = some (some (.ref f18))) (l18 : K.lookup f18 = some ⟨oc18, od18, .func (PySem.W.fnOf "classes_of" "classes_of" (defArgs (topS 3)) (defBody (topS 3)) (defScope (topS 3)) .none kV18 dc18 pm18 an18 cd18 ct18), sl18⟩) (b18 : PySem.W.codeIn K cd18 "classes_of" = true) (k18 : PySem.W.keepIn K (.ref f18) = true)
    {f19 : Addr} {od19 an19 : Option Addr} {sl19 : Array (Option Value)} {oc19 kV19 dc19 pm19 cd19 ct19 : Value} (a19 : PySem.W.nsIn K mainGlobals "_law_copied" = some (some (.ref f19))) (l19 : K.lookup f19 = some ⟨oc19, od19, .func (PySem.W.fnOf "_law_copied" "_law_copied" (defArgs (topS 19)) (defBody (topS 19)) (defScope (topS 19)) .none kV19 dc19 pm19 an19 cd19 ct19), sl19⟩) (b19 : PySem.W.codeIn K cd19 "_law_copied" = true) (k19 : PySem.W.keepIn K (.ref f19) = true)
    {f20 : Addr} {od20 an20 : Option Addr} {sl20 : Array (Option Value)} {oc20 kV20 dc20 pm20 cd20 ct20 : Value} (a20 : PySem.W.nsIn K mainGlobals "_law_is_table" = some (some (.ref f20))) (l20 : K.lookup f20 = some ⟨oc20, od20, .func (PySem.W.fnOf "_law_is_table" "_law_is_table" (defArgs (topS 22)) (defBody (topS 22)) (defScope (topS 22)) .none kV20 dc20 pm20 an20 cd20 ct20), sl20⟩) (b20 : PySem.W.codeIn K cd20 "_law_is_table" = true) (k20 : PySem.W.keepIn K (.ref f20) = true)
    {f21 : Addr} {od21 an21 : Option Addr} {sl21 : Array (Option Value)} {oc21 kV21 dc21 pm21 cd21 ct21 : Value} (a21 : PySem.W.nsIn K mainGlobals "least_of" = some (some (.ref f21))) (l21 : K.lookup f21 = some ⟨oc21, od21, .func (PySem.W.fnOf "least_of" "least_of" (defArgs (topS 9)) (defBody (topS 9)) (defScope (topS 9)) .none kV21 dc21 pm21 an21 cd21 ct21), sl21⟩) (b21 : PySem.W.codeIn K cd21 "least_of" = true) (k21 : PySem.W.keepIn K (.ref f21) = true)
    {f22 : Addr} {od22 an22 : Option Addr} {sl22 : Array (Option Value)} {oc22 kV22 dc22 pm22 cd22 ct22 : Value} (a22 : PySem.W.nsIn K mainGlobals "_law_right" = some (some (.ref f22))) (l22 : K.lookup f22 = some ⟨oc22, od22, .func (PySem.W.fnOf "_law_right" "_law_right" (defArgs (topS 26)) (defBody (topS 26)) (defScope (topS 26)) .none kV22 dc22 pm22 an22 cd22 ct22), sl22⟩) (b22 : PySem.W.codeIn K cd22 "_law_right" = true) (k22 : PySem.W.keepIn K (.ref f22) = true)
    {f23 : Addr} {od23 an23 : Option Addr} {sl23 : Array (Option Value)} {oc23 kV23 dc23 pm23 cd23 ct23 : Value} (a23 : PySem.W.nsIn K mainGlobals "law" = some (some (.ref f23))) (l23 : K.lookup f23 = some ⟨oc23, od23, .func (PySem.W.fnOf "law" "law" (defArgs (topS 27)) (defBody (topS 27)) (defScope (topS 27)) .none kV23 dc23 pm23 an23 cd23 ct23), sl23⟩) (b23 : PySem.W.codeIn K cd23 "law" = true) (k23 : PySem.W.keepIn K (.ref f23) = true) :
    ∃ fd : FuncData, (∀ (s : Shared) (v : Value), BindsTo s fd ⟨[v], []⟩ [("_law_script", v)]) ∧ ∀ base : Heap, K.In base → base.Ns mainGlobals mg → FnOk l.prog w K mg base (L2.CX l.prog w) 6 fa fd ["_law_script"] (spLaw ⟨K, fun _ => 0⟩ m_law) := by
  have e := hfa.symm.trans (PySem.W.mg_of X Gn a23)
  cases e
  have F0 := fun_mk (st := topS 1) l0 b0 k0
  have B0 := F0.binds (ps := ["keys"]) fun _ _ _ _ _ _ us hl => match us, hl with | [_], _ => rfl
  have F1 := fun_mk (st := topS 4) l1 b1 k1
  have B1 := F1.binds (ps := ["tongue", "goes", "kinds", "marks"]) fun _ _ _ _ _ _ us hl => match us, hl with | [_, _, _, _], _ => rfl
  have F2 := fun_mk (st := topS 6) l2 b2 k2
  have B2 := F2.binds (ps := ["goes"]) fun _ _ _ _ _ _ us hl => match us, hl with | [_], _ => rfl
  have F3 := fun_mk (st := topS 11) l3 b3 k3
  have B3 := F3.binds (ps := ["_law_script"]) fun _ _ _ _ _ _ us hl => match us, hl with | [_], _ => rfl
  have F4 := fun_mk (st := topS 12) l4 b4 k4
  have B4 := F4.binds (ps := ["_law_hand_here", "_law_many"]) fun _ _ _ _ _ _ us hl => match us, hl with | [_, _], _ => rfl
  have F5 := fun_mk (st := topS 13) l5 b5 k5
  have B5 := F5.binds (ps := []) fun _ _ _ _ _ _ us hl => match us, hl with | [], _ => rfl
  have F6 := fun_mk (st := topS 20) l6 b6 k6
  have B6 := F6.binds (ps := ["_law_thing", "_law_low", "_law_high"]) fun _ _ _ _ _ _ us hl => match us, hl with | [_, _, _], _ => rfl
  have F7 := fun_mk (st := topS 23) l7 b7 k7
  have B7 := F7.binds (ps := ["_law_goes_here"]) fun _ _ _ _ _ _ us hl => match us, hl with | [_], _ => rfl
  have F8 := fun_mk (st := topS 24) l8 b8 k8
  have B8 := F8.binds (ps := ["_law_table", "_law_other"]) fun _ _ _ _ _ _ us hl => match us, hl with | [_, _], _ => rfl
  have F9 := fun_mk (st := topS 25) l9 b9 k9
  have B9 := F9.binds (ps := ["_law_goes_here", "_law_kinds_here"]) fun _ _ _ _ _ _ us hl => match us, hl with | [_, _], _ => rfl
  have F10 := fun_mk (st := topS 2) l10 b10 k10
  have B10 := F10.binds (ps := ["goes", "marks"]) fun _ _ _ _ _ _ us hl => match us, hl with | [_, _], _ => rfl
  have F11 := fun_mk (st := topS 8) l11 b11 k11
  have B11 := F11.binds (ps := ["table"]) fun _ _ _ _ _ _ us hl => match us, hl with | [_], _ => rfl
  have F12 := fun_mk (st := topS 14) l12 b12 k12
  have B12 := F12.binds (ps := ["_law_hand_here"]) fun _ _ _ _ _ _ us hl => match us, hl with | [_], _ => rfl
  have F13 := fun_mk (st := topS 15) l13 b13 k13
  have B13 := F13.binds (ps := ["_law_hand_here", "_law_size", "_law_rooms"]) fun _ _ _ _ _ _ us hl => match us, hl with | [_, _, _], _ => rfl
  have F14 := fun_mk (st := topS 16) l14 b14 k14
  have B14 := F14.binds (ps := ["_law_hand_here", "_law_rooms"]) fun _ _ _ _ _ _ us hl => match us, hl with | [_, _], _ => rfl
  have F15 := fun_mk (st := topS 17) l15 b15 k15
  have B15 := F15.binds (ps := ["_law_hand_here", "_law_goes_here", "_law_kinds_here"]) fun _ _ _ _ _ _ us hl => match us, hl with | [_, _, _], _ => rfl
  have F16 := fun_mk (st := topS 18) l16 b16 k16
  have B16 := F16.binds (ps := ["_law_hand_here", "_law_goes_here", "_law_kinds_here"]) fun _ _ _ _ _ _ us hl => match us, hl with | [_, _, _], _ => rfl
  have F17 := fun_mk (st := topS 21) l17 b17 k17
  have B17 := F17.binds (ps := ["_law_thing", "_law_size", "_law_low", "_law_high"]) fun _ _ _ _ _ _ us hl => match us, hl with | [_, _, _, _], _ => rfl
  have F18 := fun_mk (st := topS 3) l18 b18 k18
  have B18 := F18.binds (ps := ["goes", "kinds", "most"]) fun _ _ _ _ _ _ us hl => match us, hl with | [_, _, _], _ => rfl
  have F19 := fun_mk (st := topS 19) l19 b19 k19
  have B19 := F19.binds (ps := ["_law_hand_here"]) fun _ _ _ _ _ _ us hl => match us, hl with | [_], _ => rfl
  have F20 := fun_mk (st := topS 22) l20 b20 k20
  have B20 := F20.binds (ps := ["_law_thing", "_law_tongue_here"]) fun _ _ _ _ _ _ us hl => match us, hl with | [_, _], _ => rfl
  have F21 := fun_mk (st := topS 9) l21 b21 k21
  have B21 := F21.binds (ps := ["table"]) fun _ _ _ _ _ _ us hl => match us, hl with | [_], _ => rfl
  have F22 := fun_mk (st := topS 26) l22 b22 k22
  have B22 := F22.binds (ps := ["_law_table"]) fun _ _ _ _ _ _ us hl => match us, hl with | [_], _ => rfl
  have F23 := fun_mk (st := topS 27) l23 b23 k23
  have B23 := F23.binds (ps := ["_law_script"]) fun _ _ _ _ _ _ us hl => match us, hl with | [_], _ => rfl
  exact ⟨PySem.W.fnOf "law" "law" (defArgs (topS 27)) (defBody (topS 27)) (defScope (topS 27)) .none kV23 dc23 pm23 an23 cd23 ct23, fun s v => .of_eq rfl, fun base _ _ => 
    law_ok (G := ⟨K, fun _ => 0⟩) (all_ok (P := l.prog) (w := w) (base := base) (K := K) (mg := mg) (fun _ => 0) (PySem.W.mg_none_of X Gn z_abs) (PySem.W.mg_none_of X Gn z_all) (PySem.W.mg_none_of X Gn z_bool) (PySem.W.mg_none_of X Gn z_enumerate) (PySem.W.mg_none_of X Gn z_int) (PySem.W.mg_none_of X Gn z_isinstance) (PySem.W.mg_none_of X Gn z_len) (PySem.W.mg_none_of X Gn z_list) (PySem.W.mg_none_of X Gn z_max) (PySem.W.mg_none_of X Gn z_range) (PySem.W.mg_none_of X Gn z_str) (PySem.W.mg_none_of X Gn z_tuple) (PySem.W.mg_none_of X Gn z_zip) ⟨_, _, F0, PySem.W.mg_of X Gn a0, B0⟩ ⟨_, _, F1, PySem.W.mg_of X Gn a1, B1⟩ ⟨_, _, F2, PySem.W.mg_of X Gn a2, B2⟩ ⟨_, _, F3, PySem.W.mg_of X Gn a3, B3⟩ ⟨_, _, F4, PySem.W.mg_of X Gn a4, B4⟩ ⟨_, _, F5, PySem.W.mg_of X Gn a5, B5⟩ ⟨_, _, F6, PySem.W.mg_of X Gn a6, B6⟩ ⟨_, _, F7, PySem.W.mg_of X Gn a7, B7⟩ ⟨_, _, F8, PySem.W.mg_of X Gn a8, B8⟩ ⟨_, _, F9, PySem.W.mg_of X Gn a9, B9⟩ ⟨_, _, F10, PySem.W.mg_of X Gn a10, B10⟩ ⟨_, _, F11, PySem.W.mg_of X Gn a11, B11⟩ ⟨_, _, F12, PySem.W.mg_of X Gn a12, B12⟩ ⟨_, _, F13, PySem.W.mg_of X Gn a13, B13⟩ ⟨_, _, F14, PySem.W.mg_of X Gn a14, B14⟩ ⟨_, _, F15, PySem.W.mg_of X Gn a15, B15⟩ ⟨_, _, F16, PySem.W.mg_of X Gn a16, B16⟩ ⟨_, _, F17, PySem.W.mg_of X Gn a17, B17⟩ ⟨_, _, F18, PySem.W.mg_of X Gn a18, B18⟩ ⟨_, _, F19, PySem.W.mg_of X Gn a19, B19⟩ ⟨_, _, F20, PySem.W.mg_of X Gn a20, B20⟩ ⟨_, _, F21, PySem.W.mg_of X Gn a21, B21⟩ ⟨_, _, F22, PySem.W.mg_of X Gn a22, B22⟩ F23) law_true⟩
end NR
open PySem PySem.W PyProof.Rows
set_option maxHeartbeats 0 in
theorem PySem.Challenge.cw_nearreach_k29_least_tables_holds : PySem.Challenge.rw_nearreach_k29_least_tables.Holds := by
  w_on; o_law; k_head; (case hw => w_witness2)
  k_fill
  refine L2.walk_of (l := PySem.Challenge.rw_nearreach_k29_least_tables) (n := 63) (k := 6) (x := "_law_script") (CX := fun w => L2.CX (PySem.Challenge.rw_nearreach_k29_least_tables).prog w) (sp := fun w => NR.spLaw ⟨_, fun _ => 0⟩ NR.m_law) rfl (by decide) rfl ⟨rfl, by decide, by decide⟩ (fun w h Y => PySem.W.kIn_of Y) ?F (fun _ H a ns hl ho hS => ⟨a, ns, rfl, hl, ho, hS, fun _ => rfl⟩) (fun w H s e s' hx => NR.cx_no hx)
  case F =>
    intro w mg fa h KX G hmg
    refine' NR.all_mk KX G hmg ?z_abs ?z_all ?z_bool ?z_enumerate ?z_int ?z_isinstance ?z_len ?z_list ?z_max ?z_range ?z_str ?z_tuple ?z_zip ?a0 ?l0 ?b0 ?k0 ?a1 ?l1 ?b1 ?k1 ?a2 ?l2 ?b2 ?k2 ?a3 ?l3 ?b3 ?k3 ?a4 ?l4 ?b4 ?k4 ?a5 ?l5 ?b5 ?k5 ?a6 ?l6 ?b6 ?k6 ?a7 ?l7 ?b7 ?k7 ?a8 ?l8 ?b8 ?k8 ?a9 ?l9 ?b9 ?k9 ?a10 ?l10 ?b10 ?k10 ?a11 ?l11 ?b11 ?k11 ?a12 ?l12 ?b12 ?k12 ?a13 ?l13 ?b13 ?k13 ?a14 ?l14 ?b14 ?k14 ?a15 ?l15 ?b15 ?k15 ?a16 ?l16 ?b16 ?k16 ?a17 ?l17 ?b17 ?k17 ?a18 ?l18 ?b18 ?k18 ?a19 ?l19 ?b19 ?k19 ?a20 ?l20 ?b20 ?k20 ?a21 ?l21 ?b21 ?k21 ?a22 ?l22 ?b22 ?k22 ?a23 ?l23 ?b23 ?k23
    (case z_abs => k_is)
    (case z_all => k_is)
    (case z_bool => k_is)
    (case z_enumerate => k_is)
    (case z_int => k_is)
    (case z_isinstance => k_is)
    (case z_len => k_is)
    (case z_list => k_is)
    (case z_max => k_is)
    (case z_range => k_is)
    (case z_str => k_is)
    (case z_tuple => k_is)
    (case z_zip => k_is)
    (case a0 => k_is)
    (case l0 => k_is)
    (case b0 => k_is)
    (case k0 => k_is)
    (case a1 => k_is)
    (case l1 => k_is)
    (case b1 => k_is)
    (case k1 => k_is)
    (case a2 => k_is)
    (case l2 => k_is)
    (case b2 => k_is)
    (case k2 => k_is)
    (case a3 => k_is)
    (case l3 => k_is)
    (case b3 => k_is)
    (case k3 => k_is)
    (case a4 => k_is)
    (case l4 => k_is)
    (case b4 => k_is)
    (case k4 => k_is)
    (case a5 => k_is)
    (case l5 => k_is)
    (case b5 => k_is)
    (case k5 => k_is)
    (case a6 => k_is)
    (case l6 => k_is)
    (case b6 => k_is)
    (case k6 => k_is)
    (case a7 => k_is)
    (case l7 => k_is)
    (case b7 => k_is)
    (case k7 => k_is)
    (case a8 => k_is)
    (case l8 => k_is)
    (case b8 => k_is)
    (case k8 => k_is)
    (case a9 => k_is)
    (case l9 => k_is)
    (case b9 => k_is)
    (case k9 => k_is)
    (case a10 => k_is)
    (case l10 => k_is)
    (case b10 => k_is)
    (case k10 => k_is)
    (case a11 => k_is)
    (case l11 => k_is)
    (case b11 => k_is)
    (case k11 => k_is)
    (case a12 => k_is)
    (case l12 => k_is)
    (case b12 => k_is)
    (case k12 => k_is)
    (case a13 => k_is)
    (case l13 => k_is)
    (case b13 => k_is)
    (case k13 => k_is)
    (case a14 => k_is)
    (case l14 => k_is)
    (case b14 => k_is)
    (case k14 => k_is)
    (case a15 => k_is)
    (case l15 => k_is)
    (case b15 => k_is)
    (case k15 => k_is)
    (case a16 => k_is)
    (case l16 => k_is)
    (case b16 => k_is)
    (case k16 => k_is)
    (case a17 => k_is)
    (case l17 => k_is)
    (case b17 => k_is)
    (case k17 => k_is)
    (case a18 => k_is)
    (case l18 => k_is)
    (case b18 => k_is)
    (case k18 => k_is)
    (case a19 => k_is)
    (case l19 => k_is)
    (case b19 => k_is)
    (case k19 => k_is)
    (case a20 => k_is)
    (case l20 => k_is)
    (case b20 => k_is)
    (case k20 => k_is)
    (case a21 => k_is)
    (case l21 => k_is)
    (case b21 => k_is)
    (case k21 => k_is)
    (case a22 => k_is)
    (case l22 => k_is)
    (case b22 => k_is)
    (case k22 => k_is)
    (case a23 => k_is)
    (case l23 => k_is)
    (case b23 => k_is)
    (case k23 => k_is)
